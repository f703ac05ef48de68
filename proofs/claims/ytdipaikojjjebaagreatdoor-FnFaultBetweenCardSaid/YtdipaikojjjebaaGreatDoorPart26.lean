/-
  The program's graph is the reference's.
-/
import Derived.Test.YtdipaikojjjebaaGreatDoorPart25
import Derived.Test.YtdipaikojjjebaaGreatDoorPart21
set_option linter.all false
namespace Go.Am
open Go
theorem Hu{g g':Gr}(d:Jh g)(c:g.ls=g'.ls)(e:∀x:Int,0<=x/\x<g.N->∀l∈g.ls,g.succ x l=g'.succ x l):∀ {w:List Int} {a x:Int},over g w->(0<=a/\a<g.N)->(reach g w a x↔reach g' w a x)
 | [],a,x,_,_=>Iff.rfl
 | l :: w,a,x,f,ha=>by
  have j:=f l (by simp);simp only[reach,<-e a ha l j];constructor
  ·rintro⟨y,b,h⟩
   exact⟨y,b,(Hu d c e (λm i=>f m (by simp[i])) (d.inn a ha l j y b)).1 h⟩
  ·rintro⟨y,b,h⟩
   exact⟨y,b,(Hu d c e (λm i=>f m (by simp[i])) (d.inn a ha l j y b)).2 h⟩
theorem Cs.congr{g g':Gr}(c:Jh g)(d:g.ls=g'.ls)(q:g.s0=g'.s0)(m:∀x:Int,0<=x/\x<g.N->∀l∈g.ls,g.succ x l=g'.succ x l)(i:∀x:Int,0<=x/\x<g.N->g.goal x=g'.goal x){r:Option (List Int)}(h:Cs g r):Cs g' r:=by
 have b:∀w,over g' w↔over g w:=λw=>by unfold over;rw[d]
 have k:∀w,over g w->(Rs g' w↔Rs g w):=λw j=>by
  unfold Rs;rw[<-q];constructor
  ·rintro⟨x,a,e⟩
   have a:=(Hu c d m j c.s0).2 a;exact⟨x,a,by rw[i x (DE c j c.s0 a)];exact e⟩
  ·rintro⟨x,a,e⟩
   exact⟨x,(Hu c d m j c.s0).1 a,by rw[<-i x (DE c j c.s0 a)];exact e⟩
 cases r with
 | none=>exact λu f a=>h u ((b u).1 f) ((k u ((b u).1 f)).1 a)
 | some w=>
  obtain⟨n,p,o⟩:=h;exact⟨(b w).2 n,(k w n).2 p,λu f a=>o u ((b u).1 f) ((k u ((b u).1 f)).1 a)⟩
theorem eY{zs ws:List Int}{cs ds:List (List Int)}(h:FM zs cs):Ep (zs++ws) (cs++ds)=(Ep zs cs).flatMap λo=>(Ep ws ds).map λr=>o*Ax ws+r:=by
 induction h with
 | nil=>simp[Ep]
 | @cons z c zs cs _ _ _ a=>
  simp only[su,Ep,a];rw[List.flatMap_assoc];congr 1;funext q;rw[List.map_flatMap,List.flatMap_map];congr 1;funext o;rw[rL];congr 1;funext r;simp only[d5,Nt];rw[tg,s5];omega
theorem Wv(l:List Sys)(aus:List AK)(st:List Int)(ls kd gl:Int):Ai ⟨l,aus,st,ls,kd,gl⟩=l.map (·.st)++aus.map (λa=>(a.nx.length:Int)):=rfl
theorem LY{l:List Sys}{aus:List AK}{st:List Int}{ls kd gl:Int}(b:DS ⟨l,aus,st,ls,kd,gl⟩){node letter:Int}(f:0<=letter)(d:letter<6) :
 Fp ⟨l,aus,st,ls,kd,gl⟩ (Ai ⟨l,aus,st,ls,kd,gl⟩) (BF (Ai ⟨l,aus,st,ls,kd,gl⟩) node) letter =
  (Ep (l.map (·.st)) (bn l (node / Ax (aus.map λa=>(a.nx.length:Int))) letter)).flatMap λo=>(Ep (aus.map λa=>(a.nx.length:Int)) (aus.zipWith (λa q=>[Bg a q.toNat letter]) (BF (aus.map λa=>(a.nx.length:Int)) node))).map λr=>o*Ax (aus.map λa=>(a.nx.length:Int))+r:=by
 have hp:∀w∈aus.map (λa=>(a.nx.length:Int)),0<w:=λw g=>by
  obtain⟨a,ha,rfl⟩:=d9.1 g;have:=AB (b.au a ha);omega
 unfold Fp;rw[Sf (Iz b (Lz b node) f d),Wv,Pp _ _ _ hp];have c:=Tc b.ps b.np f d (node / Ax (aus.map λa=>(a.nx.length:Int)))
 have e:KP ⟨l,aus,st,ls,kd,gl⟩ (BF (l.map (·.st)) (node / Ax (aus.map λa=>(a.nx.length:Int)))++BF (aus.map λa=>(a.nx.length:Int)) node) letter=bn l (node / Ax (aus.map λa=>(a.nx.length:Int))) letter++aus.zipWith (λa q=>[Bg a q.toNat letter]) (BF (aus.map λa=>(a.nx.length:Int)) node):=by
  unfold KP bn
  have h:(BF (l.map (·.st)) (node / Ax (aus.map λa=>(a.nx.length:Int)))).length=l.length:=by rw[Ly];simp
  simp only;rw[List.drop_append_of_le_length (by omega),tf (by omega),ud];congr 1;rw[GB,List.take_append_of_le_length (by omega),kw (by omega)]
 rw[e,eY c]
theorem MV:∀(zs:List Int) (k:Nat),Du zs (List.replicate k 0) 0=0
 | [],k=>by simp[Du]
 | z::zs,0=>by simp[Du]
 | z::zs,k+1=>by
  rw[s6];simp only[Du,vb,Int.add_zero];exact MV zs k
theorem UX{a:Int}(ha:A1 a=true):Gu .i64 0 a=a/\Gu .i64 a 0=a:=by
 unfold A1 at ha;simp only[decide_eq_true_eq]at ha;have d:=JX (a:=0) (b:=a.toNat) (by omega) (by omega);have c:=JX (a:=a.toNat) (b:=0) (by omega) (by omega)
 have e:((a.toNat:Nat):Int)=a:=by omega
 rw[e]at d c;have f:(((0:Nat)):Int)=0:=rfl;rw[f]at d c;rw[Nat.zero_or]at d;rw[Nat.or_zero]at c;exact⟨by rw[d.1];exact e,by rw[c.1];exact e⟩
theorem X6{l:List Sys}(h:AX l=true):A1 (Bt l)=true:=by
 unfold Bt;rw[if_pos h];unfold AX at h;rw[d4]at h;exact JF h.2 rfl
theorem fw{s:Sys}{a p:AK}(h:BT s a p=true):Dy (gI [s] a p (Ab (Gu .i64 (Bt [s]) a.al)))=Dy (Ei (DW s a p)):=by
 obtain⟨j,hk,d⟩:=OP h;have c:=h;unfold BT at c;simp only[d4]at c;obtain⟨⟨i,ha⟩,hp⟩:=c;have n:=BE ha;have m:=BE hp
 have b:Bt [s]=s.al:=by
  have:AX [s]=true:=by simp[AX,i]
  unfold Bt;rw[if_pos this];exact(UX (AN i).1).1
 refine Ut (Cs.congr (Pz j d) ?_ ?_ (λx k l f=>?_) (λx k=>?_) (Dz _))
 ·show Ab (Gu .i64 s.al a.al)=Ab (Gu .i64 (Bt [s]) a.al)
  rw[b]
 ·exact MV (Ai (DW s a p)) 3
 ·have f:=Af (show l∈AI (Gu .i64 s.al a.al) 6 from f)
  show Fp (DW s a p) (Ai (DW s a p)) (BF (Ai (DW s a p)) x) l=JN [s] a p x l
  have e:=LY (l:=[s]) (aus:=[a,p]) (st:=[0,0,0]) (ls:=Gu .i64 s.al a.al) (kd:=2) (gl:=0) j (node:=x) f.1 (by omega);refine Eq.trans e ?_;unfold JN Gg;simp only[rX,u6,Ax,Int.mul_one,BF,List.zipWith_cons_cons,List.zipWith_nil_left,Ep,uv,List.flatMap_nil,rv,Int.ediv_one,Int.add_zero]
  have g:x / p.nx.length / a.nx.length=x / (a.nx.length*p.nx.length):=by rw[tN (by omega),tH]
  rw[g,List.map_eq_flatMap];congr 1;funext o;rw[s5]
 ·show CD (DW s a p) (BF (Ai (DW s a p)) x) (Fx (DW s a p) x.toNat)=NS a p x
  unfold CD cu NS;simp[DW,Ai,BF,Ax,List.getD]
theorem fv{l:List Sys}{p:AK}(h:(AX l && AD p)=true):Dy (gI l Oq p (Ab (Gu .i64 (Bt l) Oq.al)))=Dy (Ei (CO l p)):=by
 obtain⟨g,hk,c⟩:=OO h;rw[d4]at h;obtain⟨r,hp⟩:=h;have n:=BE hp;refine Ut (Cs.congr (Pz g c) ?_ ?_ (λx j m d=>?_) (λx j=>?_) (Dz _))
 ·show Ab (Bt l)=Ab (Gu .i64 (Bt l) 0)
  rw[(UX (X6 r)).2]
 ·exact MV (Ai (CO l p)) (l.length+1)
 ·have d:=Af (show m∈AI (Bt l) 6 from d)
  show Fp (CO l p) (Ai (CO l p)) (BF (Ai (CO l p)) x) m=JN l Oq p x m
  have e:=LY (l:=l) (aus:=[p]) (st:=List.replicate (l.length+1) 0) (ls:=Bt l) (kd:=3) (gl:=0) g (node:=x) d.1 (by omega);refine Eq.trans e ?_
  have f:∀q:Nat,Bg Oq q m=q:=λq=>by
   have:AV 0 m.toNat=false:=by
    have u:m=0\/m=1\/m=2\/m=3\/m=4\/m=5:=by omega
    rcases u with rfl|rfl|rfl|rfl|rfl|rfl<;>decide
   unfold Bg;rw[if_neg]
   show ¬AV 0 m.toNat=true
   rw[this];simp
  have b:((Oq.nx.length:Nat):Int)=1:=rfl;unfold JN Gg;rw[f,b];simp only[rX,u6,Ax,Int.mul_one,BF,List.zipWith_cons_cons,List.zipWith_nil_left,Ep,uv,List.flatMap_nil,rv,Int.ediv_one,Int.add_zero,Int.emod_one];generalize Ep (l.map (·.st)) (bn l (x / p.nx.length) m)=LL;rw[List.map_eq_flatMap];congr 1;funext o;simp
 ·show CD (CO l p) (BF (Ai (CO l p)) x) (Fx (CO l p) x.toNat)=NS Oq p x
  have b:((Oq.nx.length:Nat):Int)=1:=rfl;have t:=Pp (l.map (·.st)) [(p.nx.length:Int)] x (by intro w k;simp at k;omega);have i:Ai (CO l p)=l.map (·.st)++[(p.nx.length:Int)]:=rfl
  have a:(BF (l.map (·.st)) (x / Ax [(p.nx.length:Int)])).length=l.length:=by rw[Ly];simp
  rw[i,t];generalize BF (l.map (·.st)) (x / Ax [(p.nx.length:Int)])=dd at a
  have s:(dd++BF [(p.nx.length:Int)] x).getD (l.length+0) 0=x%p.nx.length:=by
   rw[List.getD,tY,io (by omega),a];simp[BF,Ax]
  unfold CD cu NS;rw[b];have z:(CO l p).kd=3:=rfl;have y:(CO l p).ps=l:=rfl;have v:(CO l p).au=[p]:=rfl;rw[z,y,v,s];simp[Oq,List.getD]
theorem LF{a b:Nat}(ha:a<2 ^ 62)(hb:b<2 ^ 62):Gk .i64 a b=((a &&& b:Nat):Int):=by
 have d:a &&& b<=a:=uJ;unfold Gk
 have c:(BitVec.ofInt IntKind.i64.bits (a:Int) &&& BitVec.ofInt IntKind.i64.bits (b:Int)).toNat=a &&& b:=by
  have e:IntKind.i64.bits=64:=rfl;rw[e];simp only[BitVec.toNat_and,BitVec.ofInt_natCast,BitVec.toNat_ofNat];rw[rt (by omega),rt (by omega)]
 rw[c];exact IntWalk.i64_in _ (by omega)
theorem en(s n:Nat):((s:Nat):Int).fdiv (2 ^ n)=((s / 2 ^ n:Nat):Int):=by
 have h:(0:Int)<=2 ^ n:=Int.le_of_lt (Int.pow_pos (by omega));rw[Int.fdiv_eq_ediv_of_nonneg _ h]
 push_cast
 rfl
theorem Dd{s n:Nat}(d:s<2 ^ 62)(f:n<64):AV (s:Nat) n=s.testBit n:=by
 unfold AV
 have e:min n 64=n:=by omega
 rw[e,en];have g:s / 2 ^ n<=s:=Nat.div_le_self _ _;have c:=LF (a:=s / 2 ^ n) (b:=1) (by omega) (by omega);rw[show ((1:Nat):Int)=1 from rfl]at c;rw[c,uA,Nat.and_one_is_mod];congr 1;rw[eq_iff_iff];omega
theorem j9{s a:Nat}:s &&& a=s↔∀n,s.testBit n=true->a.testBit n=true:=by
 constructor
 ·intro h n c
  have:=congrArg (·.testBit n) h;simp only[tR,c,ro]at this;exact this
 ·intro h
  apply sE;intro n;rw[tR];cases b:s.testBit n
  ·rfl
  ·rw[h n b];rfl
abbrev Wd:=List UInt8
def HO(c:UInt8):Bool:=decide (97<=c.toNat/\c.toNat<103)
def Ex(w:Wd):Bool:=decide (w.length<=50000) && w.all HO
def Li(w:Wd):Nat:=w.foldl (λs c=>s ||| 2 ^ (c.toNat-97)) 0
def Je(al:Int)(c:UInt8):Bool:=HO c && AV al (c.toNat-97)
def within(w:Wd)(al:Int):Bool:=decide (w.length<=50000) && (A1 al && w.all (Je al))
theorem UN(n:Nat):∀(w:Wd) (s:Nat),(w.foldl (λs c=>s ||| 2 ^ (c.toNat-97)) s).testBit n=(s.testBit n || w.any λc=>decide (c.toNat-97=n))
 | [],s=>by simp
 | c::w,s=>by
  rw[si,UN n w,sD,sJ,List.any_cons,Bool.or_assoc]
theorem Ws(w:Wd)(n:Nat):(Li w).testBit n=w.any λc=>decide (c.toNat-97=n):=by
 unfold Li;rw[UN];simp
theorem TZ:∀ {w:Wd} {s:Nat},w.all HO=true->s<64->w.foldl (λs c=>s ||| 2 ^ (c.toNat-97)) s<64
 | [],s,_,a=>a
 | c::w,s,h,a=>by
  simp only[List.all_cons,d4]at h;rw[si];refine TZ h.2 ?_;have b:=h.1;unfold HO at b;simp only[decide_eq_true_eq]at b;have d:2 ^ (c.toNat-97)<2 ^ 6:=tz (by omega) (by omega);exact sZ (n:=6) a d
theorem jS{w:Wd}{al:Int}(f:w.all HO=true)(ha:A1 al=true):decide (Gk .i64 (Li w:Nat) al=(Li w:Nat))=w.all (Je al):=by
 have k:Li w<64:=TZ f (by omega);unfold A1 at ha;simp only[decide_eq_true_eq]at ha
 obtain⟨a,rfl⟩:∃a:Nat,al=a:=⟨al.toNat,by omega⟩
 rw[LF (by omega) (by omega)];rw[sH,decide_eq_true_eq,ge]
 have j:((Li w &&& a:Nat):Int)=(Li w:Nat)↔Li w &&& a=Li w:=by omega
 rw[j,j9];rw[ge]at f;constructor
 ·intro h c e
  have b:=f c e;unfold Je;rw[b,ro];unfold HO at b;simp only[decide_eq_true_eq]at b;rw[Dd (by omega) (by omega)];refine h _ ?_;rw[Ws,s9];exact⟨c,e,by simp⟩
 ·intro h n i
  rw[Ws,s9]at i;obtain⟨c,e,d⟩:=i;simp only[decide_eq_true_eq]at d;have b:=f c e;have g:=h c e;unfold Je at g;rw[b,ro]at g;unfold HO at b;simp only[decide_eq_true_eq]at b;rw[Dd (by omega) (by omega),d]at g;exact g
theorem YV{w:Wd}{al:Int}(h:w.all (Je al)=true):w.all HO=true:=by
 rw[ge] at *;intro c a;have:=h c a;unfold Je at this;simp only[d4]at this;exact this.1
end Go.Am
namespace Go.Am
open Go Go.Proofs
set_option maxHeartbeats 1000000
set_option maxRecDepth 4000
attribute [local irreducible] A5 Ck Lex Br Aj Spec
variable {TB:BJ}
theorem Jc[EK TB](l:List Sys)(p:AK):Pure Tryz.prog TB 42 [FX l,Bh p] (Ov (BV l p)):=by
 by_cases c:(AX l && AD p)=true
 ·have b:BV l p=Dy (Ei (CO l p)):=by unfold BV;rw[if_pos c]
  rw[b,<-fv c];rw[d4]at c;have e:=Ox (TB:=TB) l p c.1 c.2;refine eN Tryz.func42 rfl (by kernel_rfl) rfl ?_;intro U d;(repeat' first|refine tA rfl ?_|refine s2 rfl λ_ a=>?_|(refine sC rfl (Hk l) ?_;intro _ a)|(refine sC rfl (AM p) ?_;intro _ a)|refine sP rfl (e) rfl ?_|refine s3 rfl ?_ ?_<;>rintro rfl|refine aU rfl ?_|apply Aa|(refine aC rfl ?_ ?_<;>rintro⟨⟩)|apply aK|apply aE|apply aB|refine aR ⟨_,rfl,?_⟩)
  all_goals first
   | rfl
   | (exfalso;grind;done)
 ·have b:BV l p=none:=by unfold BV;rw[if_neg c]
  rw[b];refine eN Tryz.func42 rfl (by kernel_rfl) rfl ?_;intro U d;(repeat' first|refine tA rfl ?_|refine s2 rfl λ_ a=>?_|(refine sC rfl (Hk l) ?_;intro _ a)|(refine sC rfl (AM p) ?_;intro _ a)|refine s3 rfl ?_ ?_<;>rintro rfl|refine aU rfl ?_|apply Aa|(refine aC rfl ?_ ?_<;>rintro⟨⟩)|apply aK|apply aE|apply aB|refine aR ⟨_,rfl,?_⟩)
  all_goals first
   | rfl
   | (exfalso;grind;done)
theorem Jd[EK TB](s:Sys)(a p:AK):Pure Tryz.prog TB 69 [BK s,Bh a,Bh p] (Ov (DK s a p)):=by
 by_cases c:BT s a p=true
 ·have d:DK s a p=Dy (Ei (DW s a p)):=by unfold DK;rw[if_pos c]
  rw[d,<-fw c];unfold BT at c;simp only[d4]at c;have f:=Pw (TB:=TB) [s] a p (by simp[AX,c.1.1]) c.1.2 c.2;refine eN Tryz.func69 rfl (by kernel_rfl) rfl ?_;intro U e;(repeat' first|refine tA rfl ?_|refine s2 rfl λ_ b=>?_|(refine sC rfl (BG s) ?_;intro _ b)|(refine sC rfl (AM a) ?_;intro _ b)|(refine sC rfl (AM p) ?_;intro _ b)|refine sP rfl (f) rfl ?_|refine s3 rfl ?_ ?_<;>rintro rfl|refine aU rfl ?_|apply Aa|(refine aC rfl ?_ ?_<;>rintro⟨⟩)|apply aK|apply aE|apply aB|refine aR ⟨_,rfl,?_⟩)
  all_goals first
   | rfl
   | (exfalso;grind;done)
 ·have d:DK s a p=none:=by unfold DK;rw[if_neg c]
  rw[d];refine eN Tryz.func69 rfl (by kernel_rfl) rfl ?_;intro U e;(repeat' first|refine tA rfl ?_|refine s2 rfl λ_ b=>?_|(refine sC rfl (BG s) ?_;intro _ b)|(refine sC rfl (AM a) ?_;intro _ b)|(refine sC rfl (AM p) ?_;intro _ b)|refine s3 rfl ?_ ?_<;>rintro rfl|refine aU rfl ?_|apply Aa|(refine aC rfl ?_ ?_<;>rintro⟨⟩)|apply aK|apply aE|apply aB|refine aR ⟨_,rfl,?_⟩)
  all_goals first
   | rfl
   | (exfalso;unfold BT at c;grind;done)
theorem Nd[EK TB](l:List Sys)(p:AK):Pure Tryz.prog TB 18 [FX l,Bh p] (eB (Cy l p)):=by
 refine eN Tryz.func18 rfl (by kernel_rfl) rfl ?_;intro U b;(repeat' first|refine tA rfl ?_|refine s2 rfl λ_ a=>?_|refine sP rfl (Jc l p) rfl ?_|(refine sC rfl (Hk l) ?_;intro _ a)|(refine sC rfl (AM p) ?_;intro _ a)|refine s3 rfl ?_ ?_<;>rintro rfl|refine aU rfl ?_|apply Aa|(refine aC rfl ?_ ?_<;>rintro⟨⟩)|apply aK|apply aE|apply aB|refine aR ⟨_,rfl,?_⟩)
 all_goals (show E.o _=E.o _;congr;unfold Cy;grind)
theorem LI[EK TB](s:Sys)(a p:AK):Pure Tryz.prog TB 40 [BK s,Bh a,Bh p] (eB (Gl s a p)):=by
 refine eN Tryz.func40 rfl (by kernel_rfl) rfl ?_;intro U c;(repeat' first|refine tA rfl ?_|refine s2 rfl λ_ b=>?_|refine sP rfl (Jd s a p) rfl ?_|(refine sC rfl (BG s) ?_;intro _ b)|(refine sC rfl (AM a) ?_;intro _ b)|(refine sC rfl (AM p) ?_;intro _ b)|refine s3 rfl ?_ ?_<;>rintro rfl|refine aU rfl ?_|apply Aa|(refine aC rfl ?_ ?_<;>rintro⟨⟩)|apply aK|apply aE|apply aB|refine aR ⟨_,rfl,?_⟩)
 all_goals (show E.o _=E.o _;congr;unfold Gl BT;grind)
theorem Jr[EK TB](s:Sys)(p:AK):Pure Tryz.prog TB 41 [BK s,Bh p] (eB (Cy [s] p)):=by
 refine eN Tryz.func41 rfl (by kernel_rfl) rfl ?_;intro U a;(repeat' first|refine tA rfl ?_|refine sP rfl (Nd [s] p) rfl ?_|refine aU rfl ?_|apply Aa|(refine aC rfl ?_ ?_<;>rintro⟨⟩)|apply aK|apply aE|apply aB|refine aR ⟨_,rfl,?_⟩)
 all_goals rfl
theorem GV(s:Sys)(p:AK)(t:Sys):Pure Tryz.prog TB 39 [BK s,Bh p,BK t] (eI .i64 (Bm s p t)):=by
 refine eN Tryz.func39 rfl (by kernel_rfl) rfl ?_;intro U b;(repeat' first|refine tA rfl ?_|refine s2 rfl λ_ a=>?_|(refine sC rfl (BG s) ?_;intro _ a)|(refine sC rfl (AM p) ?_;intro _ a)|(refine sC rfl (BG t) ?_;intro _ a)|refine s3 rfl ?_ ?_<;>rintro rfl|refine aU rfl ?_|apply Aa|(refine aC rfl ?_ ?_<;>rintro⟨⟩)|apply aK|apply aE|apply aB|refine aR ⟨_,rfl,?_⟩)
 all_goals (show E.o _=E.o _;congr;unfold Bm;grind)
theorem EP[EK TB](s t:Sys)(p a:AK):Pure Tryz.prog TB 17 [BK s,BK t,Bh p,Bh a] (eI .i64 (Cm s t p a)):=by
 refine eN Tryz.func17 rfl (by kernel_rfl) rfl ?_;intro U c;(repeat' first|refine tA rfl ?_|refine s2 rfl λ_ b=>?_|refine sP rfl (GV s p t) rfl ?_|(refine sC rfl (AM a) ?_;intro _ b)|(refine sC rfl (LI s a p) ?_;intro _ b)|(refine sC rfl (Jr t a) ?_;intro _ b)|refine s3 rfl ?_ ?_<;>rintro rfl|refine aU rfl ?_|apply Aa|(refine aC rfl ?_ ?_<;>rintro⟨⟩)|apply aK|apply aE|apply aB|refine aR ⟨_,rfl,?_⟩)
 all_goals (show E.o _=E.o _;congr;unfold Cm;grind)
def HB{α:Type}(l:List α)(z:α)(k:Nat):List α:=l.take k++List.replicate (l.length-k) z
theorem fe{α:Type}(l:List α)(z:α):HB l z 0=List.replicate l.length z:=by simp[HB]
theorem Vv{α:Type}(l:List α)(z:α):HB l z l.length=l:=by simp[HB]
theorem Vw{α:Type}{l:List α}{z:α}{k:Nat}(h:k<l.length):(HB l z k)[0+((k:Nat):Int).toNat]?=some z:=by
 rw[ms,d8];unfold HB;rw[io (by simp;omega)]
 have:0<l.length-k:=by omega
 have e:k-(l.take k).length=0:=by simp;omega
 rw[e,uo,if_pos this]
theorem Vx{α:Type}{l:List α}{z x:α}{k:Nat}(h:l[k]?=some x):(HB l z k).set (0+((k:Nat):Int).toNat) x=HB l z (k+1):=by
 have hk:=(am.1 h).1;rw[ms,d8];unfold HB;rw[tm _ _ (by simp;omega)]
 have b:k-(l.take k).length=0:=by simp;omega
 have a:l.length-k=(l.length-(k+1))+1:=by omega
 rw[b,a,s6,uN,i7,h];simp
theorem ff{l:List (List C)}{z:List C}{k:Nat}{r:Nat->Nat}(c:∀x∈l,C.Cp r x=x)(a:C.Cp r z=z):(HB l z k).map (C.Cp r)=HB l z k:=by
 unfold HB;rw[rI,List.map_replicate,a];congr 1;refine(rB λx b=>?_).trans (List.map_id _);exact c x (q7 b)
abbrev KQ(t:Bl):E:=.a [.d (Hg t.rows),.d (Hg t.cols)]
structure qA (P:Program) (TB:BJ) (c:C) (L:W->Bool) (ok:W->Prop):Prop where
 Gz:c.Gz=true
 ask:∀ {U:Ctx} {d:Option Tmp} {ty:TypeId} {pos:String} {af:Array Edge} {g:Option (Nat×Bool)} {f:Env} {σ:Ac} {nx:Nat} {x a:Operand} {tys:Array TypeId} {w:W},
  ev f x=some (.o c)->ev f a=some (eT w)->ok w->A5 P TB U ⟨d,.call ⟨.value x,#[a],tys⟩,ty,pos,af,g⟩ f σ nx (eB (L w))
structure p6 (ok:W->Prop) (t:Bl):Prop where
 ok:∀w∈t.rows,∀x∈t.cols,ok (w++x)
 rb:∀w∈t.rows,w.length<=65536
 cb:∀x∈t.cols,x.length<=65536
 rl:t.rows.length<=4096
 cl:t.cols.length<=4096
theorem jw{L:W->Bool}{ls:List UInt8}{t:Bl}{k j:Nat}{r:W}{l:UInt8}(e:t.rows[k]?=some r)(f:ls[j]?=some l)(n:∀w∈Dm ls (t.rows.take k),marks L t.cols w∈A2 L t)(m:∀x∈ls.take j,marks L t.cols (r++[x])∈A2 L t)
 (i:marks L t.cols (r++[l])∉A2 L t):Bp L ls t=some (r++[l]):=by
 have q:t.rows=t.rows.take k++r::t.rows.drop (k+1):=by
  rw[<-Bv e,rZ]
 have p:ls=ls.take j++l::ls.drop (j+1):=by
  rw[<-Bv f,rZ]
 have o:Dm ls t.rows=Dm ls (t.rows.take k)++((ls.take j).map (λx=>r++[x])++(r++[l])::((ls.drop (j+1)).map (λx=>r++[x])++Dm ls (t.rows.drop (k+1)))):=by
  have h:Dm ls t.rows=Dm ls (t.rows.take k++r::t.rows.drop (k+1)):=congrArg _ q;rw[h];unfold Dm;rw[List.flatMap_append,uv];have g:ls.map (λx=>r++[x])=(ls.take j++l::ls.drop (j+1)).map (λx=>r++[x]):=congrArg _ p;rw[g];simp
 unfold Bp;rw[o,List.find?_append,List.find?_append]
 have c:(Dm ls (t.rows.take k)).find? (λw=>!(A2 L t).contains (marks L t.cols w))=none:=uj.2 λw a=>by simpa using n w a
 have b:((ls.take j).map (λx=>r++[x])).find? (λw=>!(A2 L t).contains (marks L t.cols w))=none:=uj.2 λw a=>by
  obtain⟨x,d,rfl⟩:=d9.1 a
  simpa using m x d
 rw[c,b];simp[i]
def lb(l:Int):UInt8:=UInt8.ofNat (97+l.toNat)
def BA(al:Int):List UInt8:=(Ab al).map lb
def iO(o:Option W):E:=match o with
 | some w=>.t [(false,[.d (tD w)]),(false,[.d (bD true)])]
 | none=>.t [(false,[.d (tD [])]),(false,[.d (bD false)])]
theorem XW{ls:List UInt8}{t:Bl}{k:Nat}{r:W}(h:t.rows[k]?=some r):Dm ls (t.rows.take (k+1))=Dm ls (t.rows.take k)++ls.map λl=>r++[l]:=by
 unfold Dm;rw[i7,h];simp
def Lt(t:Bl)(col:W):Option Bl:=if t.cols.length=20\/col∈t.cols then none else some ⟨t.rows,t.cols++[col]⟩
def NP(o:Option Bl):E:=match o with
 | some t=>.t [(true,[.d (Hg t.rows),.d (Hg t.cols)]),(false,[.d (bD true)])]
 | none=>.t [(true,[.d (.l []),.d (.l [])]),(false,[.d (bD false)])]
structure WT (al:Int) (b:Nat) (t:Bl):Prop where
 onR:∀w∈t.rows,AL (BA al) w/\w.length<=b
 onC:∀x∈t.cols,AL (BA al) x/\x.length<=20000
 rl:t.rows.length<=12
 cl:t.cols.length<=20
theorem WT.push{L:W->Bool}{al:Int}{b:Nat}{t:Bl}{w:W}(h:WT al b t)(g:Bp L (BA al) t=some w)(i:t.rows.length<12):WT al (b+1) ⟨t.rows++[w],t.cols⟩:=by
 obtain⟨⟨r,f,l,e,rfl⟩,_⟩:=IP g;refine⟨λu a=>?_,h.onC,by simp;omega,h.cl⟩
 rcases gc.1 a with a|a
 ·have:=h.onR u a;exact⟨this.1,by omega⟩
 ·simp at a
  subst a;have:=h.onR r f;refine⟨λc d=>?_,by simp;omega⟩
  rcases gc.1 d with d|d
  ·exact this.1 c d
  ·simp at d;subst d;exact e
def BL:Bl:=⟨[[]],[[]]⟩
theorem c6(al:Int):WT al 20000 BL:=by
 refine⟨λw a=>?_,λw a=>?_,by decide,by decide⟩<;>(simp[BL]at a;subst a;exact⟨λc b=>by simp at b,by simp⟩)
def Cj(L:W->Bool)(al:Int)(t:Bl):AK:=⟨al,t.rows.map λr=>(Ab al).map λl=>((En L t (r++[lb l]):Nat):Int),t.rows.map L⟩
end Go.Am
namespace Go.Am
def Bk(a:AK):Int->W->Int
 | q,[]=>q
 | q,c::w=>Bk a (Bg a q.toNat ((c.toNat:Int)-97)) w
def LA(a:AK)(w:W):Bool:=a.ac.getD (Bk a 0 w).toNat false
theorem Mo(a:AK):∀(u w:W) (q:Int),Bk a q (u++w)=Bk a (Bk a q u) w
 | [],_,_=>rfl
 | c::u,w,q=>Mo a u w _
theorem Fm{l:Int}(b:0<=l)(a:l<6):((lb l).toNat:Int)-97=l:=by
 unfold lb
 have:(97+l.toNat)%256=97+l.toNat:=by omega
 simp[this];omega
theorem LK{al:Int}{c:UInt8}(h:c∈BA al):0<=(c.toNat:Int)-97/\(c.toNat:Int)-97<6:=by
 obtain⟨l,a,rfl⟩:=d9.1 h;have b:=Af a;rw[Fm b.1 (by omega)];omega
theorem TX{a:AK}(ha:AD a=true){al:Int}:∀(w:W) (q:Int),AL (BA al) w->0<=q/\q<a.nx.length->0<=Bk a q w/\Bk a q w<a.nx.length
 | [],q,_,d=>d
 | c::w,q,b,d=>by
  have e:=LK (b c (by simp));have g:=Cn ha (q:=q.toNat) (by omega) e.1 e.2;exact TX ha w _ (λx f=>b x (by simp[f])) g
theorem ON{al:Int}{l:Int}(h:l∈Ab al):lb l∈BA al:=d9.2 ⟨l,h,rfl⟩
theorem SP{L:W->Bool}{al:Int}{t:Bl}(hal:A1 al=true)(h:Ci L (BA al) t)(b:t.rows.length<=12):AD (Cj L al t)=true:=by
 have j:0<t.rows.length:=(am.1 h.r0).1;unfold AD;simp only[d4,decide_eq_true_eq,ge];refine⟨⟨⟨hal,by simp[Cj];omega⟩,by simp[Cj]⟩,λrow a=>?_⟩;simp only[Cj,d9]at a;obtain⟨r,b,rfl⟩:=a;unfold Fe;simp only[d4,decide_eq_true_eq,ge];refine⟨by simp[Cj],λy c=>?_⟩;obtain⟨l,d,rfl⟩:=d9.1 c;obtain⟨i,hi,e⟩:=q9 b;obtain⟨r',g,_⟩:=h.idx (i:=i) (r:=r) (by rw[d6 hi,e]) (ON d);have f:=(am.1 g).1;unfold RG;simp[Cj];exact f
theorem UT{L:W->Bool}{al:Int}{t:Bl}{q:Nat}{c:UInt8}(e:q<t.rows.length)(g:c∈BA al):Bg (Cj L al t) q ((c.toNat:Int)-97)=((En L t (t.rows.getD q []++[c]):Nat):Int):=by
 obtain⟨l,a,rfl⟩:=d9.1 g;have d:=Af a;rw[Fm d.1 (by omega)];obtain⟨k,hk,f⟩:=q9 a
 have b:(AI al 6)[k]?=some l:=by rw[d6 hk,f]
 have m:=FG b;unfold Bg;have j:AV (Cj L al t).al l.toNat=true:=d.2.2;rw[if_pos j];have i:(AI (Cj L al t).al l.toNat).length=k:=m;rw[i]
 have h:(Cj L al t).nx.getD q []=(Ab al).map λl=>((En L t (t.rows.getD q []++[lb l]):Nat):Int):=by
  simp[Cj,List.getD,e]
 rw[h];simp[List.getD,b]
theorem Sq{L:W->Bool}{al:Int}{t:Bl}(h:Ci L (BA al) t):∀(w:W) (q:Nat),AL (BA al) w->q<t.rows.length->Bk (Cj L al t) q w=((runM L t q w:Nat):Int)
 | [],q,_,_=>rfl
 | c::w,q,a,b=>by
  have f:t.rows[q]?=some t.rows[q]:=d6 b;have d:=a c (by simp);obtain⟨_,j,_⟩:=h.idx f d
  have i:t.rows.getD q []=t.rows[q]:=by simp[f]
  have e:=(am.1 j).1
  show Bk (Cj L al t) (Bg (Cj L al t) ((q:Int)).toNat ((c.toNat:Int)-97)) w=_
  rw[d8,UT b d];rw[<-i]at e;exact Sq h w _ (λx g=>a x (by simp[g])) e
theorem SI{L:W->Bool}{al:Int}{t:Bl}(h:Ci L (BA al) t){w:W}(a:AL (BA al) w):LA (Cj L al t) w=QV L t w:=by
 have c:0<t.rows.length:=(am.1 h.r0).1;have d:=h.run w 0 a c;unfold LA QV;have b:=Sq h w 0 a c;rw[show ((0:Nat):Int)=0 from rfl]at b;rw[b,d8];simp[Cj,List.getD,d]
end Go.Am
namespace Go.Am
open Go
theorem Kn{g:Gr}:∀ {u v:List Int} {a x:Int},reach g (u++v) a x↔∃y,reach g u a y/\reach g v y x
 | [],v,a,x=>⟨λh=>⟨a,rfl,h⟩,λ⟨y,c,b⟩=>by cases c;exact b⟩
 | l :: u,v,a,x=>by
  simp only[su,reach];constructor
  ·rintro⟨y,d,h⟩
   obtain⟨z,c,b⟩:=Kn.1 h;exact⟨z,⟨y,d,c⟩,b⟩
  ·rintro⟨z,⟨y,d,c⟩,b⟩
   exact⟨y,d,Kn.2 ⟨z,c,b⟩⟩
theorem l7(n:Nat)(f:Nat->Int)(h:∀i,i<=n->0<=f i/\f i<n):∃i j,i<j/\j<=n/\f i=f j:=by
 apply Classical.byContradiction;intro hno
 have g:((List.range (n+1)).map λi=>(f i).toNat).Nodup:=by
  unfold List.Nodup;rw[se];refine List.pairwise_lt_range.imp_of_mem λ{a b} ha hb c k=>hno ⟨a,b,c,?_,?_⟩
  ·have:=pi.1 hb;omega
  ·have d:=h a (by have:=pi.1 ha;omega)
   have l:=h b (by have:=pi.1 hb;omega);omega
 have d:=PX n _ g λx e=>by
  obtain⟨i,hi,rfl⟩:=d9.1 e;have:=h i (by have:=pi.1 hi;omega);omega
 simp at d;omega
theorem Cs.short{g:Gr}(n:Jh g){w:List Int}(h:Cs g (some w)):w.length<g.N:=by
 obtain⟨e,⟨x,o,c⟩,r⟩:=h;apply Classical.byContradiction;intro m;have b:∀k,∃y,reach g (w.take k) g.s0 y/\reach g (w.drop k) y x:=λk=>Kn.1 (by rw[rZ];exact o);obtain⟨f,d⟩:=Classical.axiomOfChoice b;obtain⟨i,j,p,s,q⟩:=l7 g.N f λi _=>DE n (λl a=>e l (q7 a)) n.s0 (d i).1;refine r (w.take i++w.drop j) (λl a=>?_) ⟨x,Kn.2 ⟨f i,(d i).1,q▸(d j).2⟩,c⟩ (.inl ?_)
 ·rcases gc.1 a with a|a
  ·exact e l (q7 a)
  ·exact e l (sQ a)
 ·simp;omega
theorem QB{al:Int}:∀ {w:List Int},(∀l∈w,l∈Ab al)->AL (BA al) (C0 w):=λ{w} h c b=>by
 obtain⟨l,a,rfl⟩:=d9.1 b;exact ON (h l a)
theorem ND(L:W->Bool)(ls:List UInt8):TOk L ls BL:=by
 refine⟨rfl,rfl,λi w hi d=>?_,λw a=>?_,λw a=>?_,by simp[A2,BL],by simp[BL]⟩
 ·have:=(am.1 hi).1
  simp[BL]at this;omega
 ·simp[BL]at a;subst a;exact λc b=>(by cases b)
 ·simp[BL]at a;subst a;exact λc b=>(by cases b)
theorem TOk.short{L:W->Bool}{ls:List UInt8}{t:Bl}(h:TOk L ls t):∀(i:Nat) w,t.rows[i]?=some w->w.length<=i:=by
 intro i
 induction i using Nat.strongRecOn with
 | _ i c=>
  intro w a
  rcases rV i with b|b
  ·subst b
   rw[h.r0]at a
   injection a with a
   subst a;simp
  ·obtain⟨f,j,d,e⟩:=h.pre i w a b
   have:=c j d _ e;simp at this;omega
end Go.Am
namespace Go.Am
open Go Go.Proofs
set_option maxHeartbeats 1000000
set_option maxRecDepth 4000
attribute [local irreducible] A5 Ck Lex Br Aj Spec
variable {TB:BJ}
abbrev ia(kn:Bool)(p:AK)(s:Sys)(q:AK)(al:Int):List D:=[bD kn,iD p.al,Ce p.nx,FP p.ac,iD s.al,iD s.st,Em s.es,iD q.al,Ce q.nx,FP q.ac,iD al]
theorem TJ{ls:List UInt8}{w:W}(h:AL ls w)(k:Nat):AL ls (w.take k):=λc a=>h c (q7 a)
theorem cO{p:AK}{w:W}{k:Nat}{c:UInt8}(a:w[k]?=some c)(q:Int):Bk p q (w.take (k+1))=Bg p (Bk p q (w.take k)).toNat ((c.toNat:Int)-97):=by
 rw[i7,a,Mo];rfl
theorem cP{L:W->Bool}{t:Bl}{w:W}{k:Nat}{c:UInt8}(a:w[k]?=some c)(q:Nat):runM L t q (w.take (k+1))=En L t (t.rows.getD (runM L t q (w.take k)) []++[c]):=by
 rw[i7,a,VV];rfl
def Eu(L:W->Bool)(t:Bl)(w:W):Option W:=if QV L t w=L w then none else splitAt L t (L w) 0 w
theorem T8{L:W->Bool}{t:Bl}{b:Bool}{w:W}{k q:Nat}{c:UInt8}(a:w[k]?=some c):splitAt L t b q (w.drop k)=if L (t.rows.getD (En L t (t.rows.getD q []++[c])) []++w.drop (k+1))≠b then some (w.drop (k+1)) else splitAt L t b (En L t (t.rows.getD q []++[c])) (w.drop (k+1)):=by
 rw[Bv a,splitAt]
def Oe(L:W->Bool)(ls:List UInt8)(t:Bl)(w:W):Option Bl:=(Eu L t w).bind λv=>(Lt t v).bind λu=>BZ L ls 13 u
theorem Od{L:W->Bool}{t:Bl}{b:Bool}:∀ {w:W} {q:Nat} {v:W},splitAt L t b q w=some v->∃p,p≠[]/\w=p++v
 | [],q,v,h=>by simp[splitAt]at h
 | c::w,q,v,h=>by
  unfold splitAt at h;split at h
  ·injection h with h;subst h;exact⟨[c],by simp,rfl⟩
  ·obtain⟨p,_,a⟩:=Od h;exact⟨c::p,by simp,by rw[a];rfl⟩
theorem YH{L:W->Bool}{t:Bl}{w v:W}(h:Eu L t w=some v):∃p,p≠[]/\w=p++v:=by
 unfold Eu at h;split at h
 ·cases h
 ·exact Od h
abbrev qO(kn:Bool)(p:AK)(s:Sys)(q:AK)(al:Int):E:=.a ((ia kn p s q al).map .d)
theorem IG(w:W)(i:Nat)(c:UInt8)(b:w[((i:Nat):Int).toNat]?=some c):Pure Tryz.prog TB 188 [eT w,eI .i64 i] (eI .i64 ((c.toNat:Int)-97)):=by
 have hb:=c.toNat_lt;refine eN Tryz.func188 rfl (by kernel_rfl) rfl ?_;intro U a;(repeat' first|(refine sA rfl ?_ ?_;first|exact tI|omega)|(refine s4 rfl ‹_› rfl ?_ ?_;omega)|refine aU rfl ?_|apply Aa|(refine aC rfl ?_ ?_<;>rintro⟨⟩)|apply aK|apply aE|apply aB|refine aR ⟨_,rfl,?_⟩);rfl
theorem Vo(n:Int)(a:0<=n)(c:n<16):Pure Tryz.prog TB 137 [eI .i64 n] (eI .i64 ((2 ^ n.toNat:Nat):Int)):=by
 refine eN Tryz.func137 rfl (by kernel_rfl) rfl ?_;intro U b;(repeat' first|(refine sA rfl ?_ ?_;first|exact tI|omega)|(refine Al rfl ?_;refine gA rfl ?_;first|refine gS (λ_ _=>gi rfl rfl a (aw a c)) ?_)|refine aU rfl ?_|apply Aa|(refine aC rfl ?_ ?_<;>rintro⟨⟩)|apply aK|apply aE|apply aB|refine aR ⟨_,rfl,?_⟩);rfl
theorem HP{c:UInt8}:HO c=decide (0<=(c.toNat:Int)-97/\(c.toNat:Int)-97<6):=by
 unfold HO;rw[sH,decide_eq_true_eq,decide_eq_true_eq];omega
theorem MG(w:W)(p:w.length<=1099511627776):Pure Tryz.prog TB 187 [eT w] (eB (Ex w)):=by
 by_cases n:w.length<=50000
 ·have g : Ex w=w.all HO:=by unfold Ex;simp[n]
  rw[g];refine eN Tryz.func187 rfl (by kernel_rfl) rfl ?_;intro U d;(repeat first|refine tA rfl ?_|refine s2 rfl λ_ b=>?_|refine aU rfl ?_|apply Aa);(refine aC rfl ?_ ?_<;>rintro⟨⟩)
  ·exfalso;(simp only[oZ] at *;omega)
  apply aK;(repeat first|refine tA rfl ?_|refine aU rfl ?_|apply Aa);apply aB;refine aL (α:={k:Nat // k<=w.length/\(w.take k).all HO=true}) [0] [] rfl rfl (λ⟨k,hk,ha⟩=>[(3,eI .i64 k)]) (λ⟨k,hk,ha⟩=>[]) 0 (λ⟨k,hk,ha⟩=>w.length-k) (⟨0,by omega,rfl⟩) d rfl (by (simp[cX,zC,d])) ?_;rintro⟨k,hk,ha⟩;(try dsimp only[cA,cB]);by_cases j:k<w.length
  ·obtain⟨c,m⟩:=get_some j
   have l:w[((k:Nat):Int).toNat]?=some c:=by simpa using m
   have h:=IG (TB:=TB) w k c l;have i:=HP (c:=c);by_cases a:HO c=true
   ·have e:=GP m ha a
    rw[i]at a;simp only[decide_eq_true_eq]at a;(repeat first|refine tA rfl ?_|refine s2 rfl λ_ b=>?_|refine aU rfl ?_|apply Aa);(refine aC rfl ?_ ?_<;>rintro⟨⟩)
    ·(repeat' first|(refine sA rfl ?_ ?_;first|exact tI|omega)|refine s2 rfl λ_ b=>?_|refine sP rfl (h) rfl ?_|refine s3 rfl ?_ ?_<;>rintro rfl|refine aU rfl ?_|apply Aa|(refine aC rfl ?_ ?_<;>rintro⟨⟩)|apply aK|apply aE|apply aB|refine aR ⟨_,rfl,?_⟩)
     ·exfalso;(simp only[oZ] at *;omega)
     ·exfalso;(simp only[oZ] at *;omega)
     ·refine⟨⟨k+1,by omega,e⟩,by dsimp only;(omega),[],?_⟩
      simp[cX,zC,d]
    ·exfalso;(simp only[oZ] at *;omega)
   ·have e:=Iy m (f:=HO) (by simpa using a)
    rw[i]at a;simp only[decide_eq_true_eq]at a;(repeat first|refine tA rfl ?_|refine s2 rfl λ_ b=>?_|refine aU rfl ?_|apply Aa);(refine aC rfl ?_ ?_<;>rintro⟨⟩)
    ·(repeat' first|(refine sA rfl ?_ ?_;first|exact tI|omega)|refine s2 rfl λ_ b=>?_|refine sP rfl (h) rfl ?_|refine s3 rfl ?_ ?_<;>rintro rfl|refine aU rfl ?_|apply Aa|(refine aC rfl ?_ ?_<;>rintro⟨⟩)|apply aK|apply aE|apply aB|refine aR ⟨_,rfl,?_⟩)
     ·rw[e]
     ·rw[e]
     ·exfalso;(simp only[oZ] at *;omega)
    ·exfalso;(simp only[oZ] at *;omega)
  ·have o:=GO ha (show w.length<=k by omega)
   (repeat first|refine tA rfl ?_|refine s2 rfl λ_ b=>?_|refine aU rfl ?_|apply Aa);(refine aC rfl ?_ ?_<;>rintro⟨⟩)
   ·exfalso;(simp only[oZ] at *;omega)
   ·(repeat' first|refine tA rfl ?_|refine aU rfl ?_|apply Aa|(refine aC rfl ?_ ?_<;>rintro⟨⟩)|apply aK|apply aE|apply aB|refine aR ⟨_,rfl,?_⟩)
    rw[o]
 ·have g:Ex w=false:=by unfold Ex;simp[n]
  rw[g];refine eN Tryz.func187 rfl (by kernel_rfl) rfl ?_;intro U d;(repeat first|refine tA rfl ?_|refine s2 rfl λ_ b=>?_|refine aU rfl ?_|apply Aa);(refine aC rfl ?_ ?_<;>rintro⟨⟩)
  ·(repeat' first|refine tA rfl ?_|refine aU rfl ?_|apply Aa|(refine aC rfl ?_ ?_<;>rintro⟨⟩)|apply aK|apply aE|apply aB|refine aR ⟨_,rfl,?_⟩)
   rfl
  ·exfalso;(simp only[oZ] at *;omega)
abbrev qh(n:Int)(b:Bool):E:=.t [(false,[.d (iD n)]),(false,[.d (bD b)])]
theorem cU{w:W}{k:Nat}{c:UInt8}(a:w[k]?=some c):Li (w.take (k+1))=Li (w.take k) ||| 2 ^ (c.toNat-97):=by
 unfold Li;rw[i7,a];simp
theorem QX(w:W)(s:w.length<=1099511627776):Pure Tryz.prog TB 215 [eT w] (if Ex w then qh (Li w:Nat) true else qh 0 false):=by
 have f:=MG (TB:=TB) w s;by_cases e:Ex w=true
 ·have a:=e
  unfold Ex at a;simp only[d4,decide_eq_true_eq]at a;rw[if_pos e];refine eN Tryz.func215 rfl (by kernel_rfl) rfl ?_;intro U d;(repeat first|refine tA rfl ?_|refine s2 rfl λ_ b=>?_|(refine sC rfl (f) ?_;intro _ b)|refine aU rfl ?_|apply Aa);(refine aC rfl ?_ ?_<;>rintro⟨⟩)
  ·exfalso;simp at *;grind
  apply aK;(repeat first|refine tA rfl ?_|refine aU rfl ?_|apply Aa);apply aB;refine aL (α:={k:Nat // k<=w.length}) [0] [] rfl rfl (λ⟨k,hk⟩=>[(4,eI .i64 (Li (w.take k):Nat)),(5,eI .i64 k)]) (λ⟨k,hk⟩=>[]) 0 (λ⟨k,hk⟩=>w.length-k) (⟨0,by omega⟩) d rfl (by (simp[cX,zC,d]<;>rfl)) ?_;rintro⟨k,hk⟩;(try dsimp only[cA,cB]);by_cases m:k<w.length
  ·obtain⟨c,p⟩:=get_some m
   have o:w[((k:Nat):Int).toNat]?=some c:=by simpa using p
   have n:=IG (TB:=TB) w k c o;have h:=(ge.1 a.2) c (co p);rw[HP,decide_eq_true_eq]at h;have i:=Vo (TB:=TB) ((c.toNat:Int)-97) h.1 (by omega);have j:=cU p;have l:Li (w.take k)<64:=TZ (by rw[ge];exact λx r=>(ge.1 a.2) x (q7 r)) (by omega)
   have ht:((c.toNat:Int)-97).toNat=c.toNat-97:=by omega
   have q:2 ^ (c.toNat-97)<2 ^ 6:=tz (by omega) (by omega);have g:=(JX l q).1;rw[<-j]at g;rw[ht]at i;(repeat first|refine tA rfl ?_|refine s2 rfl λ_ b=>?_|refine aU rfl ?_|apply Aa);(refine aC rfl ?_ ?_<;>rintro⟨⟩)
   ·(repeat' first|(refine sA rfl ?_ ?_;first|exact tI|omega)|refine sP rfl (n) rfl ?_|refine sP rfl (i) rfl ?_|refine aU rfl ?_|apply Aa|(refine aC rfl ?_ ?_<;>rintro⟨⟩)|apply aK|apply aE|apply aB|refine aR ⟨_,rfl,?_⟩)
    rw[g];refine⟨⟨k+1,by omega⟩,by dsimp only;(omega),[],?_⟩;simp[cX,zC,d]
   ·exfalso;(simp only[oZ] at *;omega)
  ·obtain rfl:k=w.length:=by omega
   rw[i8];(repeat first|refine tA rfl ?_|refine s2 rfl λ_ b=>?_|refine aU rfl ?_|apply Aa);(refine aC rfl ?_ ?_<;>rintro⟨⟩)
   ·exfalso;(simp only[oZ] at *;omega)
   ·(repeat' first|refine tA rfl ?_|refine aU rfl ?_|apply Aa|(refine aC rfl ?_ ?_<;>rintro⟨⟩)|apply aK|apply aE|apply aB|refine aR ⟨_,rfl,?_⟩)
    rfl
 ·rw [if_neg e]
  refine eN Tryz.func215 rfl (by kernel_rfl) rfl ?_;intro U d;(repeat first|refine tA rfl ?_|refine s2 rfl λ_ b=>?_|(refine sC rfl (f) ?_;intro _ b)|refine aU rfl ?_|apply Aa);(refine aC rfl ?_ ?_<;>rintro⟨⟩)
  ·(repeat' first|refine tA rfl ?_|refine aU rfl ?_|apply Aa|(refine aC rfl ?_ ?_<;>rintro⟨⟩)|apply aK|apply aE|apply aB|refine aR ⟨_,rfl,?_⟩)
   rfl
  ·exfalso;simp at *;grind
theorem Eg(w:W)(al:Int)(i:w.length<=1099511627776):Pure Tryz.prog TB 189 [eT w,eI .i64 al] (eB (within w al)):=by
 have d:=QX (TB:=TB) w i;have g:=Di (TB:=TB) al;by_cases a:Ex w=true
 ·rw [if_pos a]at d
  unfold Ex at a;simp only[d4,decide_eq_true_eq]at a
  have f:within w al=(A1 al && w.all (Je al)):=by unfold within;simp[a.1]
  rw[f];refine eN Tryz.func189 rfl (by kernel_rfl) rfl ?_;intro U e;(repeat' first|refine tA rfl ?_|refine s2 rfl λ_ c=>?_|refine sP rfl (d) rfl ?_|(refine sC rfl (g) ?_;intro _ c)|refine s3 rfl ?_ ?_<;>rintro rfl|refine aU rfl ?_|apply Aa|(refine aC rfl ?_ ?_<;>rintro⟨⟩)|apply aK|apply aE|apply aB|refine aR ⟨_,rfl,?_⟩)
  all_goals first
   | (show E.o _=E.o _;congr;grind)
   | (rename_i ha b;rw[jS a.2 ha]at c;show E.o _=E.o _;rw[ha,c];rfl)
 ·rw [if_neg a]at d
  have f:within w al=false:=by
   rw[uX];intro h;unfold within at h;simp only[d4,decide_eq_true_eq]at h;exact a (by unfold Ex;simp[h.1,YV h.2.2])
  rw[f];refine eN Tryz.func189 rfl (by kernel_rfl) rfl ?_;intro U e;(repeat' first|refine tA rfl ?_|refine sP rfl (d) rfl ?_|(refine sC rfl (g) ?_;intro _ c)|refine aU rfl ?_|apply Aa|(refine aC rfl ?_ ?_<;>rintro⟨⟩)|apply aK|apply aE|apply aB|refine aR ⟨_,rfl,?_⟩)
  all_goals rfl
theorem Ew{w:W}{al:Int}(h:within w al=true):AL (BA al) w:=by
 unfold within at h;simp only[d4,decide_eq_true_eq]at h;intro c b;have a:=(ge.1 h.2.2) c b;unfold Je HO at a;simp only[d4,decide_eq_true_eq]at a;refine d9.2 ⟨((c.toNat-97:Nat):Int),Dj.2 ⟨by omega,a.2⟩,?_⟩;unfold lb
 have e:97+((c.toNat-97:Nat):Int).toNat=c.toNat:=by omega
 rw[e];simp
theorem GY{w:W}{al:Int}(h:AL (BA al) w)(d:w.length<=50000)(ha:A1 al=true):within w al=true:=by
 unfold within;simp only[d4,decide_eq_true_eq];refine⟨d,ha,ge.2 λc f=>?_⟩;obtain⟨l,b,rfl⟩:=d9.1 (h c f);have a:=Af b;have g:=Fm a.1 (by omega);unfold Je HO;simp only[d4,decide_eq_true_eq]
 have e:(lb l).toNat-97=l.toNat:=by omega
 rw[e];exact⟨by omega,a.2.2⟩
theorem eW{p:AK}(hp:AD p=true)(w:W)(m:AL (BA p.al) w)(q:w.length<=1099511627776):Pure Tryz.prog TB 226 [Bh p,eI .i64 0,eT w] (eI .i64 (Bk p 0 w)):=by
 have n:=AB hp;refine eN Tryz.func226 rfl (by kernel_rfl) rfl ?_;intro U a;(repeat first|refine tA rfl ?_|refine aU rfl ?_|apply Aa);apply aB;refine aL (α:={k:Nat // k<=w.length}) [2,3] [] rfl rfl (λ⟨k,hk⟩=>[(1,eI .i64 (Bk p 0 (w.take k))),(7,eI .i64 k)]) (λ⟨k,hk⟩=>[]) 0 (λ⟨k,hk⟩=>w.length-k) (⟨0,by omega⟩) a rfl (by (simp[cX,zC,a]<;>rfl)) ?_;rintro⟨k,hk⟩;(try dsimp only[cA,cB]);have o:=TX hp (w.take k) 0 (TJ m k) (by omega);by_cases g:k<w.length
 ·obtain⟨c,j⟩:=get_some g
  have i:w[((k:Nat):Int).toNat]?=some c:=by simpa using j
  have d:=LK (m c (co j));have h:=IG (TB:=TB) w k c i;have b:=J0 (TB:=TB) p hp (Bk p 0 (w.take k)).toNat (by omega) ((c.toNat:Int)-97) d.1 d.2
  have e:(((Bk p 0 (w.take k)).toNat:Nat):Int)=Bk p 0 (w.take k):=by omega
  rw[e]at b;have f:=cO (p:=p) j 0;rw[<-f]at b;(repeat first|refine tA rfl ?_|refine s2 rfl λ_ l=>?_|refine aU rfl ?_|apply Aa);(refine aC rfl ?_ ?_<;>rintro⟨⟩)
  ·(repeat' first|(refine sA rfl ?_ ?_;first|exact tI|omega)|refine sP rfl (h) rfl ?_|refine sP rfl (b) rfl ?_|refine aU rfl ?_|apply Aa|refine rE (by kernel_rfl) ?_|(refine aC rfl ?_ ?_<;>rintro⟨⟩)|apply aK|apply aE|apply aB|refine aR ⟨_,rfl,?_⟩)
   refine⟨⟨k+1,by omega⟩,by dsimp only;(omega),[],?_⟩;simp[cX,zC,a]
  ·exfalso;(simp only[oZ] at *;omega)
 ·obtain rfl:k=w.length:=by omega
  rw[i8];(repeat first|refine tA rfl ?_|refine s2 rfl λ_ l=>?_|refine aU rfl ?_|apply Aa);(refine aC rfl ?_ ?_<;>rintro⟨⟩)
  ·exfalso;(simp only[oZ] at *;omega)
  ·(repeat' first|refine tA rfl ?_|refine aU rfl ?_|apply Aa|(refine aC rfl ?_ ?_<;>rintro⟨⟩)|apply aK|apply aE|apply aB|refine aR ⟨_,rfl,?_⟩)
   rfl
def GA(p:AK)(w:W):Int:=if AD p && within w p.al then Bk p 0 w else -1
def QU(p:AK)(w:W):Bool:=AD p && (within w p.al && LA p w)
theorem RH(p:AK)(w:W)(e:w.length<=1099511627776):Pure Tryz.prog TB 221 [Bh p,eT w] (eI .i64 (GA p w)):=by
 have g:=AY (TB:=TB) p;have f:=Eg (TB:=TB) w p.al e;by_cases b:(AD p && within w p.al)=true
 ·have d:GA p w=Bk p 0 w:=by unfold GA;rw[if_pos b]
  rw[d];rw[d4]at b;have h:=eW (TB:=TB) b.1 w (Ew b.2) e;refine eN Tryz.func221 rfl (by kernel_rfl) rfl ?_;intro U c;(repeat' first|refine tA rfl ?_|refine s2 rfl λ_ a=>?_|(refine sC rfl (g) ?_;intro _ a)|(refine sC rfl (f) ?_;intro _ a)|refine sP rfl (h) rfl ?_|refine s3 rfl ?_ ?_<;>rintro rfl|refine aU rfl ?_|apply Aa|(refine aC rfl ?_ ?_<;>rintro⟨⟩)|apply aK|apply aE|apply aB|refine aR ⟨_,rfl,?_⟩)
  all_goals first
   | rfl
   | (exfalso;grind;done)
 ·have d:GA p w = -1:=by unfold GA;rw[if_neg b]
  rw[d];refine eN Tryz.func221 rfl (by kernel_rfl) rfl ?_;intro U c;(repeat' first|refine tA rfl ?_|refine s2 rfl λ_ a=>?_|(refine sC rfl (g) ?_;intro _ a)|(refine sC rfl (f) ?_;intro _ a)|refine s3 rfl ?_ ?_<;>rintro rfl|refine aU rfl ?_|apply Aa|(refine aC rfl ?_ ?_<;>rintro⟨⟩)|apply aK|apply aE|apply aB|refine aR ⟨_,rfl,?_⟩)
  all_goals first
   | rfl
   | (exfalso;grind;done)
theorem O7(p:AK)(w:W)(h:w.length<=1099511627776):Pure Tryz.prog TB 201 [Bh p,eT w] (eB (QU p w)):=by
 have c:=RH (TB:=TB) p w h;by_cases a:(AD p && within w p.al)=true
 ·have e:GA p w=Bk p 0 w:=by unfold GA;rw[if_pos a]
  rw[e]at c;rw[d4]at a;have g:=AB a.1;have j:=TX a.1 w 0 (Ew a.2) (by omega);obtain⟨b,hb⟩:=get_some (l:=p.ac) (k:=(Bk p 0 w).toNat) (by omega)
  have i:(p.ac.map Jk)[(Bk p 0 w).toNat]?=some (Jk b):=by simp[hb]
  have ha:QU p w=b:=by unfold QU LA;simp[a.1,a.2,List.getD,hb]
  rw[ha];refine eN Tryz.func201 rfl (by kernel_rfl) rfl ?_;intro U d;(repeat' first|refine tA rfl ?_|(refine s4 rfl ‹_› rfl ?_ ?_;omega)|refine s2 rfl λ_ f=>?_|refine sP rfl (c) rfl ?_|refine s3 rfl ?_ ?_<;>rintro rfl|refine aU rfl ?_|apply Aa|(refine aC rfl ?_ ?_<;>rintro⟨⟩)|apply aK|apply aE|apply aB|refine aR ⟨_,rfl,?_⟩)
  all_goals first
   | rfl
   | (exfalso;(simp only[oZ] at *;omega))
 ·have e:GA p w = -1:=by unfold GA;rw[if_neg a]
  rw[e]at c
  have ha:QU p w=false:=by unfold QU;grind
  rw[ha];refine eN Tryz.func201 rfl (by kernel_rfl) rfl ?_;intro U d;(repeat' first|refine tA rfl ?_|refine s2 rfl λ_ f=>?_|refine sP rfl (c) rfl ?_|refine s3 rfl ?_ ?_<;>rintro rfl|refine aU rfl ?_|apply Aa|(refine aC rfl ?_ ?_<;>rintro⟨⟩)|apply aK|apply aE|apply aB|refine aR ⟨_,rfl,?_⟩)
  all_goals first
   | rfl
   | (exfalso;(simp only[oZ] at *;omega))
structure FF where
 kn:Bool
 p:AK
 s:Sys
 q:AK
 al:Int
abbrev EO(t:FF):E:=qO t.kn t.p t.s t.q t.al
theorem eJ(al:Int)(c:UInt8):hasB al (if HO c then (c.toNat:Int)-97 else -1)=Je al c:=by
 unfold Je hasB;by_cases h:HO c=true
 ·rw[if_pos h,h]
  rw[HP,decide_eq_true_eq]at h
  have e:((c.toNat:Int)-97).toNat=c.toNat-97:=by omega
  rw[e];simp;omega
 ·rw[if_neg h]
  simp[h]
end Go.Am
namespace Go.Am
open Go
def Cf(es:List Ea)(l:Int)(m:Nat):Nat:=es.foldl (λa e=>if e.l=l/\m.testBit e.f.toNat=true then a ||| 2 ^ e.t.toNat else a) 0
theorem JV{α:Type}{p:α->Prop}[DecidablePred p]{g:α->Nat}{j:Nat}:∀(l:List α) (a:Nat),(l.foldl (λa e=>if p e then a ||| g e else a) a).testBit j=true↔a.testBit j=true\/∃e∈l,p e/\(g e).testBit j=true
 | [],a=>by simp
 | x :: l,a=>by
  rw[si,JV l];by_cases h:p x
  ·rw [if_pos h,sD,qW]
   constructor
   ·rintro((b|b)|⟨e,b,c⟩)
    ·exact .inl b
    ·exact .inr ⟨x,by simp,h,b⟩
    ·exact .inr ⟨e,by simp[b],c⟩
   ·rintro(b|⟨e,b,c,d⟩)
    ·exact .inl (.inl b)
    ·rcases lw.1 b with rfl|b
     ·exact .inl (.inr d)
     ·exact .inr ⟨e,b,c,d⟩
  ·rw [if_neg h]
   constructor
   ·rintro(b|⟨e,b,c⟩)
    ·exact .inl b
    ·exact .inr ⟨e,by simp[b],c⟩
   ·rintro(b|⟨e,b,c,d⟩)
    ·exact .inl b
    ·rcases lw.1 b with rfl|b
     ·exact absurd c h
     ·exact .inr ⟨e,b,c,d⟩
theorem DN{es:List Ea}{l:Int}{m j:Nat}:(Cf es l m).testBit j=true↔∃e∈es,(e.l=l/\m.testBit e.f.toNat=true)/\e.t.toNat=j:=by
 unfold Cf;rw[JV];simp[sJ]
structure Ch where
 s:Sys
 q:AK
 al:Int
def A9(t:Ch):Bool:=AU t.s && (AD t.q && A1 t.al)
def Cg(t:Ch):List Int:=(Ab t.s.al).filter λl=>!AV t.al l.toNat
def Df(s:Sys)(l:Int)(m:Nat):Nat:=if AV s.al l.toNat then Cf s.es l m else m
abbrev PS:=Nat->Nat
def WW(t:Ch)(l:Int)(F:PS):PS:=λp'=>(List.range t.q.nx.length).foldl (λa p=>if Bg t.q p l=(p':Int) then a ||| Df t.s l (F p) else a) 0
theorem LU{t:Ch}{l:Int}{F:PS}{p' j:Nat}:(WW t l F p').testBit j=true↔∃p,p<t.q.nx.length/\Bg t.q p l=(p':Int)/\(Df t.s l (F p)).testBit j=true:=by
 unfold WW;rw[JV];simp
inductive QP (t:Ch) (F0:PS):Nat->Nat->Prop
 | base {p j:Nat}:(F0 p).testBit j=true->QP t F0 p j
 | step {p j:Nat} {e:Ea}:QP t F0 p j->e∈t.s.es->e.l∈Cg t->e.f.toNat=j->QP t F0 (Bg t.q p e.l).toNat e.t.toNat
open Classical in
noncomputable def SV(t:Ch)(F0:PS):PS:=λp=>(List.range 16).foldl (λa j=>if QP t F0 p j then a ||| 2 ^ j else a) 0
open Classical in
theorem OH{t:Ch}{F0:PS}{p j:Nat}:(SV t F0 p).testBit j=true↔j<16/\QP t F0 p j:=by
 unfold SV;rw[JV];simp only[vd,tP,false_or,pi,sJ,decide_eq_true_eq];constructor
 ·rintro⟨e,b,a,rfl⟩;exact⟨b,a⟩
 ·rintro⟨b,a⟩;exact⟨j,b,a,rfl⟩
structure CR (t:Ch) (F:PS):Prop where
 lt:∀p,F p<65536
 z:∀p,t.q.nx.length<=p->F p=0
theorem JU{m:Nat}(h:∀j,m.testBit j=true->j<16):m<65536:=by
 have:m<2 ^ 16:=Nat.lt_pow_two_of_testBit m λi hi=>by
  cases hb:m.testBit i
  ·rfl
  ·have:=h i hb;omega
 omega
theorem LN{m j:Nat}(h:m<65536)(hb:m.testBit j=true):j<16:=by
 rcases rn j 16 with a|a
 ·exact a
 ·have:m.testBit j=false:=Nat.testBit_lt_two_pow (qV h (rU (n:=2) (by omega) a))
  rw[this]at hb;cases hb
theorem HN{m:Nat}(h:∀j,m.testBit j=false):m=0:=sE λj=>by rw[h j];simp
section
variable {t:Ch}(ht:A9 t=true)
include ht set_option linter.unusedSectionVars false
theorem Iq{e:Ea}(a:e∈t.s.es):0<=e.f/\e.f<16/\0<=e.t/\e.t<16/\0<=e.l/\e.l<6:=by
 unfold A9 at ht;simp only[d4]at ht;have b:=C8 ht.1 a;have c:=AN ht.1;unfold DA at b;grind
theorem Cr:AD t.q=true:=by
 unfold A9 at ht;simp only[d4]at ht;exact ht.2.1
theorem DM{l:Int}(h:l∈Cg t):0<=l/\l<6/\AV t.s.al l.toNat=true:=by
 unfold Cg at h;have a:=Af (qX.1 h).1;exact⟨a.1,by omega,a.2.2⟩
theorem JJ{l:Int}{m:Nat}(a:m<65536):Df t.s l m<65536:=by
 unfold Df;split
 ·refine JU λj b=>?_
  obtain⟨e,c,_,rfl⟩:=DN.1 b;have:=Iq ht c;omega
 ·exact a
theorem Lc{l:Int}(a:0<=l/\l<6){F:PS}(h:CR t F):CR t (WW t l F):=by
 refine⟨λp=>JU λj d=>?_,λp hp=>HN λj=>?_⟩
 ·obtain⟨q,c,e,b⟩:=LU.1 d
  exact LN (JJ ht (h.lt q)) b
 ·cases hb:(WW t l F p).testBit j
  ·rfl
  ·obtain⟨q,c,e,b⟩:=LU.1 hb
   have:=Cn (Cr ht) c a.1 a.2;omega
theorem QP.lt{F0:PS}(h:CR t F0){p j:Nat}(c:QP t F0 p j):p<t.q.nx.length/\j<16:=by
 induction c with
 | @base p j hb=>
  refine⟨?_,LN (h.lt p) hb⟩
  rcases rn p t.q.nx.length with a|a
  ·exact a
  ·rw[h.z p a]at hb;simp at hb
 | @step p j e _ d f _ b=>
  have a:=Iq ht d;have g:=Cn (Cr ht) b.1 a.2.2.2.2.1 a.2.2.2.2.2;omega
theorem dV{F0:PS}(h:CR t F0):CR t (SV t F0):=by
 refine⟨λp=>JU λj a=>(OH.1 a).1,λp hp=>HN λj=>?_⟩;cases hb:(SV t F0 p).testBit j
 ·rfl
 ·have:=((OH.1 hb).2.lt ht h).1
  omega
theorem dU{F0 G:PS}(c:CR t F0)(n:∀p,t.q.nx.length<=p->G p=0)(m:∀p j,(F0 p).testBit j=true->(G p).testBit j=true)(b:∀p j,(G p).testBit j=true->QP t F0 p j)
 (k:∀p l j,p<t.q.nx.length->l∈Cg t->(Cf t.s.es l (G p)).testBit j=true->(G (Bg t.q p l).toNat).testBit j=true):G=SV t F0:=by
 have key:∀ {p j:Nat},QP t F0 p j->(G p).testBit j=true:=λ{p j} a=>by
  induction a with
  | base hb=>exact m _ _ hb
  | @step p j e a i f g d=>exact k p e.l _ (a.lt ht c).1 f (DN.2 ⟨e,i,⟨rfl,by rw[g];exact d⟩,rfl⟩)
 funext p;refine sE λj=>?_;rw[sH,OH];exact⟨λh=>⟨((b p j h).lt ht c).2,b p j h⟩,λh=>key h.2⟩
end
def I8:PS:=λp=>if p=0 then 1 else 0
noncomputable def Cq(t:Ch):PS:=SV t I8
noncomputable def DD(t:Ch)(l:Int)(F:PS):PS:=SV t (WW t l F)
def FQ(t:Ch)(F:PS):Bool:=(List.range t.q.nx.length).any λp=>decide (F p≠0) && !(t.q.ac.getD p false)
noncomputable def Hv(t:Ch):PS->W->Bool
 | F,[]=>!FQ t F
 | F,c::w=>!FQ t F && Hv t (DD t ((c.toNat:Int)-97) F) w
noncomputable def LS(t:Ch)(w:W):Bool:=Hv t (Cq t) w
section
variable {t:Ch}(ht:A9 t=true)
include ht
theorem MJ:CR t I8:=by
 have h:=AB (Cr ht);refine⟨λp=>by unfold I8;split<;>omega,λp hp=>by unfold I8;rw[if_neg (by omega)]⟩
theorem GI:CR t (Cq t):=dV ht (MJ ht)
theorem LX{l:Int}(a:0<=l/\l<6){F:PS}(h:CR t F):CR t (DD t l F):=dV ht (Lc ht a h)
end
end Go.Am
