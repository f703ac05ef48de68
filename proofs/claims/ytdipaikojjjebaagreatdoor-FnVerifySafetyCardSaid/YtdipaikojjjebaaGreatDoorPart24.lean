/-
  The program's graph is the reference's.
-/
import Derived.Test.YtdipaikojjjebaaGreatDoorPart23
import Derived.Test.YtdipaikojjjebaaGreatDoorPart11
set_option linter.all false
namespace Go.Am
open Go
theorem Hy{g g':Gr}(d:Jg g)(c:g.ls=g'.ls)(e:∀x:Int,0<=x/\x<g.N->∀l∈g.ls,g.succ x l=g'.succ x l):∀ {w:List Int} {a x:Int},over g w->(0<=a/\a<g.N)->(reach g w a x↔reach g' w a x)
 | [],a,x,_,_=>Iff.rfl
 | l :: w,a,x,f,ha=>by
  have j:=f l (by simp);simp only[reach,<-e a ha l j];constructor
  ·rintro⟨y,b,h⟩
   exact⟨y,b,(Hy d c e (λm i=>f m (by simp[i])) (d.inn a ha l j y b)).1 h⟩
  ·rintro⟨y,b,h⟩
   exact⟨y,b,(Hy d c e (λm i=>f m (by simp[i])) (d.inn a ha l j y b)).2 h⟩
theorem CI.congr{g g':Gr}(c:Jg g)(d:g.ls=g'.ls)(q:g.s0=g'.s0)(m:∀x:Int,0<=x/\x<g.N->∀l∈g.ls,g.succ x l=g'.succ x l)(i:∀x:Int,0<=x/\x<g.N->g.goal x=g'.goal x){r:Option (List Int)}(h:CI g r):CI g' r:=by
 have b:∀w,over g' w↔over g w:=λw=>by unfold over;rw[d]
 have k:∀w,over g w->(OH g' w↔OH g w):=λw j=>by
  unfold OH;rw[<-q];constructor
  ·rintro⟨x,a,e⟩
   have a:=(Hy c d m j c.s0).2 a;exact⟨x,a,by rw[i x (DY c j c.s0 a)];exact e⟩
  ·rintro⟨x,a,e⟩
   exact⟨x,(Hy c d m j c.s0).1 a,by rw[<-i x (DY c j c.s0 a)];exact e⟩
 cases r with
 | none=>exact λu f a=>h u ((b u).1 f) ((k u ((b u).1 f)).1 a)
 | some w=>
  obtain⟨n,p,o⟩:=h;exact⟨(b w).2 n,(k w n).2 p,λu f a=>o u ((b u).1 f) ((k u ((b u).1 f)).1 a)⟩
theorem dp{zs ws:List Int}{cs ds:List (List Int)}(h:FQ zs cs):EK (zs++ws) (cs++ds)=(EK zs cs).flatMap λo=>(EK ws ds).map λr=>o*Aw ws+r:=by
 induction h with
 | nil=>simp[EK]
 | @cons z c zs cs _ _ _ a=>
  simp only[qf,EK,a];rw[List.flatMap_assoc];congr 1;funext q;rw[List.map_flatMap,List.flatMap_map];congr 1;funext o;rw[pR];congr 1;funext r;simp only[d5,NA];rw[qW,qG];omega
theorem VT(l:List Sys)(aus:List AY)(st:List Int)(ls kd gl:Int):Af ⟨l,aus,st,ls,kd,gl⟩=l.map (·.st)++aus.map (λa=>(a.nx.length:Int)):=rfl
theorem Mq{l:List Sys}{aus:List AY}{st:List Int}{ls kd gl:Int}(b:Eh ⟨l,aus,st,ls,kd,gl⟩){node letter:Int}(f:0<=letter)(d:letter<6) :
 FD ⟨l,aus,st,ls,kd,gl⟩ (Af ⟨l,aus,st,ls,kd,gl⟩) (BK (Af ⟨l,aus,st,ls,kd,gl⟩) node) letter =
  (EK (l.map (·.st)) (ae l (node / Aw (aus.map λa=>(a.nx.length:Int))) letter)).flatMap λo=>(EK (aus.map λa=>(a.nx.length:Int)) (aus.zipWith (λa q=>[Cz a q.toNat letter]) (BK (aus.map λa=>(a.nx.length:Int)) node))).map λr=>o*Aw (aus.map λa=>(a.nx.length:Int))+r:=by
 have h:∀w∈aus.map (λa=>(a.nx.length:Int)),0<w:=λw g=>by
  obtain⟨a,ha,rfl⟩:=d9.1 g;have:=AJ (b.au a ha);omega
 unfold FD;rw[Sg (Iu b (LQ b node) f d),VT,Px _ _ _ h];have c:=Tf b.ps b.np f d (node / Aw (aus.map λa=>(a.nx.length:Int)))
 have e:KR ⟨l,aus,st,ls,kd,gl⟩ (BK (l.map (·.st)) (node / Aw (aus.map λa=>(a.nx.length:Int)))++BK (aus.map λa=>(a.nx.length:Int)) node) letter=ae l (node / Aw (aus.map λa=>(a.nx.length:Int))) letter++aus.zipWith (λa q=>[Cz a q.toNat letter]) (BK (aus.map λa=>(a.nx.length:Int)) node):=by
  unfold KR ae
  have i:(BK (l.map (·.st)) (node / Aw (aus.map λa=>(a.nx.length:Int)))).length=l.length:=by rw[LP];simp
  simp only;rw[List.drop_append_of_le_length (by omega),qh (by omega),rM];congr 1;rw[GF,List.take_append_of_le_length (by omega),ge (by omega)]
 rw[e,dp c]
theorem Ni:∀(zs:List Int) (k:Nat),DQ zs (List.replicate k 0) 0=0
 | [],k=>by simp[DQ]
 | z::zs,0=>by simp[DQ]
 | z::zs,k+1=>by
  rw[rJ];simp only[DQ,Int.zero_mul,Int.add_zero];exact Ni zs k
theorem UO{a:Int}(ha:Bb a=true):Gq .i64 0 a=a/\Gq .i64 a 0=a:=by
 unfold Bb at ha;simp only[decide_eq_true_eq]at ha;have d:=Mb (a:=0) (b:=a.toNat) (by omega) (by omega);have c:=Mb (a:=a.toNat) (b:=0) (by omega) (by omega)
 have e:((a.toNat:Nat):Int)=a:=by omega
 rw[e]at d c;have f:(((0:Nat)):Int)=0:=rfl;rw[f]at d c;rw[Nat.zero_or]at d;rw[Nat.or_zero]at c;exact⟨by rw[d.1];exact e,by rw[c.1];exact e⟩
theorem XI{l:List Sys}(h:AV l=true):Bb (Bw l)=true:=by
 unfold Bw;rw[if_pos h];unfold AV at h;rw[d4]at h;exact Jz h.2 rfl
theorem dH{s:Sys}{a p:AY}(h:BI s a p=true):CY (gI [s] a p (Ac (Gq .i64 (Bw [s]) a.al)))=CY (DN (Dz s a p)):=by
 obtain⟨j,hk,d⟩:=O3 h;have c:=h;unfold BI at c;simp only[d4]at c;obtain⟨⟨i,ha⟩,n⟩:=c;have q:=Cs ha;have m:=Cs n
 have b:Bw [s]=s.al:=by
  have:AV [s]=true:=by simp[AV,i]
  unfold Bw;rw[if_pos this];exact(UO (AN i).1).1
 refine LI (CI.congr (PF j d) ?_ ?_ (λx k l f=>?_) (λx k=>?_) (De _))
 ·show Ac (Gq .i64 s.al a.al)=Ac (Gq .i64 (Bw [s]) a.al)
  rw[b]
 ·exact Ni (Af (Dz s a p)) 3
 ·have f:=Aj (show l∈AI (Gq .i64 s.al a.al) 6 from f)
  show FD (Dz s a p) (Af (Dz s a p)) (BK (Af (Dz s a p)) x) l=JH [s] a p x l
  have e:=Mq (l:=[s]) (aus:=[a,p]) (st:=[0,0,0]) (ls:=Gq .i64 s.al a.al) (kd:=2) (gl:=0) j (node:=x) f.1 (by omega);refine Eq.trans e ?_;unfold JH Gf;simp only[qj,sQ,Aw,Int.mul_one,BK,List.zipWith_cons_cons,List.zipWith_nil_left,EK,ru,List.flatMap_nil,pA,Int.ediv_one,Int.add_zero]
  have g:x / p.nx.length / a.nx.length=x / (a.nx.length*p.nx.length):=by rw[rh (by omega),q6]
  rw[g,List.map_eq_flatMap];congr 1;funext o;rw[qG]
 ·show CU (Dz s a p) (BK (Af (Dz s a p)) x) (FF (Dz s a p) x.toNat)=N9 a p x
  unfold CU bf N9;simp[Dz,Af,BK,Aw,List.getD]
theorem dG{l:List Sys}{p:AY}(h:(AV l && AE p)=true):CY (gI l OD p (Ac (Gq .i64 (Bw l) OD.al)))=CY (DN (CL l p)):=by
 obtain⟨g,hk,c⟩:=O2 h;rw[d4]at h;obtain⟨s,r⟩:=h;have n:=Cs r;refine LI (CI.congr (PF g c) ?_ ?_ (λx j m d=>?_) (λx j=>?_) (De _))
 ·show Ac (Bw l)=Ac (Gq .i64 (Bw l) 0)
  rw[(UO (XI s)).2]
 ·exact Ni (Af (CL l p)) (l.length+1)
 ·have d:=Aj (show m∈AI (Bw l) 6 from d)
  show FD (CL l p) (Af (CL l p)) (BK (Af (CL l p)) x) m=JH l OD p x m
  have e:=Mq (l:=l) (aus:=[p]) (st:=List.replicate (l.length+1) 0) (ls:=Bw l) (kd:=3) (gl:=0) g (node:=x) d.1 (by omega);refine Eq.trans e ?_
  have f:∀q:Nat,Cz OD q m=q:=λq=>by
   have:AZ 0 m.toNat=false:=by
    have v:m=0\/m=1\/m=2\/m=3\/m=4\/m=5:=by omega
    rcases v with rfl|rfl|rfl|rfl|rfl|rfl<;>decide
   unfold Cz;rw[if_neg]
   show ¬AZ 0 m.toNat=true
   rw[this];simp
  have b:((OD.nx.length:Nat):Int)=1:=rfl;unfold JH Gf;rw[f,b];simp only[qj,sQ,Aw,Int.mul_one,BK,List.zipWith_cons_cons,List.zipWith_nil_left,EK,ru,List.flatMap_nil,pA,Int.ediv_one,Int.add_zero,Int.emod_one];generalize EK (l.map (·.st)) (ae l (x / p.nx.length) m)=LL;rw[List.map_eq_flatMap];congr 1;funext o;simp
 ·show CU (CL l p) (BK (Af (CL l p)) x) (FF (CL l p) x.toNat)=N9 OD p x
  have b:((OD.nx.length:Nat):Int)=1:=rfl;have u:=Px (l.map (·.st)) [(p.nx.length:Int)] x (by intro w k;simp at k;omega);have i:Af (CL l p)=l.map (·.st)++[(p.nx.length:Int)]:=rfl
  have a:(BK (l.map (·.st)) (x / Aw [(p.nx.length:Int)])).length=l.length:=by rw[LP];simp
  rw[i,u];generalize BK (l.map (·.st)) (x / Aw [(p.nx.length:Int)])=dd at a
  have t:(dd++BK [(p.nx.length:Int)] x).getD (l.length+0) 0=x%p.nx.length:=by
   rw[List.getD,ry,gc (by omega),a];simp[BK,Aw]
  unfold CU bf N9;rw[b];have A:(CL l p).kd=3:=rfl;have z:(CL l p).ps=l:=rfl;have y:(CL l p).au=[p]:=rfl;rw[A,z,y,t];simp[OD,List.getD]
end Go.Am
namespace Go.Am
open Go Go.Proofs
set_option maxHeartbeats 1000000
set_option maxRecDepth 4000
attribute [local irreducible] A6 CC Lex Bz Ak Spec
variable {TB:BJ}
theorem DJ[Dl TB](l:List Sys)(p:AY):Pure Tryz.prog TB 42 [Gx l,Bk p] (LR (BE l p)):=by
 by_cases c:(AV l && AE p)=true
 ·have b:BE l p=CY (DN (CL l p)):=by unfold BE;rw[if_pos c]
  rw[b,<-dG c];rw[d4]at c;have e:=OG (TB:=TB) l p c.1 c.2;refine eN Tryz.func42 rfl (by kernel_rfl) rfl ?_;intro Γ d;(repeat' first|refine tA rfl ?_|refine s2 rfl λ_ a=>?_|(refine sC rfl (Hp l) ?_;intro _ a)|(refine sC rfl (AW p) ?_;intro _ a)|refine sP rfl (e) rfl ?_|refine s3 rfl ?_ ?_<;>rintro rfl|refine aU rfl ?_|apply Aa|(refine aC rfl ?_ ?_<;>rintro⟨⟩)|apply aK|apply aE|apply aB|refine aR ⟨_,rfl,?_⟩)
  all_goals first
   | rfl
   | (exfalso;grind;done)
 ·have b:BE l p=none:=by unfold BE;rw[if_neg c]
  rw[b];refine eN Tryz.func42 rfl (by kernel_rfl) rfl ?_;intro Γ d;(repeat' first|refine tA rfl ?_|refine s2 rfl λ_ a=>?_|(refine sC rfl (Hp l) ?_;intro _ a)|(refine sC rfl (AW p) ?_;intro _ a)|refine s3 rfl ?_ ?_<;>rintro rfl|refine aU rfl ?_|apply Aa|(refine aC rfl ?_ ?_<;>rintro⟨⟩)|apply aK|apply aE|apply aB|refine aR ⟨_,rfl,?_⟩)
  all_goals first
   | rfl
   | (exfalso;grind;done)
theorem Fq[Dl TB](s:Sys)(a p:AY):Pure Tryz.prog TB 69 [Br s,Bk a,Bk p] (LR (C4 s a p)):=by
 by_cases c:BI s a p=true
 ·have d:C4 s a p=CY (DN (Dz s a p)):=by unfold C4;rw[if_pos c]
  rw[d,<-dH c];unfold BI at c;simp only[d4]at c;have f:=PC (TB:=TB) [s] a p (by simp[AV,c.1.1]) c.1.2 c.2;refine eN Tryz.func69 rfl (by kernel_rfl) rfl ?_;intro Γ e;(repeat' first|refine tA rfl ?_|refine s2 rfl λ_ b=>?_|(refine sC rfl (BL s) ?_;intro _ b)|(refine sC rfl (AW a) ?_;intro _ b)|(refine sC rfl (AW p) ?_;intro _ b)|refine sP rfl (f) rfl ?_|refine s3 rfl ?_ ?_<;>rintro rfl|refine aU rfl ?_|apply Aa|(refine aC rfl ?_ ?_<;>rintro⟨⟩)|apply aK|apply aE|apply aB|refine aR ⟨_,rfl,?_⟩)
  all_goals first
   | rfl
   | (exfalso;grind;done)
 ·have d:C4 s a p=none:=by unfold C4;rw[if_neg c]
  rw[d];refine eN Tryz.func69 rfl (by kernel_rfl) rfl ?_;intro Γ e;(repeat' first|refine tA rfl ?_|refine s2 rfl λ_ b=>?_|(refine sC rfl (BL s) ?_;intro _ b)|(refine sC rfl (AW a) ?_;intro _ b)|(refine sC rfl (AW p) ?_;intro _ b)|refine s3 rfl ?_ ?_<;>rintro rfl|refine aU rfl ?_|apply Aa|(refine aC rfl ?_ ?_<;>rintro⟨⟩)|apply aK|apply aE|apply aB|refine aR ⟨_,rfl,?_⟩)
  all_goals first
   | rfl
   | (exfalso;unfold BI at c;grind;done)
theorem Nq[Dl TB](l:List Sys)(p:AY):Pure Tryz.prog TB 18 [Gx l,Bk p] (eB (C8 l p)):=by
 refine eN Tryz.func18 rfl (by kernel_rfl) rfl ?_;intro Γ b;(repeat' first|refine tA rfl ?_|refine s2 rfl λ_ a=>?_|refine sP rfl (DJ l p) rfl ?_|(refine sC rfl (Hp l) ?_;intro _ a)|(refine sC rfl (AW p) ?_;intro _ a)|refine s3 rfl ?_ ?_<;>rintro rfl|refine aU rfl ?_|apply Aa|(refine aC rfl ?_ ?_<;>rintro⟨⟩)|apply aK|apply aE|apply aB|refine aR ⟨_,rfl,?_⟩)
 all_goals (show E.o _=E.o _;congr;unfold C8;grind)
theorem Mc[Dl TB](s:Sys)(a p:AY):Pure Tryz.prog TB 40 [Br s,Bk a,Bk p] (eB (HD s a p)):=by
 refine eN Tryz.func40 rfl (by kernel_rfl) rfl ?_;intro Γ c;(repeat' first|refine tA rfl ?_|refine s2 rfl λ_ b=>?_|refine sP rfl (Fq s a p) rfl ?_|(refine sC rfl (BL s) ?_;intro _ b)|(refine sC rfl (AW a) ?_;intro _ b)|(refine sC rfl (AW p) ?_;intro _ b)|refine s3 rfl ?_ ?_<;>rintro rfl|refine aU rfl ?_|apply Aa|(refine aC rfl ?_ ?_<;>rintro⟨⟩)|apply aK|apply aE|apply aB|refine aR ⟨_,rfl,?_⟩)
 all_goals (show E.o _=E.o _;congr;unfold HD BI;grind)
theorem Jq[Dl TB](s:Sys)(p:AY):Pure Tryz.prog TB 41 [Br s,Bk p] (eB (C8 [s] p)):=by
 refine eN Tryz.func41 rfl (by kernel_rfl) rfl ?_;intro Γ a;(repeat' first|refine tA rfl ?_|refine sP rfl (Nq [s] p) rfl ?_|refine aU rfl ?_|apply Aa|(refine aC rfl ?_ ?_<;>rintro⟨⟩)|apply aK|apply aE|apply aB|refine aR ⟨_,rfl,?_⟩)
 all_goals rfl
theorem GY(s:Sys)(p:AY)(t:Sys):Pure Tryz.prog TB 39 [Br s,Bk p,Br t] (eI .i64 (AT s p t)):=by
 refine eN Tryz.func39 rfl (by kernel_rfl) rfl ?_;intro Γ b;(repeat' first|refine tA rfl ?_|refine s2 rfl λ_ a=>?_|(refine sC rfl (BL s) ?_;intro _ a)|(refine sC rfl (AW p) ?_;intro _ a)|(refine sC rfl (BL t) ?_;intro _ a)|refine s3 rfl ?_ ?_<;>rintro rfl|refine aU rfl ?_|apply Aa|(refine aC rfl ?_ ?_<;>rintro⟨⟩)|apply aK|apply aE|apply aB|refine aR ⟨_,rfl,?_⟩)
 all_goals (show E.o _=E.o _;congr;unfold AT;grind)
theorem Tp[Dl TB](s t:Sys)(p a:AY):Pure Tryz.prog TB 17 [Br s,Br t,Bk p,Bk a] (eI .i64 (DU s t p a)):=by
 refine eN Tryz.func17 rfl (by kernel_rfl) rfl ?_;intro Γ c;(repeat' first|refine tA rfl ?_|refine s2 rfl λ_ b=>?_|refine sP rfl (GY s p t) rfl ?_|(refine sC rfl (AW a) ?_;intro _ b)|(refine sC rfl (Mc s a p) ?_;intro _ b)|(refine sC rfl (Jq t a) ?_;intro _ b)|refine s3 rfl ?_ ?_<;>rintro rfl|refine aU rfl ?_|apply Aa|(refine aC rfl ?_ ?_<;>rintro⟨⟩)|apply aK|apply aE|apply aB|refine aR ⟨_,rfl,?_⟩)
 all_goals (show E.o _=E.o _;congr;unfold DU;grind)
abbrev Ws(t:A0):List D:=[Cf t.rows,Cf t.cols]
abbrev Er(t:A0):E:=.a [.d (Cf t.rows),.d (Cf t.cols)]
abbrev Jn(al:Int)(c:C):E:=.a [.d (iD al),c]
mutual
theorem Fh:∀(c:C),c.Cp=true->∀r,c.Bi r=c
 | .d x,_,r=>rfl
 | .fn g cap,h,r=>by
  simp only[C.Cp]at h;simp only[C.Bi,Qi cap h r]
 | .arr ..,h,_=>by cases h
 | .ptr ..,h,_=>by cases h
 | .mp ..,h,_=>by cases h
 | .mv g l,h,r=>by
  simp only[C.Cp]at h;simp only[C.Bi,Qi l h r]
theorem Qi:∀(l:List C),C.DB l=true->∀r,C.CB r l=l
 | [],_,r=>rfl
 | c::l,h,r=>by
  simp only[C.DB,d4]at h;simp only[C.CB,Fh c h.1 r,Qi l h.2 r]
end
structure Ku (P:Program) (TB:BJ) (c:C) (L:W->Bool) (ok:W->Prop):Prop where
 Cp:c.Cp=true
 ask:∀ {Γ:Ctx} {d:Option Tmp} {ty:TypeId} {pos:String} {af:Array Edge} {g:Option (Nat×Bool)} {f:Env} {σ:Ab} {nx:Nat} {x a:Operand} {tys:Array TypeId} {w:W},
  ev f x=some (.o c)->ev f a=some (eT w)->ok w->A6 P TB Γ ⟨d,.call ⟨.value x,#[a],tys⟩,ty,pos,af,g⟩ f σ nx (eB (L w))
def Vn(L:W->Bool)(cols:List W)(w:W)(k:Nat)(i:Nat):UInt8:=if i<k then Si (L (w++cols.getD i [])) else 0
theorem XC(L:W->Bool)(cols:List W)(w:W):(BO cols.length λi=>FR (Vn L cols w cols.length i))=(marks L cols w).map FR:=by
 apply pY;intro i;by_cases h:i<cols.length
 ·rw[Ed h]
  simp[marks,Vn,h]
 ·rw[o4 (by simp[BO];omega),o4 (by simp[marks];omega)]
theorem nh:FR 0=[C.d (D.v (Value.int IntKind.u8 0))]:=rfl
theorem lI(L:W->Bool)(cols:List W)(w:W)(n:Nat):(BO n λi=>FR (Vn L cols w 0 i))=List.replicate n (FR 0):=by
 apply pY;intro i;by_cases h:i<n
 ·rw[Ed h];simp[Vn,h]
 ·rw[o4 (by simp[BO];omega),o4 (by simp;omega)]
theorem dw{L:W->Bool}{cols:List W}{w x:W}{k:Nat}(b:cols[k]?=some x):(BO cols.length λi=>FR (if i=k then Si (L (w++x)) else Vn L cols w k i))=BO cols.length λi=>FR (Vn L cols w (k+1) i):=by
 refine Dn λi _=>?_;congr 1;unfold Vn;by_cases h:i=k
 ·subst h
  rw[if_pos rfl,if_pos (by omega)];simp[b]
 ·rw[if_neg h]
  by_cases a:i<k
  ·rw[if_pos a,if_pos (by omega)]
  ·rw[if_neg a,if_neg (by omega)]
theorem Mg{c:C}{L:W->Bool}{ok:W->Prop}(B:Ku Tryz.prog TB c L ok)(al:Int)(t:A0)(w:W)(I:t.cols.length<=1048576)(hk:∀x∈t.cols,ok (w++x))(hb:∀x∈t.cols,w.length+x.length<=1048576) :
 Pure Tryz.prog TB 132 [Jn al c,Er t,eT w] (eT (marks L t.cols w)):=by
 have y:=Fh c B.Cp;refine eN Tryz.func132 rfl (by kernel_rfl) rfl ?_;intro Γ b;(repeat first|refine aU rfl ?_);(refine pW rfl ?_ rfl (by rfl);refine Dm rfl rfl ?_);(refine Ag rfl ?_;refine CM (λ_ _=>Dj rfl rfl rfl) rfl ?_);(repeat first|refine sN rfl ?_|refine tM rfl ?_|refine aU rfl ?_|apply Aa);(refine pW rfl ?_ rfl (by rfl);refine Lh rfl rfl (by rfl) (by rfl) (am rfl) (by omega) (by omega) (by omega) ?_);(repeat first|refine sN rfl ?_|refine tM rfl ?_|refine aU rfl ?_|apply Aa);apply aB;refine Ak.A5 (α:={k:Nat // k<=t.cols.length}) (λ⟨k,j⟩=>[(2,eT w),(3,.o (.ptr 0 2 0 0)),(7,.o (.arr 1 1 0 t.cols.length)),(15,.o (.d (Cf t.cols))),(16,eI .i64 t.cols.length),(17,eI .i64 k)]) (λ⟨k,j⟩=>[(1,.cells 5 1 (BO t.cols.length λi=>FR (Vn L t.cols w k i))),(0,.cells 102 2 [[.d (iD al),c]])]) 2 (λ⟨k,j⟩=>t.cols.length-k) (⟨0,by omega⟩) [0,1] (En b rfl rfl) (by (simp[cX,zC,b,NF,y,lI,eC,Ge,nh])) ?_;rintro⟨k,j⟩;(try dsimp only);(repeat first|refine s2 rfl λ_ r=>?_|refine aU rfl ?_|apply Aa);(refine aC rfl ?_ ?_<;>rintro⟨⟩)
 ·have f:k<t.cols.length:=by (simp only[oZ] at *;omega)
  obtain⟨x,u⟩:=get_some (l:=t.cols) (k:=k) f;have G:=get_map (g:=CX) u;have s:=co u;have F:=hb x s;have z:=hk x s;have J:=LX (H:=Vn L t.cols w k) (q:=k) (n:=t.cols.length) f;have e:(BO t.cols.length λi=>FR (Vn L t.cols w k i)).set (0+((k:Nat):Int).toNat) (Ae (FR (Vn L t.cols w k k)) 0 (eC (eI .u8 45)))=BO t.cols.length λi=>FR (if i=k then 45 else Vn L t.cols w k i):=Pc (c:=45);have A:=LX (H:=λi=>if i=k then 45 else Vn L t.cols w k i) (q:=k) (n:=t.cols.length) f;rw[<-e]at A
  have v:(BO t.cols.length λi=>FR (if i=k then 45 else Vn L t.cols w k i)).set (0+((k:Nat):Int).toNat) (Ae (FR (if k=k then 45 else Vn L t.cols w k k)) 0 (eC (eI .u8 43)))=BO t.cols.length λi=>FR (if i=k then 43 else Vn L t.cols w k i):=by
   refine(Pc (H:=λi=>if i=k then 45 else Vn L t.cols w k i) (c:=43)).trans ?_;refine Dn λi _=>?_;by_cases h:i=k<;>simp[h]
  have a:=dw (L:=L) (w:=w) u;apply aK;refine aS (aB ?_);(repeat first|((first|refine sM rfl ?_ ?_|refine s4 rfl ‹_› rfl ?_ ?_);first|exact tI|omega)|(refine Ag rfl ?_;refine gA rfl ?_;first|(refine gB (λ_ _=>B.ask rfl rfl z) ?_;intro _ r))|refine aU rfl ?_|apply Aa);(refine aC rfl ?_ ?_<;>rintro⟨⟩)
  ·(repeat first|(refine sM rfl ?_ ?_;first|exact tI|omega)|refine t4 rfl ‹_› rfl ?_|refine aU rfl ?_|apply Aa)
   refine⟨⟨k+1,by omega⟩,by dsimp only;(omega),[0,1],?_⟩;rw[e,v];rw[r]at a;have p:Si true=43:=rfl;have m:Si false=45:=rfl;simp only[p,m]at a;simp[cX,zC,b,NF,y,a]
  ·apply aK
   (repeat first|(refine sM rfl ?_ ?_;first|exact tI|omega)|refine aU rfl ?_|apply Aa);refine⟨⟨k+1,by omega⟩,by dsimp only;(omega),[0,1],?_⟩;rw[e];rw[r]at a;have p:Si true=43:=rfl;have m:Si false=45:=rfl;simp only[p,m]at a;simp[cX,zC,b,NF,y,a]
 ·obtain rfl:k=t.cols.length:=by (simp only[oZ] at *;omega)
  rw[XC];apply aE;(repeat first|refine tM rfl ?_|(refine Ag rfl ?_;refine gA rfl ?_;first|refine gQ (Pa (marks L t.cols w) rfl rfl (by simp[marks]) (by rw[pN,ge (by simp[marks])])) (by rfl) ?_)|refine aU rfl ?_|apply Aa);refine aR ⟨_,rfl,rfl⟩
def Cb(L:W->Bool)(t:A0):Nat->List (W×Int)
 | 0=>[]
 | k+1=>if (C0 (Cb L t k) (marks L t.cols (t.rows.getD k []))).isSome then Cb L t k else Cb L t k++[(marks L t.cols (t.rows.getD k []),(k:Int))]
structure bW (ok:W->Prop) (t:A0):Prop where
 ok:∀w∈t.rows,∀x∈t.cols,ok (w++x)
 rb:∀w∈t.rows,w.length<=65536
 cb:∀x∈t.cols,x.length<=65536
 rl:t.rows.length<=4096
 cl:t.cols.length<=4096
theorem HG{c:C}{L:W->Bool}{ok:W->Prop}(r:Ku Tryz.prog TB c L ok)(al:Int)(t:A0)(ht:bW ok t) :
 Spec Tryz.prog TB 131 [] 0 [Jn al c,Er t] (λx σ nx=>x=.o (.mp 0)/\nx=1/\σ=[(0,.mp (Jc (Cb L t t.rows.length)))]):=by
 have n:=Fh c r.Cp;have w:=ht.rl;refine eN Tryz.func131 rfl (by kernel_rfl) rfl ?_;intro Γ b;(repeat first|refine aU rfl ?_);(refine pW rfl ?_ rfl (by rfl);refine Dm rfl rfl ?_);(refine Ag rfl ?_;refine CM (λ_ _=>Dj rfl rfl rfl) rfl ?_);(repeat first|refine tM rfl ?_|refine aU rfl ?_|apply Aa);(refine pW rfl ?_ rfl (by rfl);refine Sl ?_);(repeat first|refine sN rfl ?_|refine tM rfl ?_|refine aU rfl ?_|apply Aa);apply aB;refine Ak.A5 (α:={k:Nat // k<=t.rows.length}) (λ⟨k,e⟩=>[(2,.o (.ptr 0 2 0 0)),(3,.o (.ip (Ws t))),(5,.o (.mp 1)),(13,.o (.d (Cf t.rows))),(14,eI .i64 t.rows.length),(15,eI .i64 k)]) (λ⟨k,e⟩=>[(1,.mp (Jc (Cb L t k))),(0,.cells 102 2 [[.d (iD al),c]])]) 2 (λ⟨k,e⟩=>t.rows.length-k) (⟨0,by omega⟩) [0,1] (En b rfl rfl) (by (simp[cX,zC,b,n,eC,Cb,Jc])) ?_;rintro⟨k,e⟩;(try dsimp only);(repeat first|refine s2 rfl λ_ f=>?_|refine aU rfl ?_|apply Aa);(refine aC rfl ?_ ?_<;>rintro⟨⟩)
 ·have p:k<t.rows.length:=by (simp only[oZ] at *;omega)
  obtain⟨x,m⟩:=get_some (l:=t.rows) (k:=k) p;have v:=get_map (g:=CX) m;have h:=co m;have u:=ht.rb x h;have z:=Mg r al t x (by have:=ht.cl;omega) (ht.ok x h) (λy s=>by have:=ht.cb y s;omega)
  have q:t.rows.getD k []=x:=by simp[m]
  have a:Cb L t (k+1)=if (C0 (Cb L t k) (marks L t.cols x)).isSome then Cb L t k else Cb L t k++[(marks L t.cols x,(k:Int))]:=by
   rw[Cb,q]
  apply aK;refine aS (aB ?_);(repeat first|refine tM rfl ?_|(refine s4 rfl ‹_› rfl ?_ ?_;omega)|refine s2 rfl λ_ f=>?_|(refine Ag rfl ?_;refine gA rfl ?_;first|refine gS (λ_ _=>Bv rfl rfl (by simp[E.Cp,C.DB,C.Cp,r.Cp]) z rfl) ?_|refine gQ (en rfl rfl rfl) (by rfl) ?_)|refine aU rfl ?_|apply Aa);(refine aC rfl ?_ ?_<;>rintro⟨⟩)
  ·have j:C0 (Cb L t k) (marks L t.cols x)=none:=by simpa using f
   rw[j]at a;(repeat first|refine tM rfl ?_|refine aU rfl ?_);(refine Ag rfl ?_;refine Ia ?_ rfl (by rfl);refine lJ rfl rfl rfl rfl j ?_);(repeat first|(refine sM rfl ?_ ?_;first|exact tI|omega)|refine aU rfl ?_|apply Aa);refine⟨⟨k+1,by omega⟩,by dsimp only;(omega),[0,1],?_⟩;simp[cX,zC,b,n,a]
  ·have j:(C0 (Cb L t k) (marks L t.cols x)).isSome=true:=by simpa using f
   rw[if_pos j]at a;apply aK;(repeat first|(refine sM rfl ?_ ?_;first|exact tI|omega)|refine aU rfl ?_|apply Aa);refine⟨⟨k+1,by omega⟩,by dsimp only;(omega),[0,1],?_⟩;simp[cX,zC,b,n,a]
 ·obtain rfl:k=t.rows.length:=by (simp only[oZ] at *;omega)
  apply aE;(repeat first|refine tM rfl ?_|refine aU rfl ?_|apply Aa);refine Ak.names [1] [(4,.o (.mp 0))] [(0,.mp (Jc (Cb L t t.rows.length)))] (by intro i hi;rw[b]at hi;omega) (by simp) (by simp[cX,zC,b]) (by simp[cX,zC,b]) ?_;refine aR ⟨_,rfl,rfl,rfl,rfl⟩
theorem aq(l:List (W×Int))(p:W×Int)(s:W):C0 (l++[p]) s=(C0 l s).or (if p.1=s then some p.2 else none):=by
 unfold C0;rw[sJ]
 cases h:l.find? (λp=>decide (p.1=s)) with
 | some q=>simp
 | none=>by_cases a:p.1=s<;>simp[a]
theorem Ql{L:W->Bool}{t:A0}{k:Nat}(h:k<t.rows.length):(AK L t)[k]?=some (marks L t.cols (t.rows.getD k [])):=by
 simp[AK,h]
theorem So(L:W->Bool)(t:A0):∀k,k<=t.rows.length->∀s,C0 (Cb L t k) s=if s∈(AK L t).take k then some (((AK L t).idxOf s:Nat):Int) else none
 | 0,_,s=>by simp[Cb,C0]
 | k + 1, hk, s=>by
  have d:=So L t k (by omega);have f:=Ql (L:=L) (t:=t) (k:=k) (by omega);generalize marks L t.cols (t.rows.getD k [])=x at *
  have i:Cb L t (k+1)=if (C0 (Cb L t k) x).isSome then Cb L t k else Cb L t k++[(x,(k:Int))]:=by
   have c:=Ql (L:=L) (t:=t) (k:=k) (by omega);rw[f]at c
   injection c with c
   rw[Cb,<-c]
  have a:∀s,s∈(AK L t).take (k+1)↔s∈(AK L t).take k\/s=x:=λs=>by
   rw[d8,f];simp
  rw[i];by_cases g:x∈(AK L t).take k
  ·rw [if_pos (by rw[d x,if_pos g];rfl),d s]
   by_cases b:s∈(AK L t).take k
   ·rw[if_pos b,if_pos ((a s).2 (.inl b))]
   ·rw[if_neg b,if_neg]
    intro h
    rcases(a s).1 h with h|h
    ·exact b h
    ·subst h;exact b g
  ·rw [if_neg (by rw[d x,if_neg g];simp),aq,d s]
   by_cases b:s∈(AK L t).take k
   ·rw[if_pos b,if_pos ((a s).2 (.inl b))];rfl
   ·rw [if_neg b]
    by_cases m:x=s
    ·subst m
     rw[if_pos ((a x).2 (.inr rfl))]
     have l:(AK L t).idxOf x=k:=by
      have n:k<(AK L t).length:=(ce.1 f).1
      have e:AK L t=(AK L t).take k++x::(AK L t).drop (k+1):=by
       rw[<-BF f,pP]
      rw[e,sK,if_neg g,si];simp;omega
     simp[l]
    ·have j:s∉(AK L t).take (k+1):=λh=>by
      rcases(a s).1 h with h|h
      ·exact b h
      ·exact m h.symm
     rw[if_neg j];simp[m]
theorem Vt{L:W->Bool}{t:A0}{s:W}:C0 (Cb L t t.rows.length) s=if s∈AK L t then some (((AK L t).idxOf s:Nat):Int) else none:=by
 have h:=So L t t.rows.length (jp _) s;have e:(AK L t).take t.rows.length=AK L t:=ge (by simp[AK]);rwa[e]at h
theorem Zl{L:W->Bool}{ls:List UInt8}{t:A0}{k j:Nat}{r:W}{l:UInt8}(e:t.rows[k]?=some r)(f:ls[j]?=some l)(n:∀w∈CW ls (t.rows.take k),marks L t.cols w∈AK L t)(m:∀x∈ls.take j,marks L t.cols (r++[x])∈AK L t)
 (i:marks L t.cols (r++[l])∉AK L t):Bg L ls t=some (r++[l]):=by
 have q:t.rows=t.rows.take k++r::t.rows.drop (k+1):=by
  rw[<-BF e,pP]
 have p:ls=ls.take j++l::ls.drop (j+1):=by
  rw[<-BF f,pP]
 have o:CW ls t.rows=CW ls (t.rows.take k)++((ls.take j).map (λx=>r++[x])++(r++[l])::((ls.drop (j+1)).map (λx=>r++[x])++CW ls (t.rows.drop (k+1)))):=by
  have h:CW ls t.rows=CW ls (t.rows.take k++r::t.rows.drop (k+1)):=congrArg _ q;rw[h];unfold CW;rw[List.flatMap_append,ru];have g:ls.map (λx=>r++[x])=(ls.take j++l::ls.drop (j+1)).map (λx=>r++[x]):=congrArg _ p;rw[g];simp
 unfold Bg;rw[o,sJ,sJ]
 have c:(CW ls (t.rows.take k)).find? (λw=>!(AK L t).contains (marks L t.cols w))=none:=qN.2 λw a=>by simpa using n w a
 have b:((ls.take j).map (λx=>r++[x])).find? (λw=>!(AK L t).contains (marks L t.cols w))=none:=qN.2 λw a=>by
  obtain⟨x,d,rfl⟩:=d9.1 a
  simpa using m x d
 rw[c,b];simp[i]
def lb(l:Int):UInt8:=UInt8.ofNat (97+l.toNat)
def A7(al:Int):List UInt8:=(Ac al).map lb
def ah(o:Option W):E:=match o with
 | some w=>.t [(false,[.d (tD w)]),(false,[.d (bD true)])]
 | none=>.t [(false,[.d (tD [])]),(false,[.d (bD false)])]
theorem dn{l:Int}(a:0<=l):UInt8.ofNat (97+l).toNat=lb l:=by
 unfold lb;congr 1;omega
theorem UG{L:W->Bool}{t:A0}{s:W}:(C0 (Cb L t t.rows.length) s).isSome=true↔s∈AK L t:=by
 rw[Vt];by_cases h:s∈AK L t<;>simp[h]
theorem PY{ls:List UInt8}{t:A0}{k:Nat}{r:W}(h:t.rows[k]?=some r):CW ls (t.rows.take (k+1))=CW ls (t.rows.take k)++ls.map λl=>r++[l]:=by
 unfold CW;rw[d8,h];simp
theorem Tk{c:C}{L:W->Bool}{ok:W->Prop}(G:Ku Tryz.prog TB c L ok)(al:Int)(t:A0)(ht:bW ok t)(T:∀w∈t.rows,∀l∈A7 al,∀x∈t.cols,ok (w++[l]++x)) :
 Pure Tryz.prog TB 179 [Jn al c,Er t] (ah (Bg L (A7 al) t)):=by
 have v:=Fh c G.Cp;have S:=ht.rl;have V:(Ac al).length<=6:=AM al 6;refine eN Tryz.func179 rfl (by kernel_rfl) rfl ?_;intro Γ b;(repeat first|refine aU rfl ?_);(refine pW rfl ?_ rfl (by rfl);refine Dm rfl rfl ?_);(refine Ag rfl ?_;refine CM (λ_ _=>Dj rfl rfl rfl) rfl ?_);(repeat first|refine tM rfl ?_|refine aU rfl ?_|apply Aa);(refine pW rfl ?_ rfl (by rfl);refine Ai [] rfl rfl (HG G al t ht) ⟨rfl,by simp,by simp⟩ (by simp[Ff,E.Bi,C.CB,C.Bi,v,eC]) trivial ?_;rintro Y M N ⟨rfl,rfl,rfl⟩ _);(repeat first|refine sN rfl ?_|refine tM rfl ?_|refine aU rfl ?_|apply Aa);apply aB;refine Ak.A5 (α:={k:Nat // k<=t.rows.length/\∀w∈CW (A7 al) (t.rows.take k),marks L t.cols w∈AK L t}) (λ⟨k,p,e⟩=>[(2,.o (.ptr 0 2 0 0)),(3,.o (.ip (Ws t))),(6,.o (.mp 1)),(18,.o (.d (Cf t.rows))),(19,eI .i64 t.rows.length),(20,eI .i64 k)]) (λ⟨k,p,e⟩=>[(1,.mp (Jc (Cb L t t.rows.length))),(0,.cells 102 2 [[.d (iD al),c]])]) 2 (λ⟨k,p,e⟩=>t.rows.length-k) (⟨0,by omega,by simp[CW]⟩) [0,1] (En b rfl rfl) (by (simp[cX,zC,b,v,eC,Ab.Bi,Ce,I0])) ?_;rintro⟨k,p,e⟩;(try dsimp only);(repeat first|refine s2 rfl λ_ i=>?_|refine aU rfl ?_|apply Aa);(refine aC rfl ?_ ?_<;>rintro⟨⟩)
 ·have I:k<t.rows.length:=by (simp only[oZ] at *;omega)
  obtain⟨r,a⟩:=get_some (l:=t.rows) (k:=k) I;have R:=get_map (g:=CX) a;have u:=co a;have Q:=ht.rb r u;apply aK;refine aS (aB ?_);(repeat first|refine sN rfl ?_|refine tM rfl ?_|(refine s4 rfl ‹_› rfl ?_ ?_;omega)|refine sP rfl (C1 al) rfl ?_|refine aU rfl ?_|apply Aa);apply aB;refine Ak.A5 (α:={j:Nat // j<=(Ac al).length/\∀x∈(A7 al).take j,marks L t.cols (r++[x])∈AK L t}) (λ⟨j,q,f⟩=>[(2,.o (.ptr 0 2 0 0)),(3,.o (.ip (Ws t))),(6,.o (.mp 1)),(18,.o (.d (Cf t.rows))),(19,eI .i64 t.rows.length),(20,eI .i64 k),(8,eT r),(26,Al (Ac al)),(27,eI .i64 (Ac al).length),(28,eI .i64 j)]) (λ⟨j,q,f⟩=>[(1,.mp (Jc (Cb L t t.rows.length))),(0,.cells 102 2 [[.d (iD al),c]])]) 2 (λ⟨j,q,f⟩=>(Ac al).length-j) (⟨0,by omega,by simp⟩) [0,1] (En b rfl rfl) (by (simp[cX,zC,b,v])) ?_;rintro⟨j,q,f⟩;(try dsimp only);(repeat first|refine s2 rfl λ_ i=>?_|refine aU rfl ?_|apply Aa);(refine aC rfl ?_ ?_<;>rintro⟨⟩)
  ·have B:j<(Ac al).length:=by (simp only[oZ] at *;omega)
   obtain⟨l,K⟩:=get_some (l:=Ac al) (k:=j) B;have X:=get_map (g:=Bs) K;have z:=Aj (co K)
   have n:(A7 al)[j]?=some (lb l):=by simp[A7,K]
   have J:=co n;have U:=Mg G al t (r++[lb l]) (by have:=ht.cl;omega) (λx a=>T r u _ J x a) (λy P=>by have:=ht.cb y P;simp;omega);apply aK;refine aS (aB ?_);(repeat first|(refine sM rfl ?_ ?_;first|exact tI|omega|simp only[oZ] at *;omega)|(refine s4 rfl ‹_› rfl ?_ ?_;omega)|refine sP rfl (FN l z.1 (by omega)) rfl ?_|(refine Ag rfl ?_;refine gA rfl ?_;first|refine gS (λ_ _=>XN rfl (by omega) (by omega)) ?_)|refine aU rfl ?_|apply Aa);rw[dn z.1];(repeat first|refine tM rfl ?_|refine s2 rfl λ_ i=>?_|(refine Ag rfl ?_;refine gA rfl ?_;first|refine gS (λ_ _=>Bv rfl rfl (by simp[E.Cp,C.DB,C.Cp,G.Cp]) U rfl) ?_|refine gQ (en rfl rfl rfl) (by rfl) ?_)|refine aU rfl ?_|apply Aa);(refine aC rfl ?_ ?_<;>rintro⟨⟩)
   ·have hno:marks L t.cols (r++[lb l])∉AK L t:=λh=>by
     rw[UG.2 h]at i;cases i
    (repeat first|refine tM rfl ?_|refine aU rfl ?_|apply Aa);refine aR ⟨_,rfl,?_⟩;rw[Zl a n e f hno];rfl
   ·have s:marks L t.cols (r++[lb l])∈AK L t:=UG.1 (by simpa using i)
    have F:∀x∈(A7 al).take (j+1),marks L t.cols (r++[x])∈AK L t:=λx a=>by
     rw[d8,n]at a
     rcases f6.1 a with a|a
     ·exact f x a
     ·simp at a;subst a;exact s
    apply aK;(repeat first|(refine sM rfl ?_ ?_;first|exact tI|omega)|refine aU rfl ?_|apply Aa);refine⟨⟨j+1,by omega,F⟩,by dsimp only;(omega),[0,1],?_⟩;simp[cX,zC,b,v]
  ·obtain rfl:j=(Ac al).length:=by (simp only[oZ] at *;omega)
   have A:∀w∈CW (A7 al) (t.rows.take (k+1)),marks L t.cols w∈AK L t:=λw m=>by
    rw[PY a]at m
    rcases f6.1 m with m|m
    ·exact e w m
    ·obtain⟨x,H,rfl⟩:=d9.1 m
     exact f x (by rw[ge (by simp[A7])];exact H)
   apply aE;(repeat first|(refine sM rfl ?_ ?_;first|exact tI|omega)|refine aU rfl ?_|apply Aa);refine⟨⟨k+1,by omega,A⟩,by dsimp only;(omega),[0,1],?_⟩;simp[cX,zC,b,v]
 ·obtain rfl:k=t.rows.length:=by (simp only[oZ] at *;omega)
  have hno:Bg L (A7 al) t=none:=qN.2 λw m=>by
   have:=e w (by rw[io];exact m)
   simpa using this
  apply aE;(repeat first|refine tM rfl ?_|refine aU rfl ?_|apply Aa);refine aR ⟨_,rfl,?_⟩;rw[hno];rfl
theorem LN(l:List W)(h:l.length<=1048576):Spec Tryz.prog TB 178 [] 0 [BW l] (λx σ nx=>x=.o (.arr 0 1 0 l.length)/\nx=1/\σ=[(0,.cells 9 1 (l.map Ex))]):=by
 refine eN Tryz.func178 rfl (by kernel_rfl) rfl ?_;intro Γ b;(repeat first|refine aU rfl ?_);(refine Ag rfl ?_;refine CM (λ_ _=>CQ rfl) rfl ?_);(repeat first|refine tM rfl ?_|refine aU rfl ?_|apply Aa);(refine pW rfl ?_ rfl (by rfl);refine Mm rfl ?_;intro e c);(repeat first|apply Aa);(refine aC rfl ?_ ?_<;>rintro⟨⟩)
 ·obtain rfl:l=[]:=by simpa using c rfl
  (repeat first|refine aU rfl ?_);(refine pW rfl ?_ rfl (by rfl);refine Hv 1 9 ?_);(repeat first|apply Aa);refine aR ⟨_,rfl,rfl,rfl,rfl⟩
 ·apply aK
  (repeat first|refine aU rfl ?_);(refine pW rfl ?_ rfl (by rfl);refine Bj rfl rfl rfl rfl (by simp) (by rfl) (by rfl) (by rfl) (by rfl) ?_);(repeat first|refine tM rfl ?_);(refine pW rfl ?_ rfl (by rfl);refine Au rfl rfl rfl (by first|(simp;done)|(simp;(omega))) rfl (by intro r d;simp at d;obtain⟨a,_,rfl⟩:=d;rfl) (by rfl) (am rfl) (by simp;omega) ?_);(repeat first|refine tM rfl ?_|apply Aa);refine Ak.names [1] [(2,.o (.arr 0 1 0 l.length))] [(0,.cells 9 1 (l.map Ex))] (by intro i hi;rw[b]at hi;omega) (by simp) (by simp[cX,zC,b]) (by simp[cX,zC,b]) ?_;refine aR ⟨_,rfl,rfl,rfl,rfl⟩
theorem df(l:List W)(s:W):Pure Tryz.prog TB 213 [BW l,eT s] (eI .i64 (if s∈l then (l.idxOf s:Int) else -1)):=by
 refine eN Tryz.func213 rfl (by kernel_rfl) rfl ?_;intro Γ a;refine Ak.bound 0 rfl λj=>?_;have o:=j (l.map CX) .refl;(repeat first|refine sN rfl ?_|refine tM rfl ?_|refine aU rfl ?_|apply Aa);apply aB;refine Ak.A5 (α:={k:Nat // k<=l.length/\s∉l.take k}) (λ⟨k,hk,b⟩=>[(0,BW l),(1,eT s),(7,eI .i64 l.length),(8,eI .i64 k)]) (λ⟨k,hk,b⟩=>[]) 0 (λ⟨k,hk,b⟩=>l.length-k) (⟨0,by omega,by simp⟩) [] (En a rfl rfl) (by (simp[cX,zC,a])) ?_;rintro⟨k,hk,b⟩;(try dsimp only);(repeat first|refine s2 rfl λ_ c=>?_|refine aU rfl ?_|apply Aa);(refine aC rfl ?_ ?_<;>rintro⟨⟩)
 ·have h:k<l.length:=by (simp only[oZ] at *;omega)
  obtain⟨x,d⟩:=get_some (l:=l) (k:=k) h;have m:=get_map (g:=CX) d;apply aK;refine aS (aB ?_);(repeat first|refine tM rfl ?_|(refine s4 rfl ‹_› rfl ?_ ?_;omega)|refine s2 rfl λ_ c=>?_|refine aU rfl ?_|apply Aa);(refine aC rfl ?_ ?_<;>rintro⟨⟩)
  ·have i:s=x:=by (simp only[oZ] at *;omega)
   subst i;(repeat first|refine tM rfl ?_|refine aU rfl ?_|apply Aa);refine aR ⟨_,rfl,?_⟩;have n:s∈l:=co d
   have hi:l.idxOf s=k:=by
    have e:l=l.take k++s::l.drop (k+1):=by rw[<-BF d,pP]
    rw[e,sK,if_neg b,si];simp;omega
   rw[if_pos n,hi]
  ·have i:¬s=x:=by simpa using c
   have f:s∉l.take (k+1):=by
    rw[d8,d];simp[b,i]
   apply aK;(repeat first|(refine sM rfl ?_ ?_;first|exact tI|simp only[oZ] at *;omega)|refine aU rfl ?_|apply Aa);refine⟨⟨k+1,by omega,f⟩,by dsimp only;(omega),[],?_⟩;simp[cX,zC,a]
 ·obtain rfl:k=l.length:=by (simp only[oZ] at *;omega)
  rw[io]at b;apply aE;(repeat first|refine tM rfl ?_|refine aU rfl ?_|apply Aa);refine aR ⟨_,rfl,?_⟩;rw[if_neg b]
theorem N5(l:List W)(s:W):Pure Tryz.prog TB 180 [BW l,eT s] (eB (decide (s∈l))):=by
 refine eN Tryz.func180 rfl (by kernel_rfl) rfl ?_;intro Γ b;(repeat' first|refine tA rfl ?_|refine s2 rfl λ_ a=>?_|refine sP rfl (df l s) rfl ?_|refine aU rfl ?_|apply Aa|(refine aC rfl ?_ ?_<;>rintro⟨⟩)|apply aK|apply aE|apply aB|refine aR ⟨_,rfl,?_⟩)
 all_goals (show E.o _=E.o _;congr;subst a;by_cases h:s∈l<;>simp[h])
def Fx(t:A0)(col:W):Option A0:=if t.cols.length=20\/col∈t.cols then none else some ⟨t.rows,t.cols++[col]⟩
def IZ(o:Option A0):E:=match o with
 | some t=>.t [(true,[.d (Cf t.rows),.d (Cf t.cols)]),(false,[.d (bD true)])]
 | none=>.t [(true,[.d (.l []),.d (.l [])]),(false,[.d (bD false)])]
theorem SU(t:A0)(col:W)(g:t.rows.length<=4096)(p:t.cols.length<=4096):Pure Tryz.prog TB 135 [Er t,eT col] (IZ (Fx t col)):=by
 have m:=LN (TB:=TB) t.rows (by omega);have k:=LN (TB:=TB) t.cols (by omega);refine AR.HH (AR.ofM 2 (jp _) Tryz.func135 rfl rfl (by kernel_rfl) (am rfl) ?_);intro Γ a;(repeat first|refine aU rfl ?_);(refine Ag rfl ?_;refine CM (λ_ _=>Dj rfl rfl rfl) rfl ?_);(repeat first|refine sN rfl ?_|refine tM rfl ?_|refine s2 rfl λ_ b=>?_|(refine sC rfl (N5 t.cols col) ?_;intro _ b)|refine s3 rfl ?_ ?_<;>rintro rfl|refine aU rfl ?_|apply Aa)
 ·(refine aC rfl ?_ ?_<;>rintro⟨⟩)
  have c:Fx t col=none:=by unfold Fx;rw[if_pos (.inl (by (simp only[oZ] at *;omega)))]
  (repeat first|refine tM rfl ?_|(refine Ag rfl ?_;refine gA rfl ?_;first|refine gS (λ_ _=>AG rfl rfl (by rfl) (by rfl)) ?_)|refine aU rfl ?_|apply Aa);refine Ak.freeze [0] [(4,.o (.ip [.l [],.l []])),(5,eB false)] ⟨⟨_,rfl,.o (.ptr (by simp) rfl rfl rfl)⟩,⟨_,rfl,.AS⟩,trivial⟩ ?_;refine aR ⟨_,rfl,?_⟩;rw[c];rfl
 (repeat first|refine tM rfl ?_|(refine sC rfl (N5 t.cols col) ?_;intro _ b)|apply Aa);(refine aC rfl ?_ ?_<;>rintro⟨⟩)
 ·have c:Fx t col=none:=by unfold Fx;rw[if_pos (.inr (by (simp only[oZ] at *;omega)))]
  (repeat first|refine tM rfl ?_|(refine Ag rfl ?_;refine gA rfl ?_;first|refine gS (λ_ _=>AG rfl rfl (by rfl) (by rfl)) ?_)|refine aU rfl ?_|apply Aa);refine Ak.freeze [0] [(4,.o (.ip [.l [],.l []])),(5,eB false)] ⟨⟨_,rfl,.o (.ptr (by simp) rfl rfl rfl)⟩,⟨_,rfl,.AS⟩,trivial⟩ ?_;refine aR ⟨_,rfl,?_⟩;rw[c];rfl
 ·apply aK
  apply aS;refine rG (nZ [0,1,3,4,6,7,2,5,8,9,10,11] [2,5,8,10] [0,1,3,4,6,7]) (by kernel_rfl) ?_;(repeat first|refine tA rfl ?_);(refine pW rfl ?_ rfl (by rfl);refine Ai [] rfl rfl m ⟨rfl,by simp,by simp⟩ rfl trivial ?_;rintro n e f ⟨rfl,rfl,rfl⟩ _);(refine pW rfl ?_ rfl (by rfl);refine Ai [] rfl rfl k ⟨rfl,by simp,by simp⟩ rfl trivial ?_;rintro n e f ⟨rfl,rfl,rfl⟩ _);(refine pW rfl ?_ rfl (by rfl);refine Au rfl rfl rfl (by first|(simp;done)|(simp;(omega))) rfl (by intro r g;simp at g;subst g;rfl) (by rfl) (am rfl) (by simp;omega) ?_);(repeat first|refine tA rfl ?_|(refine Ag rfl ?_;refine gA rfl ?_;first|refine gS (λ_ _=>AG rfl rfl (by rfl) (by rfl)) ?_)|apply Aa)
  have j:col∉t.cols:=by simpa using b
  have c:Fx t col=some ⟨t.rows,t.cols++[col]⟩:=by
   unfold Fx;rw[if_neg];rintro(h|h)
   ·(simp only[oZ] at *;omega)
   ·exact j h
  refine Ak.names [0,1,3] [(4,.o (.ptr 0 2 0 0)),(5,eB true)] [(0,.cells 109 2 [[.arr 1 1 0 t.rows.length,.arr 2 1 0 (t.cols.length+1)]]),(1,.cells 9 1 (t.rows.map Ex)),(2,.cells 9 1 ((t.cols++[col]).map Ex))] (by intro i hi;rw[a]at hi;omega) (by simp) (by simp[cX,zC,a,I0]) (by simp[cX,zC,a,I0,Ab.Bi,Ce,BU,eC,Ae]) ?_;refine Ak.OV [1,2] [(4,.o (.ptr 0 2 0 0)),(5,eB true)] [(0,.cells 109 2 [[.d (Cf t.rows),.d (Cf (t.cols++[col]))]])] ⟨⟨_,rfl,.AS⟩,⟨_,rfl,.AS⟩,trivial⟩ ⟨⟨_,rfl,by simp,.cons (.full (by simp) rfl (by simp[d5]) (by simp)) (.cons (.full (by simp) rfl (by simp[d5]) (by simp)) .nil)⟩,trivial⟩ ?_;refine Ak.freeze [0] [(4,.o (.ip [Cf t.rows,Cf (t.cols++[col])])),(5,eB true)] ⟨⟨_,rfl,.o (.ptr (by simp) rfl rfl rfl)⟩,⟨_,rfl,.AS⟩,trivial⟩ ?_;refine aR ⟨_,rfl,?_⟩;rw[c];rfl
structure Hl (al:Int) (b:Nat) (t:A0):Prop where
 onR:∀w∈t.rows,AP (A7 al) w/\w.length<=b
 onC:∀x∈t.cols,AP (A7 al) x/\x.length<=20000
 rl:t.rows.length<=12
 cl:t.cols.length<=20
def SS(ok:W->Prop)(al:Int):Prop:=∀w,AP (A7 al) w->w.length<=50000->ok w
def NY(ls:List UInt8)(t:A0)(v:W):Prop:=∃r∈t.rows,∃m:W,(m=[]\/∃l∈ls,m=[l])/\∃x:W,(x=[]\/x∈t.cols)/\v=r++m++x
def Jf(ok:W->Prop)(ls:List UInt8)(t:A0):Prop:=∀v,NY ls t v->ok v
def E9(L:W->Bool)(ls:List UInt8):Nat->A0->List A0
 | 0,t=>[t]
 | n+1,t=>t::match Bg L ls t with
  | none=>[]
  | some w=>if t.rows.length=12 then [] else E9 L ls n ⟨t.rows++[w],t.cols⟩
theorem Xi{L:W->Bool}{ls:List UInt8}{n:Nat}{t:A0}:t∈E9 L ls n t:=by cases n<;>simp[E9]
theorem Hl.jg{ok:W->Prop}{al:Int}{b:Nat}{t:A0}(h:Hl al b t)(d:Jf ok (A7 al) t)(hb:b<=20100):bW ok t/\∀w∈t.rows,∀l∈A7 al,∀x∈t.cols,ok (w++[l]++x):=
  ⟨⟨λw c x a=>d _ ⟨w,c,[],.inl rfl,x,.inr a,by simp⟩,λw c=>by have:=(h.onR w c).2;omega,λx a=>by have:=(h.onC x a).2;omega,by have:=h.rl;omega,by have:=h.cl;omega⟩,
   λw c l e x a=>d _ ⟨w,c,[l],.inr ⟨l,e,rfl⟩,x,.inr a,rfl⟩⟩
theorem Hl.on{ok:W->Prop}{al:Int}{b:Nat}{t:A0}(h:Hl al b t)(i:SS ok al)(hb:b<=20100):Jf ok (A7 al) t:=by
 rintro v ⟨r,e,m,f,x,d,rfl⟩;have n:=h.onR r e
 have k:AP (A7 al) m/\m.length<=1:=by
  rcases f with rfl|⟨l,g,rfl⟩
  ·exact⟨λc a=>by simp at a,by simp⟩
  ·exact⟨λc a=>by simp at a;subst a;exact g,by simp⟩
 have j:AP (A7 al) x/\x.length<=20000:=by
  rcases d with rfl|d
  ·exact⟨λc a=>by simp at a,by simp⟩
  ·exact h.onC x d
 refine i _ (λc a=>?_) (by simp;omega);simp only[f6]at a
 rcases a with (a|a)|a
 ·exact n.1 c a
 ·exact k.1 c a
 ·exact j.1 c a
theorem Hl.push{L:W->Bool}{al:Int}{b:Nat}{t:A0}{w:W}(h:Hl al b t)(g:Bg L (A7 al) t=some w)(i:t.rows.length<12):Hl al (b+1) ⟨t.rows++[w],t.cols⟩:=by
 obtain⟨⟨r,f,l,e,rfl⟩,_⟩:=IH g;refine⟨λu a=>?_,h.onC,by simp;omega,h.cl⟩
 rcases f6.1 a with a|a
 ·have:=h.onR u a;exact⟨this.1,by omega⟩
 ·simp at a
  subst a;have:=h.onR r f;refine⟨λc d=>?_,by simp;omega⟩
  rcases f6.1 d with d|d
  ·exact this.1 c d
  ·simp at d;subst d;exact e
theorem Hl.grow{L:W->Bool}{al:Int}:∀ {n b:Nat} {t y:A0},Hl al b t->y∈E9 L (A7 al) n t->Hl al (b+n) y
 | 0,b,t,y,h,a=>by simp[E9]at a;subst a;exact h
 | n + 1, b,t,y,h,a=>by
  have f:∀ {b':Nat} {z:A0},b'<=b+(n+1)->Hl al b' z->Hl al (b+(n+1)) z:=λhb c=>⟨λw e=>⟨(c.onR w e).1,lm (c.onR w e).2 hb⟩,c.onC,c.rl,c.cl⟩
  unfold E9 at a
  rcases o3.1 a with rfl|a
  ·exact f (by omega) h
  ·cases d:Bg L (A7 al) t with
   | none=>rw[d]at a;simp at a
   | some w=>
    rw[d]at a;dsimp only at a;split at a
    ·simp at a
    ·have:=h.rl
     exact f (by omega) (Hl.grow (h.push d (by omega)) a)
theorem Hl.oc{L:W->Bool}{ok:W->Prop}{al:Int}{b:Nat}{t:A0}(h:Hl al b t)(c:SS ok al)(hb:b<=20000):∀y∈E9 L (A7 al) 13 t,Jf ok (A7 al) y:=λy a=>(h.grow a).on c (by omega)
theorem Jk{c:C}{L:W->Bool}{ok:W->Prop}(K:Ku Tryz.prog TB c L ok)(al:Int)(t:A0)(Y:∀y∈E9 L (A7 al) 13 t,Jf ok (A7 al) y)(ht:Hl al 20000 t) :
 Pure Tryz.prog TB 130 [Jn al c,Er t] (IZ (Bp L (A7 al) 13 t)):=by
 have v:=Fh c K.Cp;have V:=ht.rl;have Z:=ht.cl;have J:=LN (TB:=TB) t.rows (by omega);have I:=LN (TB:=TB) t.cols (by omega);refine AR.HH (AR.ofM 2 (jp _) Tryz.func130 rfl rfl (by kernel_rfl) (am rfl) ?_);intro Γ b;(repeat first|refine aU rfl ?_);(refine pW rfl ?_ rfl (by rfl);refine Dm rfl rfl ?_);(refine Ag rfl ?_;refine CM (λ_ _=>Dj rfl rfl rfl) rfl ?_);(repeat first|refine tM rfl ?_|refine aU rfl ?_|apply Aa);refine R.Rz [(7,3),(0,2),(1,2),(3,2),(4,2),(2,1),(5,1),(6,0),(8,5)] mixed (by kernel_rfl) rfl (by kernel_rfl) ?_;(repeat ((refine R.Ag rfl ?_;first|(refine R.yQ (md:=false) rfl rfl rfl ?_ ?_;exact tI)|refine R.yP rfl rfl rfl rfl ?_ )));(refine R.Ag rfl ?_;refine R.Kz (λ_=>?_) rfl rfl;refine Ai [] rfl rfl J ⟨rfl,by simp,by simp⟩ rfl trivial ?_;rintro P F G ⟨rfl,rfl,rfl⟩ _);(refine R.Ag rfl ?_;refine R.Kz (λ_=>?_) rfl rfl;refine Ai [] rfl rfl I ⟨rfl,by simp,by simp⟩ rfl trivial ?_;rintro P F G ⟨rfl,rfl,rfl⟩ _);(repeat ((refine R.Ag rfl ?_;first|refine R.yA rfl rfl rfl rfl ?_|refine R.CM (λ_ _ _=>AG rfl rfl (by rfl) (by rfl)) rfl rfl ?_ )));refine R.Ru ?_;apply aB
 have Q:∀x:A0,Bg L (A7 al) x=none\/∃w,Bg L (A7 al) x=some w:=λx=>by cases Bg L (A7 al) x<;>simp
 refine Ak.A5 (α:={p:Nat×A0 // p.1<=13/\13<=p.1+p.2.rows.length/\Hl al (20000+p.2.rows.length) p.2/\Bp L (A7 al) 13 t=Bp L (A7 al) p.1 p.2/\∀y∈E9 L (A7 al) p.1 p.2,Jf ok (A7 al) y}) (λ⟨⟨m,u⟩,B,f,j,q,e⟩=>[(2,.o (.ptr 0 2 0 0)),(4,.o (.ptr 1 2 0 0)),(6,.o (.ptr 4 2 0 0))]) (λ⟨⟨m,u⟩,B,f,j,q,e⟩=>[(0,.cells 102 2 [[.d (iD al),c]]),(1,.cells 109 2 [[.d (.l []),.d (.l [])]]),(2,.cells 9 1 (u.rows.map Ex)),(3,.cells 9 1 (u.cols.map Ex)),(4,.cells 109 2 [[.arr 2 1 0 u.rows.length,.arr 3 1 0 u.cols.length]])]) 5 (λ⟨⟨m,u⟩,B,f,j,q,e⟩=>m) (⟨(13,t),by simp,by simp,⟨λw N=>⟨(ht.onR w N).1,by have:=(ht.onR w N).2;omega⟩,ht.onC,ht.rl,ht.cl⟩,rfl,Y⟩) [0,1,2,3,4] (En b rfl rfl) (by (simp[cX,zC,b,v,eC,Ab.Bi,Ce,I0,BU,Ae])) ?_;rintro⟨⟨m,u⟩,B,f,j,q,e⟩;(try dsimp only);dsimp only at B f j q e
 have s:∀l:List W,((l.map Ex).drop 0).take l.length=(l.map CX).map (λr=>r.map C.d):=λl=>by rw[pN,ge (by simp)];simp[d5]
 have T:=j.rl;have U:=j.cl;have n:=j.jg (e u Xi) (by omega);have g:=Tk (TB:=TB) K al u n.1 n.2
 have A:iX [(0,.cells 102 2 [[.d (iD al),c]]),(1,.cells 109 2 [[.d (.l []),.d (.l [])]]),(2,.cells 9 1 (u.rows.map Ex)),(3,.cells 9 1 (u.cols.map Ex)),(4,.cells 109 2 [[.arr 2 1 0 u.rows.length,.arr 3 1 0 u.cols.length]])] [.a [.d (iD al),c],.a [.arr 2 1 0 u.rows.length,.arr 3 1 0 u.cols.length]] [Jn al c,Er u]:=
  .cons (.cons (.pure rfl) (.cons (.pure K.Cp) .nil)) (.cons (.cons (.arr rfl (by simp) (s _)) (.cons (.arr rfl (by simp) (s _)) .nil)) .nil)
 apply aB
 rcases Q u with k|⟨w,k⟩
 ·rw [k]at g
  (repeat first|refine tM rfl ?_|refine s2 rfl λ_ h=>?_|(refine Ag rfl ?_;refine gA rfl ?_;first|refine gQ (IK rfl rfl (A) (g) rfl) rfl ?_)|refine aU rfl ?_|apply Aa);(refine aC rfl ?_ ?_<;>rintro⟨⟩)
  ·(repeat first|refine tM rfl ?_|refine aU rfl ?_|apply Aa)
   have z:Bp L (A7 al) 13 t=some u:=by
    rw[q]
    obtain⟨m',rfl⟩:∃m',m=m'+1:=⟨m-1,by omega⟩
    simp[Bp,k]
   refine Ak.names [1,2,3] [(4,.o (.ptr 0 2 0 0)),(5,eB true)] [(0,.cells 109 2 [[.arr 1 1 0 u.rows.length,.arr 2 1 0 u.cols.length]]),(1,.cells 9 1 (u.rows.map Ex)),(2,.cells 9 1 (u.cols.map Ex))] (by intro i hi;rw[b]at hi;omega) (by simp) (by simp[cX,zC,b,I0]) (by simp[cX,zC,b,I0,Ab.Bi,Ce,BU,eC,Ae]) ?_;refine Ak.OV [1,2] [(4,.o (.ptr 0 2 0 0)),(5,eB true)] [(0,.cells 109 2 [[.d (Cf u.rows),.d (Cf u.cols)]])] ⟨⟨_,rfl,.AS⟩,⟨_,rfl,.AS⟩,trivial⟩ ⟨⟨_,rfl,by simp,.cons (.full (by simp) rfl (by simp[d5]) (by simp)) (.cons (.full (by simp) rfl (by simp[d5]) (by simp)) .nil)⟩,trivial⟩ ?_;refine Ak.freeze [0] [(4,.o (.ip [Cf u.rows,Cf u.cols])),(5,eB true)] ⟨⟨_,rfl,.o (.ptr (by simp) rfl rfl rfl)⟩,⟨_,rfl,.AS⟩,trivial⟩ ?_;refine aR ⟨_,rfl,?_⟩;rw[z];rfl
  ·simp at h
 ·rw [k]at g
  (repeat first|refine tM rfl ?_|refine s2 rfl λ_ h=>?_|(refine Ag rfl ?_;refine gA rfl ?_;first|refine gQ (IK rfl rfl (A) (g) rfl) rfl ?_)|refine aU rfl ?_|apply Aa);(refine aC rfl ?_ ?_<;>rintro⟨⟩)
  ·simp at h
  ·apply aK
   (repeat first|refine tM rfl ?_|refine s2 rfl λ_ h=>?_|refine aU rfl ?_|apply Aa);(refine aC rfl ?_ ?_<;>rintro⟨⟩)
   ·(repeat first|refine tM rfl ?_|(refine Ag rfl ?_;refine gA rfl ?_;first|refine gS (λ_ _=>AG rfl rfl (by rfl) (by rfl)) ?_)|refine aU rfl ?_|apply Aa)
    have z:Bp L (A7 al) 13 t=none:=by
     have M:u.rows.length=12:=by (simp only[oZ] at *;omega)
     rw[q]
     obtain⟨m',rfl⟩:∃m',m=m'+1:=⟨m-1,by omega⟩
     simp[Bp,k,M]
    refine Ak.freeze [1] [(4,.o (.ip [.l [],.l []])),(5,eB false)] ⟨⟨_,rfl,.o (.ptr (by simp) rfl rfl rfl)⟩,⟨_,rfl,.AS⟩,trivial⟩ ?_;refine aR ⟨_,rfl,?_⟩;rw[z];rfl
   ·apply aK
    have H:u.rows.length<12:=by (simp only[oZ] at *;omega)
    obtain⟨m',rfl⟩:∃m',m=m'+1:=⟨m-1,by omega⟩
    have z:Bp L (A7 al) 13 t=Bp L (A7 al) m' ⟨u.rows++[w],u.cols⟩:=by
     rw[q]
     conv=>lhs;unfold Bp
     rw[k];dsimp only;rw[if_neg (by omega)]
    have X:=j.push k H;(repeat first|refine tA rfl ?_|refine aU rfl ?_);(refine pW rfl ?_ rfl (by rfl);refine Au rfl rfl rfl (by first|(simp;done)|(simp;(omega))) rfl (by intro r v;simp at v;subst v;rfl) (by rfl) (am rfl) (by simp;omega) ?_);(repeat first|refine tM rfl ?_|apply Aa);refine⟨⟨⟨m',⟨u.rows++[w],u.cols⟩⟩,by dsimp only;omega,by simp;omega,by simpa[pu]using X,z,λy S=>e y (by unfold E9;rw[k];dsimp only;rw[if_neg (by omega)];exact pg _ S)⟩,by dsimp only;(omega),[0,1,5,3,4],?_⟩;simp[cX,zC,b,v,eC,Ab.Bi,Ce,I0,BU,Ae]
def Bx:A0:=⟨[[]],[[]]⟩
theorem Ii(al:Int):Hl al 20000 Bx:=by
 refine⟨λw a=>?_,λw a=>?_,by decide,by decide⟩<;>(simp[Bx]at a;subst a;exact⟨λc b=>by simp at b,by simp⟩)
theorem TD{c:C}{L:W->Bool}{ok:W->Prop}(b:Ku Tryz.prog TB c L ok)(al:Int)(e:∀y∈E9 L (A7 al) 13 Bx,Jf ok (A7 al) y) :
 Pure Tryz.prog TB 67 [Jn al c] (IZ (Bp L (A7 al) 13 Bx)):=by
 have f:=Fh c b.Cp;have h:=Jk b al Bx e (Ii al);refine AR.HH (AR.ofM 2 (jp _) Tryz.func67 rfl rfl (by kernel_rfl) (am rfl) ?_);intro Γ d;generalize Bp L (A7 al) 13 Bx=o at h |-;(repeat first|refine aU rfl ?_);(refine pW rfl ?_ rfl (by rfl);refine Dm rfl rfl ?_);(repeat first|refine tM rfl ?_|refine aU rfl ?_|apply Aa)
 have a:([Jn al c,Er Bx].all E.Cp && C.DB [])=true:=by simp[Jn,Er,E.Cp,C.DB,C.Cp,b.Cp]
 cases o with
 | none=>
  (repeat first|refine tA rfl ?_|(refine Ag rfl ?_;refine gA rfl ?_;first|refine gS (λ_ _=>Bv rfl rfl a h rfl) ?_|refine gS (λ_ _=>AG rfl rfl (by rfl) (by rfl)) ?_)|apply Aa);refine Ak.freeze [1] [(2,.o (.ip [.l [],.l []])),(3,eB false)] ⟨⟨_,rfl,.o (.ptr (by simp) rfl rfl rfl)⟩,⟨_,rfl,.AS⟩,trivial⟩ ?_;refine aR ⟨_,rfl,?_⟩;rfl
 | some u=>
  (repeat first|refine tA rfl ?_|(refine Ag rfl ?_;refine gA rfl ?_;first|refine gS (λ_ _=>Bv rfl rfl a h rfl) ?_|refine gS (λ_ _=>AG rfl rfl (by rfl) (by rfl)) ?_)|apply Aa);refine Ak.freeze [1] [(2,.o (.ip [Cf u.rows,Cf u.cols])),(3,eB true)] ⟨⟨_,rfl,.o (.ptr (by simp) rfl rfl rfl)⟩,⟨_,rfl,.AS⟩,trivial⟩ ?_;refine aR ⟨_,rfl,?_⟩;rfl
def A1(L:W->Bool)(al:Int)(t:A0):AY:=⟨al,t.rows.map λr=>(Ac al).map λl=>((Df L t (r++[lb l]):Nat):Int),t.rows.map L⟩
theorem Vj{L:W->Bool}{al:Int}{t:A0}(b:Bg L (A7 al) t=none){r:W}(a:r∈t.rows){l:Int}(d:l∈Ac al) :
 (C0 (Cb L t t.rows.length) (marks L t.cols (r++[lb l]))).getD 0=((Df L t (r++[lb l]):Nat):Int):=by
 have c:marks L t.cols (r++[lb l])∈AK L t:=by
  have:=qN.1 b (r++[lb l]) (by
   unfold CW
   exact qg.2 ⟨r,a,d9.2 ⟨lb l,d9.2 ⟨l,d,rfl⟩,rfl⟩⟩)
  simpa using this
 rw[Vt,if_pos c];rfl
end Go.Am
namespace Go.Am
def FG(a:AY):Int->W->Int
 | q,[]=>q
 | q,c::w=>FG a (Cz a q.toNat ((c.toNat:Int)-97)) w
def LA(a:AY)(w:W):Bool:=a.ac.getD (FG a 0 w).toNat false
theorem VL(a:AY):∀(u w:W) (q:Int),FG a q (u++w)=FG a (FG a q u) w
 | [],_,_=>rfl
 | c::u,w,q=>VL a u w _
theorem Nw{l:Int}(b:0<=l)(a:l<6):((lb l).toNat:Int)-97=l:=by
 unfold lb
 have:(97+l.toNat)%256=97+l.toNat:=by omega
 simp[this];omega
theorem IF{al:Int}{c:UInt8}(h:c∈A7 al):0<=(c.toNat:Int)-97/\(c.toNat:Int)-97<6:=by
 obtain⟨l,a,rfl⟩:=d9.1 h;have b:=Aj a;rw[Nw b.1 (by omega)];omega
theorem TZ{a:AY}(ha:AE a=true){al:Int}:∀(w:W) (q:Int),AP (A7 al) w->0<=q/\q<a.nx.length->0<=FG a q w/\FG a q w<a.nx.length
 | [],q,_,d=>d
 | c::w,q,b,d=>by
  have e:=IF (b c (by simp));have g:=DH ha (q:=q.toNat) (by omega) e.1 e.2;exact TZ ha w _ (λx f=>b x (by simp[f])) g
theorem OZ{al:Int}{l:Int}(h:l∈Ac al):lb l∈A7 al:=d9.2 ⟨l,h,rfl⟩
theorem LK{L:W->Bool}{al:Int}{t:A0}(hal:Bb al=true)(h:BV L (A7 al) t)(b:t.rows.length<=12):AE (A1 L al t)=true:=by
 have j:0<t.rows.length:=(ce.1 h.r0).1;unfold AE;simp only[d4,decide_eq_true_eq,f7];refine⟨⟨⟨hal,by simp[A1];omega⟩,by simp[A1]⟩,λrow a=>?_⟩;simp only[A1,d9]at a;obtain⟨r,b,rfl⟩:=a;unfold Ft;simp only[d4,decide_eq_true_eq,f7];refine⟨by simp[A1],λy c=>?_⟩;obtain⟨l,d,rfl⟩:=d9.1 c;obtain⟨i,hi,e⟩:=pk b;obtain⟨r',g,_⟩:=h.idx (i:=i) (r:=r) (by rw[d6 hi,e]) (OZ d);have f:=(ce.1 g).1;unfold RD;simp[A1];exact f
theorem LY{L:W->Bool}{al:Int}{t:A0}{q:Nat}{c:UInt8}(e:q<t.rows.length)(g:c∈A7 al):Cz (A1 L al t) q ((c.toNat:Int)-97)=((Df L t (t.rows.getD q []++[c]):Nat):Int):=by
 obtain⟨l,a,rfl⟩:=d9.1 g;have d:=Aj a;rw[Nw d.1 (by omega)];obtain⟨k,hk,f⟩:=pk a
 have b:(AI al 6)[k]?=some l:=by rw[d6 hk,f]
 have m:=FO b;unfold Cz;have j:AZ (A1 L al t).al l.toNat=true:=d.2.2;rw[if_pos j];have i:(AI (A1 L al t).al l.toNat).length=k:=m;rw[i]
 have h:(A1 L al t).nx.getD q []=(Ac al).map λl=>((Df L t (t.rows.getD q []++[lb l]):Nat):Int):=by
  simp[A1,List.getD,e]
 rw[h];simp[List.getD,b]
theorem Sz{L:W->Bool}{al:Int}{t:A0}(h:BV L (A7 al) t):∀(w:W) (q:Nat),AP (A7 al) w->q<t.rows.length->FG (A1 L al t) q w=((runM L t q w:Nat):Int)
 | [],q,_,_=>rfl
 | c::w,q,a,b=>by
  have f:t.rows[q]?=some t.rows[q]:=d6 b;have d:=a c (by simp);obtain⟨_,j,_⟩:=h.idx f d
  have i:t.rows.getD q []=t.rows[q]:=by simp[f]
  have e:=(ce.1 j).1
  show FG (A1 L al t) (Cz (A1 L al t) ((q:Int)).toNat ((c.toNat:Int)-97)) w=_
  rw[i7,LY b d];rw[<-i]at e;exact Sz h w _ (λx g=>a x (by simp[g])) e
theorem Lx{L:W->Bool}{al:Int}{t:A0}(h:BV L (A7 al) t){w:W}(a:AP (A7 al) w):LA (A1 L al t) w=Na L t w:=by
 have c:0<t.rows.length:=(ce.1 h.r0).1;have d:=h.run w 0 a c;unfold LA Na;have b:=Sz h w 0 a c;rw[show ((0:Nat):Int)=0 from rfl]at b;rw[b,i7];simp[A1,List.getD,d]
end Go.Am
namespace Go.Am
open Go
theorem J9{g:Gr}:∀ {u v:List Int} {a x:Int},reach g (u++v) a x↔∃y,reach g u a y/\reach g v y x
 | [],v,a,x=>⟨λh=>⟨a,rfl,h⟩,λ⟨y,c,b⟩=>by cases c;exact b⟩
 | l :: u,v,a,x=>by
  simp only[qf,reach];constructor
  ·rintro⟨y,d,h⟩
   obtain⟨z,c,b⟩:=J9.1 h;exact⟨z,⟨y,d,c⟩,b⟩
  ·rintro⟨z,⟨y,d,c⟩,b⟩
   exact⟨y,d,J9.2 ⟨z,c,b⟩⟩
theorem jS(n:Nat)(f:Nat->Int)(h:∀i,i<=n->0<=f i/\f i<n):∃i j,i<j/\j<=n/\f i=f j:=by
 apply Classical.byContradiction;intro hno
 have g:((List.range (n+1)).map λi=>(f i).toNat).Nodup:=by
  unfold List.Nodup;rw[qE];refine List.pairwise_lt_range.imp_of_mem λ{a b} ha hb c k=>hno ⟨a,b,c,?_,?_⟩
  ·have:=o5.1 hb;omega
  ·have d:=h a (by have:=o5.1 ha;omega)
   have l:=h b (by have:=o5.1 hb;omega);omega
 have d:=Vs n _ g λx e=>by
  obtain⟨i,hi,rfl⟩:=d9.1 e;have:=h i (by have:=o5.1 hi;omega);omega
 simp at d;omega
theorem CI.short{g:Gr}(n:Jg g){w:List Int}(h:CI g (some w)):w.length<g.N:=by
 obtain⟨e,⟨x,o,c⟩,r⟩:=h;apply Classical.byContradiction;intro m;have b:∀k,∃y,reach g (w.take k) g.s0 y/\reach g (w.drop k) y x:=λk=>J9.1 (by rw[pP];exact o);obtain⟨f,d⟩:=Classical.axiomOfChoice b;obtain⟨i,j,p,s,q⟩:=jS g.N f λi _=>DY n (λl a=>e l (pb a)) n.s0 (d i).1;refine r (w.take i++w.drop j) (λl a=>?_) ⟨x,J9.2 ⟨f i,(d i).1,q▸(d j).2⟩,c⟩ (.inl ?_)
 ·rcases f6.1 a with a|a
  ·exact e l (pb a)
  ·exact e l (qk a)
 ·simp;omega
theorem Ue{al:Int}:∀ {w:List Int},(∀l∈w,l∈Ac al)->AP (A7 al) (C5 w):=λ{w} h c b=>by
 obtain⟨l,a,rfl⟩:=d9.1 b;exact OZ (h l a)
theorem XH{al:Int}{w:W}(h:AP (A7 al) w):∃v:List Int,(∀l∈v,l∈Ac al)/\C5 v=w:=by
 induction w with
 | nil=>exact⟨[],by simp,rfl⟩
 | cons c w b=>
  obtain⟨v,e,g⟩:=b λx d=>h x (by simp[d]);obtain⟨l,f,rfl⟩:=d9.1 (h c (by simp))
  exact⟨l::v,λm a=>by
   rcases o3.1 a with rfl|a
   ·exact f
   ·exact e m a,by rw[<-g];rfl⟩
end Go.Am
