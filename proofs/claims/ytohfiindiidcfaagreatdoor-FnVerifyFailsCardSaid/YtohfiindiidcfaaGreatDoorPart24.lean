/-
  The program's graph is the reference's.
-/
import Derived.Test.YtohfiindiidcfaaGreatDoorPart23
import Derived.Test.YtohfiindiidcfaaGreatDoorPart11
import Derived.Test.YtohfiindiidcfaaGreatDoorPart16
set_option linter.all false
namespace Go.Am
open Go
theorem Hs{g g':Gr}(hg:IX g)(c:g.ls=g'.ls)(hs:∀x:Int,0<=x/\x < g.N->∀l∈g.ls,g.succ x l=g'.succ x l):∀ {w:List Int} {a x:Int},over g w->(0<=a/\a < g.N)->(reach g w a x↔reach g' w a x)
 | [],a,x,_,_=>Iff.rfl
 | l :: w,a,x,d,ha=>by
  have f:=d l (by simp);simp only [reach,<-hs a ha l f];constructor
  ·rintro⟨y,b,h⟩
   exact⟨y,b,(Hs hg c hs (λm e=>d m (by simp [e])) (hg.inn a ha l f y b)).1 h⟩
  ·rintro⟨y,b,h⟩
   exact⟨y,b,(Hs hg c hs (λm e=>d m (by simp [e])) (hg.inn a ha l f y b)).2 h⟩
theorem CB.congr{g g':Gr}(hg:IX g)(c:g.ls=g'.ls)(o:g.s0=g'.s0)(hs:∀x:Int,0<=x/\x < g.N->∀l∈g.ls,g.succ x l=g'.succ x l)(f:∀x:Int,0<=x/\x < g.N->g.goal x=g'.goal x){r:Option (List Int)}(h:CB g r):CB g' r:=by
 have b:∀w,over g' w↔over g w:=λw=>by unfold over;rw [c]
 have j:∀w,over g w->(SF g' w↔SF g w):=λw i=>by
  unfold SF;rw [<-o];constructor
  ·rintro⟨x,a,d⟩
   have a:=(Hs hg c hs i hg.s0).2 a;exact⟨x,a,by rw [f x (DJ hg i hg.s0 a)];exact d⟩
  ·rintro⟨x,a,d⟩
   exact⟨x,(Hs hg c hs i hg.s0).1 a,by rw [<-f x (DJ hg i hg.s0 a)];exact d⟩
 cases r with
 | none=>exact λu e a=>h u ((b u).1 e) ((j u ((b u).1 e)).1 a)
 | some w=>
  obtain⟨k,n,m⟩:=h;exact⟨(b w).2 k,(j w k).2 n,λu e a=>m u ((b u).1 e) ((j u ((b u).1 e)).1 a)⟩
theorem cM{zs ws:List Int}{cs ds:List (List Int)}(h:FB zs cs):Ex (zs++ws) (cs++ds)=(Ex zs cs).flatMap λo=>(Ex ws ds).map λr=>o*Aw ws+r:=by
 induction h with
 | nil=>simp [Ex]
 | @cons z c zs cs _ _ _ a=>
  simp only [pp,Ex,a];rw [List.flatMap_assoc];congr 1;funext q;rw [List.map_flatMap,List.flatMap_map];congr 1;funext o;rw [o9];congr 1;funext r;simp only [d5,Nd];rw [qg,pU];omega
theorem Vw(l:List Sys)(aus:List AX)(st:List Int)(ls kd gl:Int):Ag ⟨l,aus,st,ls,kd,gl⟩=l.map (·.st)++aus.map (λa=>(a.nx.length:Int)):=rfl
theorem LP{l:List Sys}{aus:List AX}{st:List Int}{ls kd gl:Int}(b:DW ⟨l,aus,st,ls,kd,gl⟩){node letter:Int}(f:0<=letter)(d:letter < 6) :
 Fs ⟨l,aus,st,ls,kd,gl⟩ (Ag ⟨l,aus,st,ls,kd,gl⟩) (BG (Ag ⟨l,aus,st,ls,kd,gl⟩) node) letter =
  (Ex (l.map (·.st)) (ZE l (node / Aw (aus.map λa=>(a.nx.length:Int))) letter)).flatMap λo=>(Ex (aus.map λa=>(a.nx.length:Int)) (aus.zipWith (λa q=>[CC a q.toNat letter]) (BG (aus.map λa=>(a.nx.length:Int)) node))).map λr=>o*Aw (aus.map λa=>(a.nx.length:Int))+r:=by
 have h:∀w∈aus.map (λa=>(a.nx.length:Int)),0 < w:=λw g=>by
  obtain⟨a,ha,rfl⟩:=d9.1 g;have:=AG (b.au a ha);omega
 unfold Fs;rw [RC (Il b (Ll b node) f d),Vw,O2 _ _ _ h];have c:=Sy b.ps b.np f d (node / Aw (aus.map λa=>(a.nx.length:Int)))
 have e:Ks ⟨l,aus,st,ls,kd,gl⟩ (BG (l.map (·.st)) (node / Aw (aus.map λa=>(a.nx.length:Int)))++BG (aus.map λa=>(a.nx.length:Int)) node) letter=ZE l (node / Aw (aus.map λa=>(a.nx.length:Int))) letter++aus.zipWith (λa q=>[CC a q.toNat letter]) (BG (aus.map λa=>(a.nx.length:Int)) node):=by
  unfold Ks ZE
  have i:(BG (l.map (·.st)) (node / Aw (aus.map λa=>(a.nx.length:Int)))).length=l.length:=by rw [Lj];simp
  simp only;rw [List.drop_append_of_le_length (by omega),pv (by omega),qO];congr 1;rw [Gu,List.take_append_of_le_length (by omega),gc (by omega)]
 rw [e,cM c]
theorem MM:∀(zs:List Int) (k:Nat),DB zs (List.replicate k 0) 0=0
 | [],k=>by simp [DB]
 | z::zs,0=>by simp [DB]
 | z::zs,k+1=>by
  rw [qL];simp only [DB,Int.zero_mul,Int.add_zero];exact MM zs k
theorem Uu{a:Int}(ha:A8 a=true):Gw .i64 0 a=a/\Gw .i64 a 0=a:=by
 unfold A8 at ha;simp only [decide_eq_true_eq] at ha;have d:=Lu (a:=0) (b:=a.toNat) (by omega) (by omega);have c:=Lu (a:=a.toNat) (b:=0) (by omega) (by omega)
 have e:((a.toNat:Nat):Int)=a:=by omega
 rw [e] at d c;have f:(((0:Nat)):Int)=0:=rfl;rw [f] at d c;rw [Nat.zero_or] at d;rw [Nat.or_zero] at c;exact⟨by rw [d.1];exact e,by rw [c.1];exact e⟩
theorem Xh{l:List Sys}(h:A3 l=true):A8 (Bz l)=true:=by
 unfold Bz;rw [if_pos h];unfold A3 at h;rw [d4] at h;exact Jm h.2 rfl
theorem c7{s:Sys}{a p:AX}(h:CR s a p=true):DD (gI [s] a p (Ac (Gw .i64 (Bz [s]) a.al)))=DD (En (Eb s a p)):=by
 obtain⟨i,hk,d⟩:=Oy h;have c:=h;unfold CR at c;simp only [d4] at c;obtain⟨⟨hs,ha⟩,m⟩:=c;have n:=Cp ha;have k:=Cp m
 have b:Bz [s]=s.al:=by
  have:A3 [s]=true:=by simp [A3,hs]
  unfold Bz;rw [if_pos this];exact(Uu (AO hs).1).1
 refine TW (CB.congr (O9 i d) ?_ ?_ (λx j l f=>?_) (λx j=>?_) (DE _))
 ·show Ac (Gw .i64 s.al a.al)=Ac (Gw .i64 (Bz [s]) a.al)
  rw [b]
 ·exact MM (Ag (Eb s a p)) 3
 ·have f:=Au (show l∈AN (Gw .i64 s.al a.al) 6 from f)
  show Fs (Eb s a p) (Ag (Eb s a p)) (BG (Ag (Eb s a p)) x) l=Jr [s] a p x l
  have e:=LP (l:=[s]) (aus:=[a,p]) (st:=[0,0,0]) (ls:=Gw .i64 s.al a.al) (kd:=2) (gl:=0) i (node:=x) f.1 (by omega);refine Eq.trans e ?_;unfold Jr Ga;simp only [pA,rS,Aw,Int.mul_one,BG,List.zipWith_cons_cons,List.zipWith_nil_left,Ex,qA,List.flatMap_nil,oO,Int.ediv_one,Int.add_zero]
  have g:x / p.nx.length / a.nx.length=x / (a.nx.length*p.nx.length):=by rw [qu (by omega),ql]
  rw [g,List.map_eq_flatMap];congr 1;funext o;rw [pU]
 ·show CO (Eb s a p) (BG (Ag (Eb s a p)) x) (Ft (Eb s a p) x.toNat)=NG a p x
  unfold CO ab NG;simp [Eb,Ag,BG,Aw,List.getD]
theorem c6{l:List Sys}{p:AX}(h:(A3 l && AJ p)=true):DD (gI l Ob p (Ac (Gw .i64 (Bz l) Ob.al)))=DD (En (C0 l p)):=by
 obtain⟨g,hk,c⟩:=Ox h;rw [d4] at h;obtain⟨s,r⟩:=h;have n:=Cp r;refine TW (CB.congr (O9 g c) ?_ ?_ (λx j m d=>?_) (λx j=>?_) (DE _))
 ·show Ac (Bz l)=Ac (Gw .i64 (Bz l) 0)
  rw [(Uu (Xh s)).2]
 ·exact MM (Ag (C0 l p)) (l.length+1)
 ·have d:=Au (show m∈AN (Bz l) 6 from d)
  show Fs (C0 l p) (Ag (C0 l p)) (BG (Ag (C0 l p)) x) m=Jr l Ob p x m
  have e:=LP (l:=l) (aus:=[p]) (st:=List.replicate (l.length+1) 0) (ls:=Bz l) (kd:=3) (gl:=0) g (node:=x) d.1 (by omega);refine Eq.trans e ?_
  have f:∀q:Nat,CC Ob q m=q:=λq=>by
   have:AY 0 m.toNat=false:=by
    have u:m=0\/m=1\/m=2\/m=3\/m=4\/m=5:=by omega
    rcases u with rfl|rfl|rfl|rfl|rfl|rfl<;>decide
   unfold CC;rw [if_neg]
   show ¬AY 0 m.toNat=true
   rw [this];simp
  have b:((Ob.nx.length:Nat):Int)=1:=rfl;unfold Jr Ga;rw [f,b];simp only [pA,rS,Aw,Int.mul_one,BG,List.zipWith_cons_cons,List.zipWith_nil_left,Ex,qA,List.flatMap_nil,oO,Int.ediv_one,Int.add_zero,Int.emod_one];generalize Ex (l.map (·.st)) (ZE l (x / p.nx.length) m)=LL;rw [List.map_eq_flatMap];congr 1;funext o;simp
 ·show CO (C0 l p) (BG (Ag (C0 l p)) x) (Ft (C0 l p) x.toNat)=NG Ob p x
  have b:((Ob.nx.length:Nat):Int)=1:=rfl;have t:=O2 (l.map (·.st)) [(p.nx.length:Int)] x (by intro w k;simp at k;omega);have i:Ag (C0 l p)=l.map (·.st)++[(p.nx.length:Int)]:=rfl
  have a:(BG (l.map (·.st)) (x / Aw [(p.nx.length:Int)])).length=l.length:=by rw [Lj];simp
  rw [i,t];generalize BG (l.map (·.st)) (x / Aw [(p.nx.length:Int)])=dd at a
  have hg:(dd++BG [(p.nx.length:Int)] x).getD (l.length+0) 0=x % p.nx.length:=by
   rw [List.getD,qE,f9 (by omega),a];simp [BG,Aw]
  unfold CO ab NG;rw [b];have z:(C0 l p).kd=3:=rfl;have y:(C0 l p).ps=l:=rfl;have v:(C0 l p).au=[p]:=rfl;rw [z,y,v,hg];simp [Ob,List.getD]
end Go.Am
namespace Go.Am
open Go Go.Proofs
set_option maxHeartbeats 1000000
set_option maxRecDepth 4000
attribute [local irreducible] A6 Cz Lex Bv Aj Spec
variable {TB:BF}
theorem Dt[C8 TB](l:List Sys)(p:AX):Pure Tryz.prog TB 29 [Gm l,Bc p] (Lm (BV l p)):=by
 by_cases c:(A3 l && AJ p)=true
 ·have b:BV l p=DD (En (C0 l p)):=by unfold BV;rw [if_pos c]
  rw [b,<-c6 c];rw [d4] at c;have e:=Oe (TB:=TB) l p c.1 c.2;refine eN Tryz.func29 rfl (by kernel_rfl) rfl ?_;intro Γ d;(repeat' first|refine tA rfl ?_ |refine s2 rfl λ_ a=>?_ |(refine sC rfl (Hi l) ?_;intro _ a)|(refine sC rfl (AU p) ?_;intro _ a)|refine sP rfl (e) rfl ?_ |refine s3 rfl ?_ ?_<;>rintro rfl |refine aU rfl ?_ |apply Aa|(refine aC rfl ?_ ?_<;>rintro⟨⟩)|apply aK|apply aE|apply aB|refine aR ⟨_,rfl,?_⟩)
  all_goals first
   | rfl
   | (exfalso;grind;done)
 ·have b:BV l p=none:=by unfold BV;rw [if_neg c]
  rw [b];refine eN Tryz.func29 rfl (by kernel_rfl) rfl ?_;intro Γ d;(repeat' first|refine tA rfl ?_ |refine s2 rfl λ_ a=>?_ |(refine sC rfl (Hi l) ?_;intro _ a)|(refine sC rfl (AU p) ?_;intro _ a) |refine s3 rfl ?_ ?_<;>rintro rfl |refine aU rfl ?_ |apply Aa|(refine aC rfl ?_ ?_<;>rintro⟨⟩)|apply aK|apply aE|apply aB|refine aR ⟨_,rfl,?_⟩)
  all_goals first
   | rfl
   | (exfalso;grind;done)
theorem Ff[C8 TB](s:Sys)(a p:AX):Pure Tryz.prog TB 53 [Bp s,Bc a,Bc p] (Lm (DK s a p)):=by
 by_cases c:CR s a p=true
 ·have d:DK s a p=DD (En (Eb s a p)):=by unfold DK;rw [if_pos c]
  rw [d,<-c7 c];unfold CR at c;simp only [d4] at c;have f:=O7 (TB:=TB) [s] a p (by simp [A3,c.1.1]) c.1.2 c.2;refine eN Tryz.func53 rfl (by kernel_rfl) rfl ?_;intro Γ e;(repeat' first|refine tA rfl ?_ |refine s2 rfl λ_ b=>?_ |(refine sC rfl (BI s) ?_;intro _ b)|(refine sC rfl (AU a) ?_;intro _ b)|(refine sC rfl (AU p) ?_;intro _ b)|refine sP rfl (f) rfl ?_ |refine s3 rfl ?_ ?_<;>rintro rfl |refine aU rfl ?_ |apply Aa|(refine aC rfl ?_ ?_<;>rintro⟨⟩)|apply aK|apply aE|apply aB|refine aR ⟨_,rfl,?_⟩)
  all_goals first
   | rfl
   | (exfalso;grind;done)
 ·have d:DK s a p=none:=by unfold DK;rw [if_neg c]
  rw [d];refine eN Tryz.func53 rfl (by kernel_rfl) rfl ?_;intro Γ e;(repeat' first|refine tA rfl ?_ |refine s2 rfl λ_ b=>?_ |(refine sC rfl (BI s) ?_;intro _ b)|(refine sC rfl (AU a) ?_;intro _ b)|(refine sC rfl (AU p) ?_;intro _ b) |refine s3 rfl ?_ ?_<;>rintro rfl |refine aU rfl ?_ |apply Aa|(refine aC rfl ?_ ?_<;>rintro⟨⟩)|apply aK|apply aE|apply aB|refine aR ⟨_,rfl,?_⟩)
  all_goals first
   | rfl
   | (exfalso;unfold CR at c;grind;done)
theorem MT[C8 TB](l:List Sys)(p:AX):Pure Tryz.prog TB 16 [Gm l,Bc p] (eB (Du l p)):=by
 refine eN Tryz.func16 rfl (by kernel_rfl) rfl ?_;intro Γ b;(repeat' first|refine tA rfl ?_ |refine s2 rfl λ_ a=>?_ |refine sP rfl (Dt l p) rfl ?_|(refine sC rfl (Hi l) ?_;intro _ a)|(refine sC rfl (AU p) ?_;intro _ a) |refine s3 rfl ?_ ?_<;>rintro rfl |refine aU rfl ?_ |apply Aa|(refine aC rfl ?_ ?_<;>rintro⟨⟩)|apply aK|apply aE|apply aB|refine aR ⟨_,rfl,?_⟩)
 all_goals (show E.o _=E.o _;congr;unfold Du;grind)
theorem Lv[C8 TB](s:Sys)(a p:AX):Pure Tryz.prog TB 28 [Bp s,Bc a,Bc p] (eB (Jd s a p)):=by
 refine eN Tryz.func28 rfl (by kernel_rfl) rfl ?_;intro Γ c;(repeat' first|refine tA rfl ?_ |refine s2 rfl λ_ b=>?_ |refine sP rfl (Ff s a p) rfl ?_|(refine sC rfl (BI s) ?_;intro _ b)|(refine sC rfl (AU a) ?_;intro _ b)|(refine sC rfl (AU p) ?_;intro _ b) |refine s3 rfl ?_ ?_<;>rintro rfl |refine aU rfl ?_ |apply Aa|(refine aC rfl ?_ ?_<;>rintro⟨⟩)|apply aK|apply aE|apply aB|refine aR ⟨_,rfl,?_⟩)
 all_goals (show E.o _=E.o _;congr;unfold Jd CR;grind)
theorem Jc[C8 TB](s:Sys)(p:AX):Pure Tryz.prog TB 19 [Bp s,Bc p] (eB (Du [s] p)):=by
 refine eN Tryz.func19 rfl (by kernel_rfl) rfl ?_;intro Γ a;(repeat' first|refine tA rfl ?_ |refine sP rfl (MT [s] p) rfl ?_ |refine aU rfl ?_ |apply Aa|(refine aC rfl ?_ ?_<;>rintro⟨⟩)|apply aK|apply aE|apply aB|refine aR ⟨_,rfl,?_⟩)
 all_goals rfl
theorem GN(s:Sys)(p:AX)(t:Sys):Pure Tryz.prog TB 26 [Bp s,Bc p,Bp t] (eI .i64 (AP s p t)):=by
 refine eN Tryz.func26 rfl (by kernel_rfl) rfl ?_;intro Γ b;(repeat' first|refine tA rfl ?_ |refine s2 rfl λ_ a=>?_ |(refine sC rfl (BI s) ?_;intro _ a)|(refine sC rfl (AU p) ?_;intro _ a)|(refine sC rfl (BI t) ?_;intro _ a) |refine s3 rfl ?_ ?_<;>rintro rfl |refine aU rfl ?_ |apply Aa|(refine aC rfl ?_ ?_<;>rintro⟨⟩)|apply aK|apply aE|apply aB|refine aR ⟨_,rfl,?_⟩)
 all_goals (show E.o _=E.o _;congr;unfold AP;grind)
theorem SG[C8 TB](s t:Sys)(p a:AX):Pure Tryz.prog TB 17 [Bp s,Bp t,Bc p,Bc a] (eI .i64 (EP s t p a)):=by
 refine eN Tryz.func17 rfl (by kernel_rfl) rfl ?_;intro Γ c;(repeat' first|refine tA rfl ?_ |refine s2 rfl λ_ b=>?_ |refine sP rfl (GN s p t) rfl ?_|(refine sC rfl (AU a) ?_;intro _ b)|(refine sC rfl (Lv s a p) ?_;intro _ b)|(refine sC rfl (Jc t a) ?_;intro _ b) |refine s3 rfl ?_ ?_<;>rintro rfl |refine aU rfl ?_ |apply Aa|(refine aC rfl ?_ ?_<;>rintro⟨⟩)|apply aK|apply aE|apply aB|refine aR ⟨_,rfl,?_⟩)
 all_goals (show E.o _=E.o _;congr;unfold EP;grind)
abbrev VD(t:A1):List D:=[Cb t.rows,Cb t.cols]
abbrev Ef(t:A1):E:=.a [.d (Cb t.rows),.d (Cb t.cols)]
abbrev I9(al:Int)(c:C):E:=.a [.d (iD al),c]
mutual
theorem E4:∀(c:C),c.Cm=true->∀r,c.Bj r=c
 | .d x,_,r=>rfl
 | .fn g cap,h,r=>by
  simp only [C.Cm] at h;simp only [C.Bj,PJ cap h r]
 | .arr ..,h,_=>by cases h
 | .ptr ..,h,_=>by cases h
 | .mp ..,h,_=>by cases h
 | .mv g l,h,r=>by
  simp only [C.Cm] at h;simp only [C.Bj,PJ l h r]
theorem PJ:∀(l:List C),C.Dl l=true->∀r,C.Cy r l=l
 | [],_,r=>rfl
 | c::l,h,r=>by
  simp only [C.Dl,d4] at h;simp only [C.Cy,E4 c h.1 r,PJ l h.2 r]
end
structure JS (P:Program) (TB:BF) (c:C) (L:W->Bool) (ok:W->Prop):Prop where
 Cm:c.Cm=true
 ask:∀ {Γ:Ctx} {d:Option Tmp} {ty:TypeId} {pos:String} {af:Array Edge} {g:Option (Nat×Bool)} {f:Env} {σ:Ab} {nx:Nat} {x a:Operand} {tys:Array TypeId} {w:W},
  ev f x=some (.o c)->ev f a=some (eT w)->ok w->A6 P TB Γ ⟨d,.call ⟨.value x,#[a],tys⟩,ty,pos,af,g⟩ f σ nx (eB (L w))
def UN(L:W->Bool)(cols:List W)(w:W)(k:Nat)(i:Nat):UInt8:=if i < k then RE (L (w++cols.getD i [])) else 0
theorem Xb(L:W->Bool)(cols:List W)(w:W):(BK cols.length λi=>FH (UN L cols w cols.length i))=(marks L cols w).map FH:=by
 apply px;intro i;by_cases h:i < cols.length
 ·rw [DS h]
  simp [marks,UN,h]
 ·rw [oa (by simp [BK];omega),oa (by simp [marks];omega)]
theorem mz:FH 0=[C.d (D.v (Value.int IntKind.u8 0))]:=rfl
theorem kS(L:W->Bool)(cols:List W)(w:W)(n:Nat):(BK n λi=>FH (UN L cols w 0 i))=List.replicate n (FH 0):=by
 apply px;intro i;by_cases h:i < n
 ·rw [DS h];simp [UN,h]
 ·rw [oa (by simp [BK];omega),oa (by simp;omega)]
theorem cR{L:W->Bool}{cols:List W}{w x:W}{k:Nat}(b:cols[k]? = some x):(BK cols.length λi=>FH (if i=k then RE (L (w++x)) else UN L cols w k i))=BK cols.length λi=>FH (UN L cols w (k+1) i):=by
 refine Da λi _=>?_;congr 1;unfold UN;by_cases h:i=k
 ·subst h
  rw [if_pos rfl,if_pos (by omega)];simp [b]
 ·rw [if_neg h]
  by_cases a:i < k
  ·rw [if_pos a,if_pos (by omega)]
  ·rw [if_neg a,if_neg (by omega)]
theorem LB{c:C}{L:W->Bool}{ok:W->Prop}(B:JS Tryz.prog TB c L ok)(al:Int)(t:A1)(w:W)(I:t.cols.length<=1048576)(hk:∀x∈t.cols,ok (w++x))(hb:∀x∈t.cols,w.length+x.length<=1048576) :
 Pure Tryz.prog TB 115 [I9 al c,Ef t,eT w] (eT (marks L t.cols w)):=by
 have y:=E4 c B.Cm;refine eN Tryz.func115 rfl (by kernel_rfl) rfl ?_;intro Γ b;(repeat first|refine aU rfl ?_);(refine pW rfl ?_ rfl (by rfl);refine C9 rfl rfl ?_);(refine Af rfl ?_;refine CE (λ_ _=>C7 rfl rfl rfl) rfl ?_);(repeat first|refine sN rfl ?_ |refine tM rfl ?_ |refine aU rfl ?_ |apply Aa);(refine pW rfl ?_ rfl (by rfl);refine KG rfl rfl (by rfl) (by rfl) (am rfl) (by omega) (by omega) (by omega) ?_);(repeat first|refine sN rfl ?_ |refine tM rfl ?_ |refine aU rfl ?_ |apply Aa);apply aB;refine Aj.A4 (α:={k:Nat // k<=t.cols.length}) (λ⟨k,j⟩=>[(2,eT w),(3,.o (.ptr 0 2 0 0)),(7,.o (.arr 1 1 0 t.cols.length)),(15,.o (.d (Cb t.cols))),(16,eI .i64 t.cols.length),(17,eI .i64 k)]) (λ⟨k,j⟩=>[(1,.cells 5 1 (BK t.cols.length λi=>FH (UN L t.cols w k i))),(0,.cells 91 2 [[.d (iD al),c]])]) 2 (λ⟨k,j⟩=>t.cols.length - k) (⟨0,by omega⟩) [0,1] (Ed b rfl rfl) (by (simp[cX,zC,b,Nh,y,kS,eC,FY,mz])) ?_;rintro⟨k,j⟩;(try dsimp only);(repeat first|refine s2 rfl λ_ r=>?_ |refine aU rfl ?_ |apply Aa);(refine aC rfl ?_ ?_<;>rintro⟨⟩)
 ·have f:k < t.cols.length:=by (simp only[oZ] at *;omega)
  obtain⟨x,u⟩:=get_some (l:=t.cols) (k:=k) f;have G:=get_map (g:=CQ) u;have s:=co u;have F:=hb x s;have z:=hk x s;have hg:=Lq (H:=UN L t.cols w k) (q:=k) (n:=t.cols.length) f;have e:(BK t.cols.length λi=>FH (UN L t.cols w k i)).set (0+((k:Nat):Int).toNat) (Ae (FH (UN L t.cols w k k)) 0 (eC (eI .u8 45)))=BK t.cols.length λi=>FH (if i=k then 45 else UN L t.cols w k i):=OI (c:=45);have A:=Lq (H:=λi=>if i=k then 45 else UN L t.cols w k i) (q:=k) (n:=t.cols.length) f;rw [<-e] at A
  have v:(BK t.cols.length λi=>FH (if i=k then 45 else UN L t.cols w k i)).set (0+((k:Nat):Int).toNat) (Ae (FH (if k=k then 45 else UN L t.cols w k k)) 0 (eC (eI .u8 43)))=BK t.cols.length λi=>FH (if i=k then 43 else UN L t.cols w k i):=by
   refine(OI (H:=λi=>if i=k then 45 else UN L t.cols w k i) (c:=43)).trans ?_;refine Da λi _=>?_;by_cases h:i=k<;>simp [h]
  have a:=cR (L:=L) (w:=w) u;apply aK;refine aS (aB ?_);(repeat first|((first|refine sM rfl ?_ ?_|refine s4 rfl ‹_› rfl ?_ ?_);first|exact tI|omega)|(refine Af rfl ?_;refine gA rfl ?_;first| (refine gB (λ_ _=>B.ask rfl rfl z) ?_;intro _ r)) |refine aU rfl ?_ |apply Aa);(refine aC rfl ?_ ?_<;>rintro⟨⟩)
  ·(repeat first|(refine sM rfl ?_ ?_;first|exact tI|omega) |refine t4 rfl ‹_› rfl ?_ |refine aU rfl ?_ |apply Aa)
   refine⟨⟨k+1,by omega⟩,by dsimp only;(omega),[0,1],?_⟩;rw [e,v];rw [r] at a;have p:RE true=43:=rfl;have m:RE false=45:=rfl;simp only [p,m] at a;simp[cX,zC,b,Nh,y,a]
  ·apply aK
   (repeat first|(refine sM rfl ?_ ?_;first|exact tI|omega) |refine aU rfl ?_ |apply Aa);refine⟨⟨k+1,by omega⟩,by dsimp only;(omega),[0,1],?_⟩;rw [e];rw [r] at a;have p:RE true=43:=rfl;have m:RE false=45:=rfl;simp only [p,m] at a;simp[cX,zC,b,Nh,y,a]
 ·obtain rfl:k=t.cols.length:=by (simp only[oZ] at *;omega)
  rw [Xb];apply aE;(repeat first|refine tM rfl ?_|(refine Af rfl ?_;refine gA rfl ?_;first| refine gQ (OF (marks L t.cols w) rfl rfl (by simp [marks]) (by rw [o5,gc (by simp [marks])])) (by rfl) ?_) |refine aU rfl ?_ |apply Aa);refine aR ⟨_,rfl,rfl⟩
def BX(L:W->Bool)(t:A1):Nat->List (W×Int)
 | 0=>[]
 | k+1=>if (CU (BX L t k) (marks L t.cols (t.rows.getD k []))).isSome then BX L t k else BX L t k++[(marks L t.cols (t.rows.getD k []),(k:Int))]
structure bk (ok:W->Prop) (t:A1):Prop where
 ok:∀w∈t.rows,∀x∈t.cols,ok (w++x)
 rb:∀w∈t.rows,w.length<=65536
 cb:∀x∈t.cols,x.length<=65536
 rl:t.rows.length<=4096
 cl:t.cols.length<=4096
theorem Hy{c:C}{L:W->Bool}{ok:W->Prop}(r:JS Tryz.prog TB c L ok)(al:Int)(t:A1)(ht:bk ok t) :
 Spec Tryz.prog TB 114 [] 0 [I9 al c,Ef t] (λx σ nx=>x=.o (.mp 0)/\nx=1/\σ=[(0,.mp (IT (BX L t t.rows.length)))]):=by
 have n:=E4 c r.Cm;have w:=ht.rl;refine eN Tryz.func114 rfl (by kernel_rfl) rfl ?_;intro Γ b;(repeat first|refine aU rfl ?_);(refine pW rfl ?_ rfl (by rfl);refine C9 rfl rfl ?_);(refine Af rfl ?_;refine CE (λ_ _=>C7 rfl rfl rfl) rfl ?_);(repeat first|refine tM rfl ?_ |refine aU rfl ?_ |apply Aa);(refine pW rfl ?_ rfl (by rfl);refine RG ?_);(repeat first|refine sN rfl ?_ |refine tM rfl ?_ |refine aU rfl ?_ |apply Aa);apply aB;refine Aj.A4 (α:={k:Nat // k<=t.rows.length}) (λ⟨k,e⟩=>[(2,.o (.ptr 0 2 0 0)),(3,.o (.ip (VD t))),(5,.o (.mp 1)),(13,.o (.d (Cb t.rows))),(14,eI .i64 t.rows.length),(15,eI .i64 k)]) (λ⟨k,e⟩=>[(1,.mp (IT (BX L t k))),(0,.cells 91 2 [[.d (iD al),c]])]) 2 (λ⟨k,e⟩=>t.rows.length - k) (⟨0,by omega⟩) [0,1] (Ed b rfl rfl) (by (simp[cX,zC,b,n,eC,BX,IT])) ?_;rintro⟨k,e⟩;(try dsimp only);(repeat first|refine s2 rfl λ_ f=>?_ |refine aU rfl ?_ |apply Aa);(refine aC rfl ?_ ?_<;>rintro⟨⟩)
 ·have p:k < t.rows.length:=by (simp only[oZ] at *;omega)
  obtain⟨x,m⟩:=get_some (l:=t.rows) (k:=k) p;have v:=get_map (g:=CQ) m;have h:=co m;have u:=ht.rb x h;have z:=LB r al t x (by have:=ht.cl;omega) (ht.ok x h) (λy s=>by have:=ht.cb y s;omega)
  have q:t.rows.getD k []=x:=by simp [m]
  have a:BX L t (k+1)=if (CU (BX L t k) (marks L t.cols x)).isSome then BX L t k else BX L t k++[(marks L t.cols x,(k:Int))]:=by
   rw [BX,q]
  apply aK;refine aS (aB ?_);(repeat first|refine tM rfl ?_ |(refine s4 rfl ‹_› rfl ?_ ?_;omega) |refine s2 rfl λ_ f=>?_|(refine Af rfl ?_;refine gA rfl ?_;first| refine gS (λ_ _=>Bt rfl rfl (by simp [E.Cm,C.Dl,C.Cm,r.Cm]) z rfl) ?_|refine gQ (dH rfl rfl rfl) (by rfl) ?_) |refine aU rfl ?_ |apply Aa);(refine aC rfl ?_ ?_<;>rintro⟨⟩)
  ·have j:CU (BX L t k) (marks L t.cols x)=none:=by simpa using f
   rw [j] at a;(repeat first|refine tM rfl ?_ |refine aU rfl ?_);(refine Af rfl ?_;refine HV ?_ rfl (by rfl);refine kT rfl rfl rfl rfl j ?_);(repeat first|(refine sM rfl ?_ ?_;first|exact tI|omega) |refine aU rfl ?_ |apply Aa);refine⟨⟨k+1,by omega⟩,by dsimp only;(omega),[0,1],?_⟩;simp[cX,zC,b,n,a]
  ·have j:(CU (BX L t k) (marks L t.cols x)).isSome=true:=by simpa using f
   rw [if_pos j] at a;apply aK;(repeat first|(refine sM rfl ?_ ?_;first|exact tI|omega) |refine aU rfl ?_ |apply Aa);refine⟨⟨k+1,by omega⟩,by dsimp only;(omega),[0,1],?_⟩;simp[cX,zC,b,n,a]
 ·obtain rfl:k=t.rows.length:=by (simp only[oZ] at *;omega)
  apply aE;(repeat first|refine tM rfl ?_ |refine aU rfl ?_ |apply Aa);refine Aj.names [1] [(4,.o (.mp 0))] [(0,.mp (IT (BX L t t.rows.length)))] (by intro i hi;rw [b] at hi;omega) (by simp) (by simp[cX,zC,b]) (by simp[cX,zC,b]) ?_;refine aR ⟨_,rfl,rfl,rfl,rfl⟩
theorem ZI(l:List (W×Int))(p:W×Int)(s:W):CU (l++[p]) s=(CU l s).or (if p.1=s then some p.2 else none):=by
 unfold CU;rw [rO]
 cases h:l.find? (λp=>decide (p.1=s)) with
 | some q=>simp
 | none=>by_cases a:p.1=s<;>simp [a]
theorem PM{L:W->Bool}{t:A1}{k:Nat}(h:k < t.rows.length):(AI L t)[k]? = some (marks L t.cols (t.rows.getD k [])):=by
 simp [AI,h]
theorem RJ(L:W->Bool)(t:A1):∀k,k<=t.rows.length->∀s,CU (BX L t k) s=if s∈(AI L t).take k then some (((AI L t).idxOf s:Nat):Int) else none
 | 0,_,s=>by simp [BX,CU]
 | k + 1, hk, s=>by
  have c:=RJ L t k (by omega);have d:=PM (L:=L) (t:=t) (k:=k) (by omega);generalize marks L t.cols (t.rows.getD k [])=x at *
  have g:BX L t (k+1)=if (CU (BX L t k) x).isSome then BX L t k else BX L t k++[(x,(k:Int))]:=by
   have b:=PM (L:=L) (t:=t) (k:=k) (by omega);rw [d] at b
   injection b with b
   rw [BX,<-b]
  have a:∀s,s∈(AI L t).take (k+1)↔s∈(AI L t).take k\/s=x:=λs=>by
   rw [d8,d];simp
  rw [g];by_cases f:x∈(AI L t).take k
  ·rw [if_pos (by rw [c x,if_pos f];rfl),c s]
   by_cases hs:s∈(AI L t).take k
   ·rw [if_pos hs,if_pos ((a s).2 (.inl hs))]
   ·rw [if_neg hs,if_neg]
    intro h
    rcases(a s).1 h with h|h
    ·exact hs h
    ·subst h;exact hs f
  ·rw [if_neg (by rw [c x,if_neg f];simp),ZI,c s]
   by_cases hs:s∈(AI L t).take k
   ·rw [if_pos hs,if_pos ((a s).2 (.inl hs))];rfl
   ·rw [if_neg hs]
    by_cases l:x=s
    ·subst l
     rw [if_pos ((a x).2 (.inr rfl))]
     have j:(AI L t).idxOf x=k:=by
      have m:k < (AI L t).length:=(ce.1 d).1
      have e:AI L t=(AI L t).take k++x::(AI L t).drop (k+1):=by
       rw [<-BB d,o7]
      rw [e,rP,if_neg f,rv];simp;omega
     simp [j]
    ·have i:s∉(AI L t).take (k+1):=λh=>by
      rcases(a s).1 h with h|h
      ·exact hs h
      ·exact l h.symm
     rw [if_neg i];simp [l]
theorem UT{L:W->Bool}{t:A1}{s:W}:CU (BX L t t.rows.length) s=if s∈AI L t then some (((AI L t).idxOf s:Nat):Int) else none:=by
 have h:=RJ L t t.rows.length (i8 _) s;have e:(AI L t).take t.rows.length=AI L t:=gc (by simp [AI]);rwa [e] at h
theorem YP{L:W->Bool}{ls:List UInt8}{t:A1}{k j:Nat}{r:W}{l:UInt8}(e:t.rows[k]? = some r)(f:ls[j]? = some l)(n:∀w∈CP ls (t.rows.take k),marks L t.cols w∈AI L t)(m:∀x∈ls.take j,marks L t.cols (r++[x])∈AI L t)
 (i:marks L t.cols (r++[l])∉AI L t):Bh L ls t=some (r++[l]):=by
 have q:t.rows=t.rows.take k++r::t.rows.drop (k+1):=by
  rw [<-BB e,o7]
 have p:ls=ls.take j++l::ls.drop (j+1):=by
  rw [<-BB f,o7]
 have o:CP ls t.rows=CP ls (t.rows.take k)++((ls.take j).map (λx=>r++[x])++(r++[l])::((ls.drop (j+1)).map (λx=>r++[x])++CP ls (t.rows.drop (k+1)))):=by
  have h:CP ls t.rows=CP ls (t.rows.take k++r::t.rows.drop (k+1)):=congrArg _ q;rw [h];unfold CP;rw [List.flatMap_append,qA];have g:ls.map (λx=>r++[x])=(ls.take j++l::ls.drop (j+1)).map (λx=>r++[x]):=congrArg _ p;rw [g];simp
 unfold Bh;rw [o,rO,rO]
 have c:(CP ls (t.rows.take k)).find? (λw=>!(AI L t).contains (marks L t.cols w))=none:=p7.2 λw a=>by simpa using n w a
 have b:((ls.take j).map (λx=>r++[x])).find? (λw=>!(AI L t).contains (marks L t.cols w))=none:=p7.2 λw a=>by
  obtain⟨x,d,rfl⟩:=d9.1 a
  simpa using m x d
 rw [c,b];simp [i]
def lb(l:Int):UInt8:=UInt8.ofNat (97+l.toNat)
def A7(al:Int):List UInt8:=(Ac al).map lb
def ZF(o:Option W):E:=match o with
 | some w=>.t [(false,[.d (tD w)]),(false,[.d (bD true)])]
 | none=>.t [(false,[.d (tD [])]),(false,[.d (bD false)])]
theorem cL{l:Int}(a:0<=l):UInt8.ofNat (97+l).toNat=lb l:=by
 unfold lb;congr 1;omega
theorem Um{L:W->Bool}{t:A1}{s:W}:(CU (BX L t t.rows.length) s).isSome=true↔s∈AI L t:=by
 rw [UT];by_cases h:s∈AI L t<;>simp [h]
theorem Pt{ls:List UInt8}{t:A1}{k:Nat}{r:W}(h:t.rows[k]? = some r):CP ls (t.rows.take (k+1))=CP ls (t.rows.take k)++ls.map λl=>r++[l]:=by
 unfold CP;rw [d8,h];simp
theorem SD{c:C}{L:W->Bool}{ok:W->Prop}(G:JS Tryz.prog TB c L ok)(al:Int)(t:A1)(ht:bk ok t)(T:∀w∈t.rows,∀l∈A7 al,∀x∈t.cols,ok (w++[l]++x)) :
 Pure Tryz.prog TB 163 [I9 al c,Ef t] (ZF (Bh L (A7 al) t)):=by
 have v:=E4 c G.Cm;have S:=ht.rl;have V:(Ac al).length<=6:=AM al 6;refine eN Tryz.func163 rfl (by kernel_rfl) rfl ?_;intro Γ b;(repeat first|refine aU rfl ?_);(refine pW rfl ?_ rfl (by rfl);refine C9 rfl rfl ?_);(refine Af rfl ?_;refine CE (λ_ _=>C7 rfl rfl rfl) rfl ?_);(repeat first|refine tM rfl ?_ |refine aU rfl ?_ |apply Aa);(refine pW rfl ?_ rfl (by rfl);refine Ai [] rfl rfl (Hy G al t ht) ⟨rfl,by simp,by simp⟩ (by simp [EX,E.Bj,C.Cy,C.Bj,v,eC]) trivial ?_;rintro Y M N ⟨rfl,rfl,rfl⟩ _);(repeat first|refine sN rfl ?_ |refine tM rfl ?_ |refine aU rfl ?_ |apply Aa);apply aB;refine Aj.A4 (α:={k:Nat // k<=t.rows.length/\∀w∈CP (A7 al) (t.rows.take k),marks L t.cols w∈AI L t}) (λ⟨k,p,e⟩=>[(2,.o (.ptr 0 2 0 0)),(3,.o (.ip (VD t))),(6,.o (.mp 1)),(18,.o (.d (Cb t.rows))),(19,eI .i64 t.rows.length),(20,eI .i64 k)]) (λ⟨k,p,e⟩=>[(1,.mp (IT (BX L t t.rows.length))),(0,.cells 91 2 [[.d (iD al),c]])]) 2 (λ⟨k,p,e⟩=>t.rows.length - k) (⟨0,by omega,by simp [CP]⟩) [0,1] (Ed b rfl rfl) (by (simp[cX,zC,b,v,eC,Ab.Bj,BZ,IL])) ?_;rintro⟨k,p,e⟩;(try dsimp only);(repeat first|refine s2 rfl λ_ i=>?_ |refine aU rfl ?_ |apply Aa);(refine aC rfl ?_ ?_<;>rintro⟨⟩)
 ·have I:k < t.rows.length:=by (simp only[oZ] at *;omega)
  obtain⟨r,a⟩:=get_some (l:=t.rows) (k:=k) I;have R:=get_map (g:=CQ) a;have u:=co a;have Q:=ht.rb r u;apply aK;refine aS (aB ?_);(repeat first|refine sN rfl ?_ |refine tM rfl ?_ |(refine s4 rfl ‹_› rfl ?_ ?_;omega) |refine sP rfl (CW al) rfl ?_ |refine aU rfl ?_ |apply Aa);apply aB;refine Aj.A4 (α:={j:Nat // j<=(Ac al).length/\∀x∈(A7 al).take j,marks L t.cols (r++[x])∈AI L t}) (λ⟨j,q,f⟩=>[(2,.o (.ptr 0 2 0 0)),(3,.o (.ip (VD t))),(6,.o (.mp 1)),(18,.o (.d (Cb t.rows))),(19,eI .i64 t.rows.length),(20,eI .i64 k),(8,eT r),(26,Ak (Ac al)),(27,eI .i64 (Ac al).length),(28,eI .i64 j)]) (λ⟨j,q,f⟩=>[(1,.mp (IT (BX L t t.rows.length))),(0,.cells 91 2 [[.d (iD al),c]])]) 2 (λ⟨j,q,f⟩=>(Ac al).length - j) (⟨0,by omega,by simp⟩) [0,1] (Ed b rfl rfl) (by (simp[cX,zC,b,v])) ?_;rintro⟨j,q,f⟩;(try dsimp only);(repeat first|refine s2 rfl λ_ i=>?_ |refine aU rfl ?_ |apply Aa);(refine aC rfl ?_ ?_<;>rintro⟨⟩)
  ·have B:j < (Ac al).length:=by (simp only[oZ] at *;omega)
   obtain⟨l,K⟩:=get_some (l:=Ac al) (k:=j) B;have X:=get_map (g:=Br) K;have z:=Au (co K)
   have n:(A7 al)[j]? = some (lb l):=by simp [A7,K]
   have J:=co n;have U:=LB G al t (r++[lb l]) (by have:=ht.cl;omega) (λx a=>T r u _ J x a) (λy P=>by have:=ht.cb y P;simp;omega);apply aK;refine aS (aB ?_);(repeat first|(refine sM rfl ?_ ?_;first|exact tI|omega|simp only[oZ] at *;omega) |(refine s4 rfl ‹_› rfl ?_ ?_;omega) |refine sP rfl (Fz l z.1 (by omega)) rfl ?_|(refine Af rfl ?_;refine gA rfl ?_;first| refine gS (λ_ _=>Xl rfl (by omega) (by omega)) ?_) |refine aU rfl ?_ |apply Aa);rw [cL z.1];(repeat first|refine tM rfl ?_ |refine s2 rfl λ_ i=>?_|(refine Af rfl ?_;refine gA rfl ?_;first| refine gS (λ_ _=>Bt rfl rfl (by simp [E.Cm,C.Dl,C.Cm,G.Cm]) U rfl) ?_|refine gQ (dH rfl rfl rfl) (by rfl) ?_) |refine aU rfl ?_ |apply Aa);(refine aC rfl ?_ ?_<;>rintro⟨⟩)
   ·have hno:marks L t.cols (r++[lb l])∉AI L t:=λh=>by
     rw [Um.2 h] at i;cases i
    (repeat first|refine tM rfl ?_ |refine aU rfl ?_ |apply Aa);refine aR ⟨_,rfl,?_⟩;rw [YP a n e f hno];rfl
   ·have s:marks L t.cols (r++[lb l])∈AI L t:=Um.1 (by simpa using i)
    have F:∀x∈(A7 al).take (j+1),marks L t.cols (r++[x])∈AI L t:=λx a=>by
     rw [d8,n] at a
     rcases em.1 a with a|a
     ·exact f x a
     ·simp at a;subst a;exact s
    apply aK;(repeat first|(refine sM rfl ?_ ?_;first|exact tI|omega) |refine aU rfl ?_ |apply Aa);refine⟨⟨j+1,by omega,F⟩,by dsimp only;(omega),[0,1],?_⟩;simp[cX,zC,b,v]
  ·obtain rfl:j=(Ac al).length:=by (simp only[oZ] at *;omega)
   have A:∀w∈CP (A7 al) (t.rows.take (k+1)),marks L t.cols w∈AI L t:=λw m=>by
    rw [Pt a] at m
    rcases em.1 m with m|m
    ·exact e w m
    ·obtain⟨x,H,rfl⟩:=d9.1 m
     exact f x (by rw [gc (by simp [A7])];exact H)
   apply aE;(repeat first|(refine sM rfl ?_ ?_;first|exact tI|omega) |refine aU rfl ?_ |apply Aa);refine⟨⟨k+1,by omega,A⟩,by dsimp only;(omega),[0,1],?_⟩;simp[cX,zC,b,v]
 ·obtain rfl:k=t.rows.length:=by (simp only[oZ] at *;omega)
  have hno:Bh L (A7 al) t=none:=p7.2 λw m=>by
   have:=e w (by rw [ge];exact m)
   simpa using this
  apply aE;(repeat first|refine tM rfl ?_ |refine aU rfl ?_ |apply Aa);refine aR ⟨_,rfl,?_⟩;rw [hno];rfl
theorem Lh(l:List W)(h:l.length<=1048576):Spec Tryz.prog TB 162 [] 0 [BT l] (λx σ nx=>x=.o (.arr 0 1 0 l.length)/\nx=1/\σ=[(0,.cells 9 1 (l.map Ej))]):=by
 refine eN Tryz.func162 rfl (by kernel_rfl) rfl ?_;intro Γ b;(repeat first|refine aU rfl ?_);(refine Af rfl ?_;refine CE (λ_ _=>CJ rfl) rfl ?_);(repeat first|refine tM rfl ?_ |refine aU rfl ?_ |apply Aa);(refine pW rfl ?_ rfl (by rfl);refine LK rfl ?_;intro e c);(repeat first|apply Aa);(refine aC rfl ?_ ?_<;>rintro⟨⟩)
 ·obtain rfl:l=[]:=by simpa using c rfl
  (repeat first|refine aU rfl ?_);(refine pW rfl ?_ rfl (by rfl);refine Hp 1 9 ?_);(repeat first|apply Aa);refine aR ⟨_,rfl,rfl,rfl,rfl⟩
 ·apply aK
  (repeat first|refine aU rfl ?_);(refine pW rfl ?_ rfl (by rfl);refine Bk rfl rfl rfl rfl (by simp) (by rfl) (by rfl) (by rfl) (by rfl) ?_);(repeat first|refine tM rfl ?_);(refine pW rfl ?_ rfl (by rfl);refine Al rfl rfl rfl (by first| (simp;done)|(simp;(omega))) rfl (by intro r d;simp at d;obtain⟨a,_,rfl⟩:=d;rfl) (by rfl) (am rfl) (by simp;omega) ?_);(repeat first|refine tM rfl ?_ |apply Aa);refine Aj.names [1] [(2,.o (.arr 0 1 0 l.length))] [(0,.cells 9 1 (l.map Ej))] (by intro i hi;rw [b] at hi;omega) (by simp) (by simp[cX,zC,b]) (by simp[cX,zC,b]) ?_;refine aR ⟨_,rfl,rfl,rfl,rfl⟩
theorem cF(l:List W)(s:W):Pure Tryz.prog TB 197 [BT l,eT s] (eI .i64 (if s∈l then (l.idxOf s:Int) else -1)):=by
 refine eN Tryz.func197 rfl (by kernel_rfl) rfl ?_;intro Γ a;refine Aj.bound 0 rfl λi=>?_;have n:=i (l.map CQ) .refl;(repeat first|refine sN rfl ?_ |refine tM rfl ?_ |refine aU rfl ?_ |apply Aa);apply aB;refine Aj.A4 (α:={k:Nat // k<=l.length/\s∉l.take k}) (λ⟨k,hk,hs⟩=>[(0,BT l),(1,eT s),(7,eI .i64 l.length),(8,eI .i64 k)]) (λ⟨k,hk,hs⟩=>[]) 0 (λ⟨k,hk,hs⟩=>l.length - k) (⟨0,by omega,by simp⟩) [] (Ed a rfl rfl) (by (simp[cX,zC,a])) ?_;rintro⟨k,hk,hs⟩;(try dsimp only);(repeat first|refine s2 rfl λ_ b=>?_ |refine aU rfl ?_ |apply Aa);(refine aC rfl ?_ ?_<;>rintro⟨⟩)
 ·have f:k < l.length:=by (simp only[oZ] at *;omega)
  obtain⟨x,c⟩:=get_some (l:=l) (k:=k) f;have j:=get_map (g:=CQ) c;apply aK;refine aS (aB ?_);(repeat first|refine tM rfl ?_ |(refine s4 rfl ‹_› rfl ?_ ?_;omega) |refine s2 rfl λ_ b=>?_ |refine aU rfl ?_ |apply Aa);(refine aC rfl ?_ ?_<;>rintro⟨⟩)
  ·have h:s=x:=by (simp only[oZ] at *;omega)
   subst h;(repeat first|refine tM rfl ?_ |refine aU rfl ?_ |apply Aa);refine aR ⟨_,rfl,?_⟩;have m:s∈l:=co c
   have hi:l.idxOf s=k:=by
    have e:l=l.take k++s::l.drop (k+1):=by rw [<-BB c,o7]
    rw [e,rP,if_neg hs,rv];simp;omega
   rw [if_pos m,hi]
  ·have h:¬s=x:=by simpa using b
   have d:s∉l.take (k+1):=by
    rw [d8,c];simp [hs,h]
   apply aK;(repeat first|(refine sM rfl ?_ ?_;first|exact tI|simp only[oZ] at *;omega) |refine aU rfl ?_ |apply Aa);refine⟨⟨k+1,by omega,d⟩,by dsimp only;(omega),[],?_⟩;simp[cX,zC,a]
 ·obtain rfl:k=l.length:=by (simp only[oZ] at *;omega)
  rw [ge] at hs;apply aE;(repeat first|refine tM rfl ?_ |refine aU rfl ?_ |apply Aa);refine aR ⟨_,rfl,?_⟩;rw [if_neg hs]
theorem NC(l:List W)(s:W):Pure Tryz.prog TB 164 [BT l,eT s] (eB (decide (s∈l))):=by
 refine eN Tryz.func164 rfl (by kernel_rfl) rfl ?_;intro Γ b;(repeat' first|refine tA rfl ?_ |refine s2 rfl λ_ a=>?_ |refine sP rfl (cF l s) rfl ?_ |refine aU rfl ?_ |apply Aa|(refine aC rfl ?_ ?_<;>rintro⟨⟩)|apply aK|apply aE|apply aB|refine aR ⟨_,rfl,?_⟩)
 all_goals (show E.o _=E.o _;congr;subst a;by_cases h:s∈l<;>simp [h])
def FD(t:A1)(col:W):Option A1:=if t.cols.length=20\/col∈t.cols then none else some ⟨t.rows,t.cols++[col]⟩
def IK(o:Option A1):E:=match o with
 | some t=>.t [(true,[.d (Cb t.rows),.d (Cb t.cols)]),(false,[.d (bD true)])]
 | none=>.t [(true,[.d (.l []),.d (.l [])]),(false,[.d (bD false)])]
theorem Sn(t:A1)(col:W)(g:t.rows.length<=4096)(p:t.cols.length<=4096):Pure Tryz.prog TB 118 [Ef t,eT col] (IK (FD t col)):=by
 have m:=Lh (TB:=TB) t.rows (by omega);have k:=Lh (TB:=TB) t.cols (by omega);refine AS.Hz (AS.ofM 2 (i8 _) Tryz.func118 rfl rfl (by kernel_rfl) (am rfl) ?_);intro Γ a;(repeat first|refine aU rfl ?_);(refine Af rfl ?_;refine CE (λ_ _=>C7 rfl rfl rfl) rfl ?_);(repeat first|refine sN rfl ?_ |refine tM rfl ?_ |refine s2 rfl λ_ b=>?_ |(refine sC rfl (NC t.cols col) ?_;intro _ b) |refine s3 rfl ?_ ?_<;>rintro rfl |refine aU rfl ?_ |apply Aa)
 ·(refine aC rfl ?_ ?_<;>rintro⟨⟩)
  have c:FD t col=none:=by unfold FD;rw [if_pos (.inl (by (simp only[oZ] at *;omega)))]
  (repeat first|refine tM rfl ?_|(refine Af rfl ?_;refine gA rfl ?_;first| refine gS (λ_ _=>AB rfl rfl (by rfl) (by rfl)) ?_) |refine aU rfl ?_ |apply Aa);refine Aj.freeze [0] [(4,.o (.ip [.l [],.l []])),(5,eB false)] ⟨⟨_,rfl,.o (.ptr (by simp) rfl rfl rfl)⟩,⟨_,rfl,.AQ⟩,trivial⟩ ?_;refine aR ⟨_,rfl,?_⟩;rw [c];rfl
 (repeat first|refine tM rfl ?_ |(refine sC rfl (NC t.cols col) ?_;intro _ b) |apply Aa);(refine aC rfl ?_ ?_<;>rintro⟨⟩)
 ·have c:FD t col=none:=by unfold FD;rw [if_pos (.inr (by (simp only[oZ] at *;omega)))]
  (repeat first|refine tM rfl ?_|(refine Af rfl ?_;refine gA rfl ?_;first| refine gS (λ_ _=>AB rfl rfl (by rfl) (by rfl)) ?_) |refine aU rfl ?_ |apply Aa);refine Aj.freeze [0] [(4,.o (.ip [.l [],.l []])),(5,eB false)] ⟨⟨_,rfl,.o (.ptr (by simp) rfl rfl rfl)⟩,⟨_,rfl,.AQ⟩,trivial⟩ ?_;refine aR ⟨_,rfl,?_⟩;rw [c];rfl
 ·apply aK
  apply aS;refine rG (nn [0,1,3,4,6,7,2,5,8,9,10,11] [2,5,8,10] [0,1,3,4,6,7]) (by kernel_rfl) ?_;(repeat first|refine tA rfl ?_);(refine pW rfl ?_ rfl (by rfl);refine Ai [] rfl rfl m ⟨rfl,by simp,by simp⟩ rfl trivial ?_;rintro n e f ⟨rfl,rfl,rfl⟩ _);(refine pW rfl ?_ rfl (by rfl);refine Ai [] rfl rfl k ⟨rfl,by simp,by simp⟩ rfl trivial ?_;rintro n e f ⟨rfl,rfl,rfl⟩ _);(refine pW rfl ?_ rfl (by rfl);refine Al rfl rfl rfl (by first| (simp;done)|(simp;(omega))) rfl (by intro r g;simp at g;subst g;rfl) (by rfl) (am rfl) (by simp;omega) ?_);(repeat first|refine tA rfl ?_|(refine Af rfl ?_;refine gA rfl ?_;first| refine gS (λ_ _=>AB rfl rfl (by rfl) (by rfl)) ?_) |apply Aa)
  have j:col∉t.cols:=by simpa using b
  have c:FD t col=some ⟨t.rows,t.cols++[col]⟩:=by
   unfold FD;rw [if_neg];rintro(h|h)
   ·(simp only[oZ] at *;omega)
   ·exact j h
  refine Aj.names [0,1,3] [(4,.o (.ptr 0 2 0 0)),(5,eB true)] [(0,.cells 98 2 [[.arr 1 1 0 t.rows.length,.arr 2 1 0 (t.cols.length+1)]]),(1,.cells 9 1 (t.rows.map Ej)),(2,.cells 9 1 ((t.cols++[col]).map Ej))] (by intro i hi;rw [a] at hi;omega) (by simp) (by simp[cX,zC,a,IL]) (by simp[cX,zC,a,IL,Ab.Bj,BZ,BR,eC,Ae]) ?_;refine Aj.Oq [1,2] [(4,.o (.ptr 0 2 0 0)),(5,eB true)] [(0,.cells 98 2 [[.d (Cb t.rows),.d (Cb (t.cols++[col]))]])] ⟨⟨_,rfl,.AQ⟩,⟨_,rfl,.AQ⟩,trivial⟩ ⟨⟨_,rfl,by simp,.cons (.full (by simp) rfl (by simp [d5]) (by simp)) (.cons (.full (by simp) rfl (by simp [d5]) (by simp)) .nil)⟩,trivial⟩ ?_;refine Aj.freeze [0] [(4,.o (.ip [Cb t.rows,Cb (t.cols++[col])])),(5,eB true)] ⟨⟨_,rfl,.o (.ptr (by simp) rfl rfl rfl)⟩,⟨_,rfl,.AQ⟩,trivial⟩ ?_;refine aR ⟨_,rfl,?_⟩;rw [c];rfl
structure Hd (al:Int) (b:Nat) (t:A1):Prop where
 onR:∀w∈t.rows,AR (A7 al) w/\w.length<=b
 onC:∀x∈t.cols,AR (A7 al) x/\x.length<=20000
 rl:t.rows.length<=12
 cl:t.cols.length<=20
def Sl(ok:W->Prop)(al:Int):Prop:=∀w,AR (A7 al) w->w.length<=50000->ok w
def Nz(ls:List UInt8)(t:A1)(v:W):Prop:=∃r∈t.rows,∃m:W,(m=[]\/∃l∈ls,m=[l])/\∃x:W,(x=[]\/x∈t.cols)/\v=r++m++x
def IW(ok:W->Prop)(ls:List UInt8)(t:A1):Prop:=∀v,Nz ls t v->ok v
def ER(L:W->Bool)(ls:List UInt8):Nat->A1->List A1
 | 0,t=>[t]
 | n+1,t=>t::match Bh L ls t with
  | none=>[]
  | some w=>if t.rows.length=12 then [] else ER L ls n ⟨t.rows++[w],t.cols⟩
theorem WG{L:W->Bool}{ls:List UInt8}{n:Nat}{t:A1}:t∈ER L ls n t:=by cases n<;>simp [ER]
theorem Hd.iH{ok:W->Prop}{al:Int}{b:Nat}{t:A1}(h:Hd al b t)(d:IW ok (A7 al) t)(hb:b<=20100):bk ok t/\∀w∈t.rows,∀l∈A7 al,∀x∈t.cols,ok (w++[l]++x):=
  ⟨⟨λw c x a=>d _ ⟨w,c,[],.inl rfl,x,.inr a,by simp⟩,λw c=>by have:=(h.onR w c).2;omega,λx a=>by have:=(h.onC x a).2;omega,by have:=h.rl;omega,by have:=h.cl;omega⟩,
   λw c l e x a=>d _ ⟨w,c,[l],.inr ⟨l,e,rfl⟩,x,.inr a,rfl⟩⟩
theorem Hd.on{ok:W->Prop}{al:Int}{b:Nat}{t:A1}(h:Hd al b t)(i:Sl ok al)(hb:b<=20100):IW ok (A7 al) t:=by
 rintro v ⟨r,e,m,f,x,d,rfl⟩;have n:=h.onR r e
 have k:AR (A7 al) m/\m.length<=1:=by
  rcases f with rfl|⟨l,g,rfl⟩
  ·exact⟨λc a=>by simp at a,by simp⟩
  ·exact⟨λc a=>by simp at a;subst a;exact g,by simp⟩
 have j:AR (A7 al) x/\x.length<=20000:=by
  rcases d with rfl|d
  ·exact⟨λc a=>by simp at a,by simp⟩
  ·exact h.onC x d
 refine i _ (λc a=>?_) (by simp;omega);simp only [em] at a
 rcases a with (a|a)|a
 ·exact n.1 c a
 ·exact k.1 c a
 ·exact j.1 c a
theorem Hd.push{L:W->Bool}{al:Int}{b:Nat}{t:A1}{w:W}(h:Hd al b t)(g:Bh L (A7 al) t=some w)(i:t.rows.length < 12):Hd al (b+1) ⟨t.rows++[w],t.cols⟩:=by
 obtain⟨⟨r,f,l,e,rfl⟩,_⟩:=Iw g;refine⟨λu a=>?_,h.onC,by simp;omega,h.cl⟩
 rcases em.1 a with a|a
 ·have:=h.onR u a;exact⟨this.1,by omega⟩
 ·simp at a
  subst a;have:=h.onR r f;refine⟨λc d=>?_,by simp;omega⟩
  rcases em.1 d with d|d
  ·exact this.1 c d
  ·simp at d;subst d;exact e
theorem Hd.grow{L:W->Bool}{al:Int}:∀ {n b:Nat} {t y:A1},Hd al b t->y∈ER L (A7 al) n t->Hd al (b+n) y
 | 0,b,t,y,h,a=>by simp [ER] at a;subst a;exact h
 | n + 1, b,t,y,h,a=>by
  have f:∀ {b':Nat} {z:A1},b'<=b+(n+1)->Hd al b' z->Hd al (b+(n+1)) z:=λhb c=>⟨λw e=>⟨(c.onR w e).1,lc (c.onR w e).2 hb⟩,c.onC,c.rl,c.cl⟩
  unfold ER at a
  rcases n8.1 a with rfl|a
  ·exact f (by omega) h
  ·cases d:Bh L (A7 al) t with
   | none=>rw [d] at a;simp at a
   | some w=>
    rw [d] at a;dsimp only at a;split at a
    ·simp at a
    ·have:=h.rl
     exact f (by omega) (Hd.grow (h.push d (by omega)) a)
theorem Hd.nv{L:W->Bool}{ok:W->Prop}{al:Int}{b:Nat}{t:A1}(h:Hd al b t)(c:Sl ok al)(hb:b<=20000):∀y∈ER L (A7 al) 13 t,IW ok (A7 al) y:=λy a=>(h.grow a).on c (by omega)
theorem I6{c:C}{L:W->Bool}{ok:W->Prop}(K:JS Tryz.prog TB c L ok)(al:Int)(t:A1)(Y:∀y∈ER L (A7 al) 13 t,IW ok (A7 al) y)(ht:Hd al 20000 t) :
 Pure Tryz.prog TB 113 [I9 al c,Ef t] (IK (Bq L (A7 al) 13 t)):=by
 have v:=E4 c K.Cm;have V:=ht.rl;have Z:=ht.cl;have J:=Lh (TB:=TB) t.rows (by omega);have I:=Lh (TB:=TB) t.cols (by omega);refine AS.Hz (AS.ofM 2 (i8 _) Tryz.func113 rfl rfl (by kernel_rfl) (am rfl) ?_);intro Γ b;(repeat first|refine aU rfl ?_);(refine pW rfl ?_ rfl (by rfl);refine C9 rfl rfl ?_);(refine Af rfl ?_;refine CE (λ_ _=>C7 rfl rfl rfl) rfl ?_);(repeat first|refine tM rfl ?_ |refine aU rfl ?_ |apply Aa);refine R.QJ [(7,3),(0,2),(1,2),(3,2),(4,2),(2,1),(5,1),(6,0),(8,5)] mixed (by kernel_rfl) rfl (by kernel_rfl) ?_;(repeat ((refine R.Af rfl ?_;first|(refine R.yQ (md:=false) rfl rfl rfl ?_ ?_;exact tI) |refine R.yP rfl rfl rfl rfl ?_ )));(refine R.Af rfl ?_;refine R.JY (λ_=>?_) rfl rfl;refine Ai [] rfl rfl J ⟨rfl,by simp,by simp⟩ rfl trivial ?_;rintro P F G ⟨rfl,rfl,rfl⟩ _);(refine R.Af rfl ?_;refine R.JY (λ_=>?_) rfl rfl;refine Ai [] rfl rfl I ⟨rfl,by simp,by simp⟩ rfl trivial ?_;rintro P F G ⟨rfl,rfl,rfl⟩ _);(repeat ((refine R.Af rfl ?_;first|refine R.yA rfl rfl rfl rfl ?_|refine R.CE (λ_ _ _=>AB rfl rfl (by rfl) (by rfl)) rfl rfl ?_ )));refine R.QE ?_;apply aB
 have Q:∀x:A1,Bh L (A7 al) x=none\/∃w,Bh L (A7 al) x=some w:=λx=>by cases Bh L (A7 al) x<;>simp
 refine Aj.A4 (α:={p:Nat×A1 // p.1<=13/\13<=p.1+p.2.rows.length/\Hd al (20000+p.2.rows.length) p.2/\Bq L (A7 al) 13 t=Bq L (A7 al) p.1 p.2/\∀y∈ER L (A7 al) p.1 p.2,IW ok (A7 al) y}) (λ⟨⟨m,u⟩,B,f,j,q,e⟩=>[(2,.o (.ptr 0 2 0 0)),(4,.o (.ptr 1 2 0 0)),(6,.o (.ptr 4 2 0 0))]) (λ⟨⟨m,u⟩,B,f,j,q,e⟩=>[(0,.cells 91 2 [[.d (iD al),c]]),(1,.cells 98 2 [[.d (.l []),.d (.l [])]]),(2,.cells 9 1 (u.rows.map Ej)),(3,.cells 9 1 (u.cols.map Ej)),(4,.cells 98 2 [[.arr 2 1 0 u.rows.length,.arr 3 1 0 u.cols.length]])]) 5 (λ⟨⟨m,u⟩,B,f,j,q,e⟩=>m) (⟨(13,t),by simp,by simp,⟨λw N=>⟨(ht.onR w N).1,by have:=(ht.onR w N).2;omega⟩,ht.onC,ht.rl,ht.cl⟩,rfl,Y⟩) [0,1,2,3,4] (Ed b rfl rfl) (by (simp[cX,zC,b,v,eC,Ab.Bj,BZ,IL,BR,Ae])) ?_;rintro⟨⟨m,u⟩,B,f,j,q,e⟩;(try dsimp only);dsimp only at B f j q e
 have s:∀l:List W,((l.map Ej).drop 0).take l.length=(l.map CQ).map (λr=>r.map C.d):=λl=>by rw [o5,gc (by simp)];simp [d5]
 have T:=j.rl;have U:=j.cl;have n:=j.iH (e u WG) (by omega);have g:=SD (TB:=TB) K al u n.1 n.2
 have A:iw [(0,.cells 91 2 [[.d (iD al),c]]),(1,.cells 98 2 [[.d (.l []),.d (.l [])]]),(2,.cells 9 1 (u.rows.map Ej)),(3,.cells 9 1 (u.cols.map Ej)),(4,.cells 98 2 [[.arr 2 1 0 u.rows.length,.arr 3 1 0 u.cols.length]])] [.a [.d (iD al),c],.a [.arr 2 1 0 u.rows.length,.arr 3 1 0 u.cols.length]] [I9 al c,Ef u]:=
  .cons (.cons (.pure rfl) (.cons (.pure K.Cm) .nil)) (.cons (.cons (.arr rfl (by simp) (s _)) (.cons (.arr rfl (by simp) (s _)) .nil)) .nil)
 apply aB
 rcases Q u with k|⟨w,k⟩
 ·rw [k] at g
  (repeat first|refine tM rfl ?_ |refine s2 rfl λ_ h=>?_|(refine Af rfl ?_;refine gA rfl ?_;first| refine gQ (Iy rfl rfl (A) (g) rfl) rfl ?_) |refine aU rfl ?_ |apply Aa);(refine aC rfl ?_ ?_<;>rintro⟨⟩)
  ·(repeat first|refine tM rfl ?_ |refine aU rfl ?_ |apply Aa)
   have z:Bq L (A7 al) 13 t=some u:=by
    rw [q]
    obtain⟨m',rfl⟩:∃m',m=m'+1:=⟨m - 1,by omega⟩
    simp [Bq,k]
   refine Aj.names [1,2,3] [(4,.o (.ptr 0 2 0 0)),(5,eB true)] [(0,.cells 98 2 [[.arr 1 1 0 u.rows.length,.arr 2 1 0 u.cols.length]]),(1,.cells 9 1 (u.rows.map Ej)),(2,.cells 9 1 (u.cols.map Ej))] (by intro i hi;rw [b] at hi;omega) (by simp) (by simp[cX,zC,b,IL]) (by simp[cX,zC,b,IL,Ab.Bj,BZ,BR,eC,Ae]) ?_;refine Aj.Oq [1,2] [(4,.o (.ptr 0 2 0 0)),(5,eB true)] [(0,.cells 98 2 [[.d (Cb u.rows),.d (Cb u.cols)]])] ⟨⟨_,rfl,.AQ⟩,⟨_,rfl,.AQ⟩,trivial⟩ ⟨⟨_,rfl,by simp,.cons (.full (by simp) rfl (by simp [d5]) (by simp)) (.cons (.full (by simp) rfl (by simp [d5]) (by simp)) .nil)⟩,trivial⟩ ?_;refine Aj.freeze [0] [(4,.o (.ip [Cb u.rows,Cb u.cols])),(5,eB true)] ⟨⟨_,rfl,.o (.ptr (by simp) rfl rfl rfl)⟩,⟨_,rfl,.AQ⟩,trivial⟩ ?_;refine aR ⟨_,rfl,?_⟩;rw [z];rfl
  ·simp at h
 ·rw [k] at g
  (repeat first|refine tM rfl ?_ |refine s2 rfl λ_ h=>?_|(refine Af rfl ?_;refine gA rfl ?_;first| refine gQ (Iy rfl rfl (A) (g) rfl) rfl ?_) |refine aU rfl ?_ |apply Aa);(refine aC rfl ?_ ?_<;>rintro⟨⟩)
  ·simp at h
  ·apply aK
   (repeat first|refine tM rfl ?_ |refine s2 rfl λ_ h=>?_ |refine aU rfl ?_ |apply Aa);(refine aC rfl ?_ ?_<;>rintro⟨⟩)
   ·(repeat first|refine tM rfl ?_|(refine Af rfl ?_;refine gA rfl ?_;first| refine gS (λ_ _=>AB rfl rfl (by rfl) (by rfl)) ?_) |refine aU rfl ?_ |apply Aa)
    have z:Bq L (A7 al) 13 t=none:=by
     have M:u.rows.length=12:=by (simp only[oZ] at *;omega)
     rw [q]
     obtain⟨m',rfl⟩:∃m',m=m'+1:=⟨m - 1,by omega⟩
     simp [Bq,k,M]
    refine Aj.freeze [1] [(4,.o (.ip [.l [],.l []])),(5,eB false)] ⟨⟨_,rfl,.o (.ptr (by simp) rfl rfl rfl)⟩,⟨_,rfl,.AQ⟩,trivial⟩ ?_;refine aR ⟨_,rfl,?_⟩;rw [z];rfl
   ·apply aK
    have H:u.rows.length < 12:=by (simp only[oZ] at *;omega)
    obtain⟨m',rfl⟩:∃m',m=m'+1:=⟨m - 1,by omega⟩
    have z:Bq L (A7 al) 13 t=Bq L (A7 al) m' ⟨u.rows++[w],u.cols⟩:=by
     rw [q]
     conv=>lhs;unfold Bq
     rw [k];dsimp only;rw [if_neg (by omega)]
    have X:=j.push k H;(repeat first|refine tA rfl ?_ |refine aU rfl ?_);(refine pW rfl ?_ rfl (by rfl);refine Al rfl rfl rfl (by first| (simp;done)|(simp;(omega))) rfl (by intro r v;simp at v;subst v;rfl) (by rfl) (am rfl) (by simp;omega) ?_);(repeat first|refine tM rfl ?_ |apply Aa);refine⟨⟨⟨m',⟨u.rows++[w],u.cols⟩⟩,by dsimp only;omega,by simp;omega,by simpa [oI] using X,z,λy S=>e y (by unfold ER;rw [k];dsimp only;rw [if_neg (by omega)];exact ou _ S)⟩,by dsimp only;(omega),[0,1,5,3,4],?_⟩;simp[cX,zC,b,v,eC,Ab.Bj,BZ,IL,BR,Ae]
def Bu:A1:=⟨[[]],[[]]⟩
theorem JN(al:Int):Hd al 20000 Bu:=by
 refine⟨λw a=>?_,λw a=>?_,by decide,by decide⟩<;>(simp [Bu] at a;subst a;exact⟨λc b=>by simp at b,by simp⟩)
theorem SW{c:C}{L:W->Bool}{ok:W->Prop}(b:JS Tryz.prog TB c L ok)(al:Int)(e:∀y∈ER L (A7 al) 13 Bu,IW ok (A7 al) y) :
 Pure Tryz.prog TB 65 [I9 al c] (IK (Bq L (A7 al) 13 Bu)):=by
 have f:=E4 c b.Cm;have h:=I6 b al Bu e (JN al);refine AS.Hz (AS.ofM 2 (i8 _) Tryz.func65 rfl rfl (by kernel_rfl) (am rfl) ?_);intro Γ d;generalize Bq L (A7 al) 13 Bu=o at h |-;(repeat first|refine aU rfl ?_);(refine pW rfl ?_ rfl (by rfl);refine C9 rfl rfl ?_);(repeat first|refine tM rfl ?_ |refine aU rfl ?_ |apply Aa)
 have a:([I9 al c,Ef Bu].all E.Cm && C.Dl [])=true:=by simp [I9,Ef,E.Cm,C.Dl,C.Cm,b.Cm]
 cases o with
 | none=>
  (repeat first|refine tA rfl ?_|(refine Af rfl ?_;refine gA rfl ?_;first| refine gS (λ_ _=>Bt rfl rfl a h rfl) ?_|refine gS (λ_ _=>AB rfl rfl (by rfl) (by rfl)) ?_) |apply Aa);refine Aj.freeze [1] [(2,.o (.ip [.l [],.l []])),(3,eB false)] ⟨⟨_,rfl,.o (.ptr (by simp) rfl rfl rfl)⟩,⟨_,rfl,.AQ⟩,trivial⟩ ?_;refine aR ⟨_,rfl,?_⟩;rfl
 | some u=>
  (repeat first|refine tA rfl ?_|(refine Af rfl ?_;refine gA rfl ?_;first| refine gS (λ_ _=>Bt rfl rfl a h rfl) ?_|refine gS (λ_ _=>AB rfl rfl (by rfl) (by rfl)) ?_) |apply Aa);refine Aj.freeze [1] [(2,.o (.ip [Cb u.rows,Cb u.cols])),(3,eB true)] ⟨⟨_,rfl,.o (.ptr (by simp) rfl rfl rfl)⟩,⟨_,rfl,.AQ⟩,trivial⟩ ?_;refine aR ⟨_,rfl,?_⟩;rfl
def AZ(L:W->Bool)(al:Int)(t:A1):AX:=⟨al,t.rows.map λr=>(Ac al).map λl=>((C3 L t (r++[lb l]):Nat):Int),t.rows.map L⟩
theorem UJ{L:W->Bool}{al:Int}{t:A1}(b:Bh L (A7 al) t=none){r:W}(a:r∈t.rows){l:Int}(d:l∈Ac al) :
 (CU (BX L t t.rows.length) (marks L t.cols (r++[lb l]))).getD 0=((C3 L t (r++[lb l]):Nat):Int):=by
 have c:marks L t.cols (r++[lb l])∈AI L t:=by
  have:=p7.1 b (r++[lb l]) (by
   unfold CP
   exact pu.2 ⟨r,a,d9.2 ⟨lb l,d9.2 ⟨l,d,rfl⟩,rfl⟩⟩)
  simpa using this
 rw [UT,if_pos c];rfl
end Go.Am
namespace Go.Am
def DT(a:AX):Int->W->Int
 | q,[]=>q
 | q,c::w=>DT a (CC a q.toNat ((c.toNat:Int) - 97)) w
def LA(a:AX)(w:W):Bool:=a.ac.getD (DT a 0 w).toNat false
theorem Vp(a:AX):∀(u w:W) (q:Int),DT a q (u++w)=DT a (DT a q u) w
 | [],_,_=>rfl
 | c::u,w,q=>Vp a u w _
theorem MZ{l:Int}(b:0<=l)(a:l < 6):((lb l).toNat:Int) - 97=l:=by
 unfold lb
 have:(97+l.toNat) % 256=97+l.toNat:=by omega
 simp [this];omega
theorem Ho{al:Int}{c:UInt8}(h:c∈A7 al):0<=(c.toNat:Int) - 97/\(c.toNat:Int) - 97 < 6:=by
 obtain⟨l,a,rfl⟩:=d9.1 h;have b:=Au a;rw [MZ b.1 (by omega)];omega
theorem Ma{a:AX}(ha:AJ a=true){al:Int}:∀(w:W) (q:Int),AR (A7 al) w->0<=q/\q < a.nx.length->0<=DT a q w/\DT a q w < a.nx.length
 | [],q,_,d=>d
 | c::w,q,b,d=>by
  have e:=Ho (b c (by simp));have g:=Ds ha (q:=q.toNat) (by omega) e.1 e.2;exact Ma ha w _ (λx f=>b x (by simp [f])) g
theorem Ow{al:Int}{l:Int}(h:l∈Ac al):lb l∈A7 al:=d9.2 ⟨l,h,rfl⟩
theorem Lf{L:W->Bool}{al:Int}{t:A1}(hal:A8 al=true)(h:BS L (A7 al) t)(b:t.rows.length<=12):AJ (AZ L al t)=true:=by
 have j:0 < t.rows.length:=(ce.1 h.r0).1;unfold AJ;simp only [d4,decide_eq_true_eq,f7];refine⟨⟨⟨hal,by simp [AZ];omega⟩,by simp [AZ]⟩,λrow a=>?_⟩;simp only [AZ,d9] at a;obtain⟨r,b,rfl⟩:=a;unfold Gn;simp only [d4,decide_eq_true_eq,f7];refine⟨by simp [AZ],λy c=>?_⟩;obtain⟨l,d,rfl⟩:=d9.1 c;obtain⟨i,hi,e⟩:=oy b;obtain⟨r',g,_⟩:=h.idx (i:=i) (r:=r) (by rw [d6 hi,e]) (Ow d);have f:=(ce.1 g).1;unfold Tx;simp [AZ];exact f
theorem Lr{L:W->Bool}{al:Int}{t:A1}{q:Nat}{c:UInt8}(e:q < t.rows.length)(g:c∈A7 al):CC (AZ L al t) q ((c.toNat:Int) - 97)=((C3 L t (t.rows.getD q []++[c]):Nat):Int):=by
 obtain⟨l,a,rfl⟩:=d9.1 g;have d:=Au a;rw [MZ d.1 (by omega)];obtain⟨k,hk,f⟩:=oy a
 have b:(AN al 6)[k]? = some l:=by rw [d6 hk,f]
 have m:=Kg b;unfold CC;have j:AY (AZ L al t).al l.toNat=true:=d.2.2;rw [if_pos j];have i:(AN (AZ L al t).al l.toNat).length=k:=m;rw [i]
 have h:(AZ L al t).nx.getD q []=(Ac al).map λl=>((C3 L t (t.rows.getD q []++[lb l]):Nat):Int):=by
  simp [AZ,List.getD,e]
 rw [h];simp [List.getD,b]
theorem RT{L:W->Bool}{al:Int}{t:A1}(h:BS L (A7 al) t):∀(w:W) (q:Nat),AR (A7 al) w->q < t.rows.length->DT (AZ L al t) q w=((runM L t q w:Nat):Int)
 | [],q,_,_=>rfl
 | c::w,q,a,b=>by
  have f:t.rows[q]? = some t.rows[q]:=d6 b;have d:=a c (by simp);obtain⟨_,j,_⟩:=h.idx f d
  have i:t.rows.getD q []=t.rows[q]:=by simp [f]
  have e:=(ce.1 j).1
  show DT (AZ L al t) (CC (AZ L al t) ((q:Int)).toNat ((c.toNat:Int) - 97)) w=_
  rw [io,Lr b d];rw [<-i] at e;exact RT h w _ (λx g=>a x (by simp [g])) e
theorem KV{L:W->Bool}{al:Int}{t:A1}(h:BS L (A7 al) t){w:W}(a:AR (A7 al) w):LA (AZ L al t) w=MF L t w:=by
 have c:0 < t.rows.length:=(ce.1 h.r0).1;have d:=h.run w 0 a c;unfold LA MF;have b:=RT h w 0 a c;rw [show ((0:Nat):Int)=0 from rfl] at b;rw [b,io];simp [AZ,List.getD,d]
end Go.Am
namespace Go.Am
open Go
theorem JK{g:Gr}:∀ {u v:List Int} {a x:Int},reach g (u++v) a x↔∃y,reach g u a y/\reach g v y x
 | [],v,a,x=>⟨λh=>⟨a,rfl,h⟩,λ⟨y,c,b⟩=>by cases c;exact b⟩
 | l :: u,v,a,x=>by
  simp only [pp,reach];constructor
  ·rintro⟨y,d,h⟩
   obtain⟨z,c,b⟩:=JK.1 h;exact⟨z,⟨y,d,c⟩,b⟩
  ·rintro⟨z,⟨y,d,c⟩,b⟩
   exact⟨y,d,JK.2 ⟨z,c,b⟩⟩
theorem jw(n:Nat)(f:Nat->Int)(h:∀i,i<=n->0<=f i/\f i < n):∃i j,i < j/\j<=n/\f i=f j:=by
 apply Classical.byContradiction;intro hno
 have g:((List.range (n+1)).map λi=>(f i).toNat).Nodup:=by
  unfold List.Nodup;rw [pS];refine List.pairwise_lt_range.imp_of_mem λ{a b} ha hb c k=>hno ⟨a,b,c,?_,?_⟩
  ·have:=oc.1 hb;omega
  ·have d:=h a (by have:=oc.1 ha;omega)
   have l:=h b (by have:=oc.1 hb;omega);omega
 have d:=US n _ g λx e=>by
  obtain⟨i,hi,rfl⟩:=d9.1 e;have:=h i (by have:=oc.1 hi;omega);omega
 simp at d;omega
theorem CB.short{g:Gr}(hg:IX g){w:List Int}(h:CB g (some w)):w.length < g.N:=by
 obtain⟨e,⟨x,n,c⟩,q⟩:=h;apply Classical.byContradiction;intro m;have b:∀k,∃y,reach g (w.take k) g.s0 y/\reach g (w.drop k) y x:=λk=>JK.1 (by rw [o7];exact n);obtain⟨f,d⟩:=Classical.axiomOfChoice b;obtain⟨i,j,o,r,p⟩:=jw g.N f λi _=>DJ hg (λl a=>e l (ol a)) hg.s0 (d i).1;refine q (w.take i++w.drop j) (λl a=>?_) ⟨x,JK.2 ⟨f i,(d i).1,p ▸ (d j).2⟩,c⟩ (.inl ?_)
 ·rcases em.1 a with a|a
  ·exact e l (ol a)
  ·exact e l (pB a)
 ·simp;omega
theorem eO{al:Int}:∀ {w:List Int},(∀l∈w,l∈Ac al)->AR (A7 al) (Dx w):=λ{w} h c b=>by
 obtain⟨l,a,rfl⟩:=d9.1 b;exact Ow (h l a)
end Go.Am
namespace Go.Am
open Go Go.Proofs
set_option maxHeartbeats 1000000
set_option maxRecDepth 4000
attribute [local irreducible] A6 Cz Lex Bv Aj Spec
variable {TB:BF}
end Go.Am
