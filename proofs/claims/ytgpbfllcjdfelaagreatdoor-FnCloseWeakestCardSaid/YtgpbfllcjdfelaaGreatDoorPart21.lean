/-
  A visit of the program's search.
-/
import Derived.Test.YtgpbfllcjdfelaaGreatDoorPart18
import Derived.Test.YtgpbfllcjdfelaaGreatDoorPart14
import Derived.Test.YtgpbfllcjdfelaaGreatDoorPart16
set_option linter.all false
namespace Go.Am
open Go Go.Proofs
set_option maxHeartbeats 1000000
set_option maxRecDepth 4000
attribute [local irreducible] AU BZ Lex Br Aj Spec
variable {TB:Bp}
theorem cZ(p:Nat->Prop):(∀i,i < 5->p i)↔p 0/\p 1/\p 2/\p 3/\p 4:=by
 constructor
 ·intro h;exact⟨h 0 (by omega),h 1 (by omega),h 2 (by omega),h 3 (by omega),h 4 (by omega)⟩
 ·rintro⟨e,d,c,b,a⟩ i hi
  have:i=0\/i=1\/i=2\/i=3\/i=4:=by omega
  rcases this with rfl|rfl|rfl|rfl|rfl<;>assumption
theorem ZX{goal:Int->Bool}{seen:List Bool}{nodes:List Int}{k:Nat}{x:Int}(h:nodes[k]? = some x):PU goal seen (nodes.take (k+1))=RV goal (PU goal seen (nodes.take k)) x:=by
 unfold PU;rw [Sv h]
theorem RI{l:List Bool}{n:Int}:(l.map AP).set (0+n.toNat) (Af (AP false) 0 (eC (eB true)))=(l.set n.toNat true).map AP:=by
 simp [Af,eC,lP]
abbrev EC(N:Nat)(gG:FuncId)(capsG:List C)(seen:List Bool)(q:Nat)(steps:List Lv):Ab:=
 [(0,.cells 27 1 [[.arr 1 1 0 N]]),(1,.cells 4 1 (seen.map AP)),(2,.cells 154 1 [[.fn gG capsG]]),(3,.cells 216 1 [[.arr q 3 0 steps.length]]),(q,.cells 218 3 (steps.map Nt))]
theorem RU{goal:Int->Bool}{gG:FuncId}{capsG:List C}{N:Nat}(M:∀n:Int,0<=n/\n < N->Pure Tryz.prog TB gG ([eI .i64 n]++capsG.map .o) (eB (goal n)))(G:C.CA capsG=true)(d:∀r,C.BH r capsG=capsG)
 (seen:List Bool) (steps:List Lv) (p l:Int) (nodes:List Int) (R:seen.length=N) (T:N<=1048576) (Q:steps.length<=1048576) (u:∀n∈nodes,0<=n/\n < N) :
 Spec Tryz.prog TB 214 (EC N gG capsG seen 4 steps) 5 [eI .i64 p,eI .i64 l,AW nodes,.o (.ptr 0 1 0 0),.o (.ptr 2 1 0 0),.o (.ptr 3 1 0 0)]
  (λx σ nx=>x=eB (PU goal seen nodes).found/\∃q,(q=4/\nx=5\/q=5/\nx=6)/\σ=EC N gG capsG (PU goal seen nodes).seen q (DY steps p l (PU goal seen nodes).fresh)):=by
 have s:∀k,eZ goal N seen (nodes.take k) (PU goal seen (nodes.take k)):=λk=>TF R λn F=>u n (kZ F);refine eN Tryz.func214 rfl (by kernel_rfl) rfl ?_;intro Γ a;refine Aj.bound 2 rfl λK=>?_;have S:=K _ .refl;rw [gc] at S;(repeat first|refine tM rfl ?_ |refine aU rfl ?_ |refine Aa ?_);(refine pW rfl ?_ rfl (by rfl);refine Js 1 3 ?_);(repeat first|refine sN rfl ?_ |refine tM rfl ?_ |refine aU rfl ?_ |refine Aa ?_);refine aB ?_;refine Aj.Cq (U:={k:Nat // k<=nodes.length}) (λ⟨k,hk⟩=>[(0,eI .i64 p),(1,eI .i64 l),(3,.o (.ptr 0 1 0 0)),(4,.o (.ptr 2 1 0 0)),(5,.o (.ptr 3 1 0 0)),(10,.o (.arr 5 1 0 (PU goal seen (nodes.take k)).fresh.length)),(11,eB (PU goal seen (nodes.take k)).found),(14,AW nodes),(15,eI .i64 nodes.length),(16,eI .i64 k)]) (λ⟨k,hk⟩=>EC N gG capsG (PU goal seen (nodes.take k)).seen 4 steps++[(5,.cells 3 1 ((PU goal seen (nodes.take k)).fresh.map AE))]) 6 (λ⟨k,hk⟩=>nodes.length - k) (⟨0,by omega⟩) [0,1,2,3,4,5] (JT a rfl rfl) (by (simp[cX,zC,a,EC,PU,d])) ?_;rintro⟨k,hk⟩;(try dsimp only);have i:=s k;have c:=λx=>ZX (goal:=goal) (seen:=seen) (nodes:=nodes) (k:=k) (x:=x);generalize L:PU goal seen (nodes.take k)=v at *;(repeat first|refine s2 rfl λ_ f=>?_ |refine aU rfl ?_ |refine Aa ?_);(refine aC rfl ?_ ?_<;>rintro⟨⟩)
 ·obtain⟨x,z⟩:=get_some (l:=nodes) (k:=k) (by (simp only[oZ] at *;omega))
  have P:=get_map (g:=CN) z;have m:=u x (co z);have c:=c x z;have A:=i.len;obtain⟨b,hb⟩:=get_some (l:=v.seen) (k:=x.toNat) (by omega)
  have J:(v.seen.map AP)[0+x.toNat]? = some (AP b):=by simp [hb]
  have B:sn v.seen x=b:=by simp [sn,List.getD,hb]
  have h:v.fresh.length<=N:=by
   refine Ia _ _ i.nd λy w=>u y (kZ ((i.fr y).1 w).1)
  unfold RV at c;rw [B] at c;obtain⟨vse,vfr,vfd⟩:=v;simp only at c A hb J h;refine aK ?_;refine aS (aB ?_);(repeat first|((first|refine sM rfl ?_ ?_|refine s4 rfl ‹_› rfl ?_ ?_);first|exact tI|omega) |refine s2 rfl λ_ f=>?_ |refine aU rfl ?_ |refine Aa ?_);(refine aC rfl ?_ ?_<;>rintro⟨⟩)
  ·have I:b=false:=by simpa using f
   subst I;rw [if_neg (by simp)] at c;(repeat first|(refine sA rfl ?_ ?_;first|exact tI|omega) |refine t4 rfl ‹_› rfl ?_ |refine aU rfl ?_ |refine Aa ?_);(refine pW rfl ?_ rfl (by rfl);refine Aw rfl rfl rfl (by first| (simp;done)|(simp;(omega))) rfl (by intro r t;simp at t;subst t;rfl) (by rfl) (ce rfl) (by simp;omega) ?_);(repeat first|(refine sX rfl ?_ ?_;first|exact tI|simp only[oZ] at *;omega) |refine s3 rfl ?_ ?_<;>rintro rfl |refine aU rfl ?_ |refine Aa ?_);(repeat first|(refine sC rfl (M x m) ?_;intro _ f)|(refine Ag rfl ?_;refine gA rfl ?_;first| refine gQ (PD rfl rfl rfl rfl) (by rfl) ?_))
   ·refine⟨⟨k+1,by (simp only[oZ] at *;omega)⟩,by dsimp only;((simp only[oZ] at *;omega)),[0,1,2,3,4,6],?_⟩
    rw [RI];simp[cX,zC,a,c,EC,d,cZ]
   ·(repeat first|(refine sA rfl ?_ ?_;first|exact tI|simp only[oZ] at *;omega)|(refine Ag rfl ?_;refine gA rfl ?_;first| (refine gB (λ_ _=>Bu rfl rfl (by simp [E.Bz,C.Bz,G]) (M x m) rfl) ?_;intro _ f)) |refine aU rfl ?_ |refine Aa ?_)
    refine⟨⟨k+1,by (simp only[oZ] at *;omega)⟩,by dsimp only;((simp only[oZ] at *;omega)),[0,1,2,3,4,6],?_⟩;rw [RI];simp[cX,zC,a,c,EC,d,cZ,f]
  ·have H:b=true:=by simpa using f
   subst H;rw [if_pos rfl] at c;refine aK ?_;(repeat first|(refine sM rfl ?_ ?_;first|exact tI|simp only[oZ] at *;omega) |refine aU rfl ?_ |refine Aa ?_);refine⟨⟨k+1,by (simp only[oZ] at *;omega)⟩,by dsimp only;((simp only[oZ] at *;omega)),[0,1,2,3,4,5],?_⟩;simp[cX,zC,a,c,EC,d,cZ]
 ·obtain rfl:k=nodes.length:=by (simp only[oZ] at *;omega)
  rw [kz] at L;subst L;refine aE ?_
  have h:(PU goal seen nodes).fresh.length<=N:=by
   have i:=s nodes.length;rw [kz] at i;refine Ia _ _ i.nd λy w=>u y ((i.fr y).1 w).1
  generalize PU goal seen nodes=vv at *;obtain⟨vse,vfr,vfd⟩:=vv;have h:vfr.length<=N:=h;(repeat first|refine tM rfl ?_ |refine s2 rfl λ_ f=>?_ |refine aU rfl ?_ |refine Aa ?_);(refine aC rfl ?_ ?_<;>rintro⟨⟩)
  ·have j:vfr≠[]:=λe=>by rw [e] at f;simp at f
   refine Aj.freeze [5] [(0,eI .i64 p),(1,eI .i64 l),(5,.o (.ptr 3 1 0 0)),(10,AW vfr),(11,eB vfd)] ⟨⟨_,rfl,.Bo⟩,⟨_,rfl,.Bo⟩,⟨_,rfl,.Bo⟩,⟨_,rfl,.o (.full (by simp) rfl (by simp [d4]) (by simp))⟩,⟨_,rfl,.Bo⟩,trivial⟩ ?_;(repeat first|refine tA rfl ?_|(refine Ag rfl ?_;refine gA rfl ?_;first| refine gS (λ_ _=>AG rfl rfl (by rfl) (by rfl)) ?_) |refine aU rfl ?_);(refine pW rfl ?_ rfl (by rfl);refine Aw rfl rfl rfl (by first| (simp;done)|(simp;(omega))) rfl (by intro r t;simp at t;subst t;rfl) (by rfl) (ce rfl) (by simp;omega) ?_);(repeat first|refine tX rfl ?_ |refine aU rfl ?_ |refine Aa ?_);refine Aj.names [0,1,2,3,4,6] [(9,eB vfd)] (EC N gG capsG vse 5 (DY steps p l vfr)) (by rw [a];decide) (by decide) (by simp[cX,zC,a]) (by simp[cX,zC,a,EC,d,DY,j,Cn,Af,eC]) ?_;refine aR ⟨_,rfl,rfl,5,.inr ⟨rfl,rfl⟩,rfl⟩
  ·have j:vfr=[]:=kJ.1 (by (simp only[oZ] at *;omega))
   subst j;refine aK ?_;(repeat first|refine tM rfl ?_ |refine aU rfl ?_ |refine Aa ?_);refine Aj.names [0,1,2,3,4] [(9,eB vfd)] (EC N gG capsG vse 4 steps) (by rw [a];decide) (by decide) (by simp[cX,zC,a]) (by simp[cX,zC,a,EC,d]) ?_;refine aR ⟨_,rfl,rfl,4,.inl ⟨rfl,rfl⟩,by simp [DY]⟩
theorem YD{P:Program}{Γ:Ctx}{d:Option Tmp}{ty:TypeId}{pos:String}{af:Array Edge}{g:Option (Nat×Bool)}{f:Env}{σ:Ab}{nx:Nat}{K:E->Ab->Nat->Prop}{T:TypeId}(k e:Nat)[r:BM P T [.slice none 0 0]]
 (u:K (.o (.ptr (nx+1) 1 0 0)) ((nx+1,.cells T 1 [[.arr nx k 0 0]])::(nx,.cells e k [])::σ) (nx+2)):BZ P TB Γ ⟨d,.alloc T,ty,pos,af,g⟩ f σ nx K:=
 Db λV ρ z y x=>by
  subst x;obtain⟨i,zv,hi,b,a⟩:=Hd r.out
  have h:zv.cells = #[.slice none 0 0]:=by have:=congrArg List.toArray a;simpa using this
  obtain⟨m,p⟩:=y.alloc (c:=0) (nl:=True) (w:=V.w) (ob:=.cells e k []) rfl rfl rfl rfl (i7 _) (λ_ _=>rfl) (.inl ⟨by simp [Al],rfl⟩)
  have t:CU (Al V V.w.heap.size 0 True V.w) [.arr V.nx k 0 0] zv.cells:=by
   rw [h];refine⟨rfl,λj c v l q=>?_⟩
   match j with
   | 0=>simp at l q;subst l q;exact Az.nil (by simp [Al]) (by simp [Al])
   | j+1=>simp at l
  obtain⟨n,s⟩:=O8 m (T:=T) t;refine⟨.pointer (some ⟨V.w.heap.size,0,none⟩),_,_,_,?_,p.trans s,n,?_,u⟩
  ·simp [execOp,Instr.alloc,zeroValue,typeInfo,hi,b,newVar,newRow,Al,go_sem]
  ·exact LR
theorem OQ(r:Nat->Nat):∀(l m:List E),Ee r (l++m)=Ee r l++Ee r m
 | [],m=>rfl
 | e::l,m=>by simp [Ee,OQ r l m]
theorem Ng(r:Nat->Nat):∀(l:List C),Ee r (l.map .o)=(C.BH r l).map .o
 | []=>rfl
 | c::l=>by simp [Ee,C.BH,E.AV,Ng r l]
def W0(P:Program)(TB:Bp)(T:TypeId)(g:Gr)(gN:FuncId)(capsN:List C):Prop:=
 ∀(node l:Int) (outs:List Int),0<=node/\node < g.N->l∈g.ls->outs.length<=1099511627776->
  Spec P TB gN [(0,.cells T 1 (outs.map AE))] 1 ([eI .i64 node,eI .i64 l,.o (.arr 0 1 0 outs.length)]++capsN.map .o) (λx σ nx=>x=.o (.arr 1 1 0 (outs++g.succ node l).length)/\nx=2/\σ=[(1,.cells T 1 ((outs++g.succ node l).map AE))])
theorem Pf{g:Gr}(S:Ll g)(hN:g.N<=1048576)(Z:∀l∈g.ls,0<=l/\l < 6)(hll:g.ls.length<=6)(hsl:∀(node l:Int),0<=node/\node < g.N->l∈g.ls->(g.succ node l).length<=g.N)
 {gN gG:FuncId} {capsN capsG:List C} (hNx:W0 Tryz.prog TB 3 g gN capsN) (hG:∀n:Int,0<=n/\n < g.N->Pure Tryz.prog TB gG ([eI .i64 n]++capsG.map .o) (eB (g.goal n)))
 (hcG:C.CA capsG=true) (f:∀r,C.BH r capsG=capsG) (p:∀r,C.BH r capsN=capsN) {r:Option (List Int)} (hr:CI g r) :
 Pure Tryz.prog TB 135 [eI .i64 g.N,AW [g.s0],AW g.ls,.o (.fn gN capsN),.o (.fn gG capsG)] (XB r):=by
 refine eN Tryz.func135 rfl (by kernel_rfl) rfl ?_;intro Γ b;(repeat first|refine aU rfl ?_);(refine pW rfl ?_ rfl (by rfl);refine FU rfl rfl ?_);(repeat first|refine tM rfl ?_ |refine aU rfl ?_ |refine Aa ?_);(refine pW rfl ?_ rfl (by rfl);refine IS rfl rfl (by rfl) (by rfl) (ce rfl) (by omega) (by omega) (by omega) ?_)
 iterate 4 (first|refine tM rfl ?_ |refine aU rfl ?_ |refine Aa ?_)
 (refine pW rfl ?_ rfl (by rfl);refine YD 3 218 ?_);(repeat first|refine tM rfl ?_ |refine aU rfl ?_ |refine Aa ?_);have L:=TF (goal:=g.goal) (N:=g.N) (seen:=List.replicate g.N false) (nodes:=[g.s0]) (by simp) (by intro n z;simp at z;subst z;exact S.s0);have B:=RU (TB:=TB) hG hcG f (List.replicate g.N false) [] (-1) 0 [g.s0] (by simp) hN (by simp) (by intro n z;simp at z;subst z;exact S.s0);(refine pW rfl ?_ rfl (by rfl);refine Ae [2,1,0,4,3] rfl rfl B ⟨rfl,by decide,by decide⟩ rfl (by simp[cX,zC,b,EC,f,Af,eC]) ?_;rintro x0 V X ⟨rfl,q,M,rfl⟩ _);generalize hV:PU g.goal (List.replicate g.N false) [g.s0]=v at *;obtain⟨vse,vfr,vfd⟩:=v;simp only;refine Aa ?_;refine Aj.names [2,1,0,4,if q=4 then 3 else 5] [(2,AW g.ls),(3,.o (.fn gN capsN)),(12,.o (.ptr 0 1 0 0)),(13,.o (.ptr 3 1 0 0)),(14,.o (.fn 214 [.ptr 0 1 0 0,.ptr 2 1 0 0,.ptr 3 1 0 0])),(26,eB vfd)] (EC g.N gG capsG vse 4 (DY [] (-1) 0 vfr)) (by simp [b]) (by rcases M with ⟨rfl,rfl⟩|⟨rfl,rfl⟩<;>decide)
  (by rcases M with ⟨rfl,rfl⟩|⟨rfl,rfl⟩<;>simp[cX,zC,b,p,eC]) (by rcases M with ⟨rfl,rfl⟩|⟨rfl,rfl⟩<;>simp[cX,zC,b,EC,f,Ab.AV,Cn,H0,eC]) ?_
 (refine aC rfl ?_ ?_<;>rintro⟨⟩)
 ·-- the start is a goal
  have hgs:g.goal g.s0=true:=by
   have h1:vfr.any g.goal=true:=L.fd.symm;obtain⟨x,K,Q⟩:=m7.1 h1;have h2:=((L.fr x).1 K).1;simp at h2;subst h2;exact Q
  have F:=CI.unique hr (CI.start hgs);subst F;(repeat first|refine tM rfl ?_ |refine aU rfl ?_ |refine Aa ?_);refine aR ⟨_,rfl,rfl⟩
 refine aK ?_;obtain⟨hfr,hF0⟩:=FI.init S L rfl;simp only at hfr hF0;rw [hfr];(repeat first|refine tM rfl ?_ |refine aU rfl ?_ |refine Aa ?_);refine aB ?_;refine Aj.Cq (U:={x:Nat×List Bool×List Lv×List (List Int) // FI g x.2.1 x.2.2.1 x.2.2.2 x.1 0}) (λ⟨⟨i,seen,steps,ws⟩,h⟩=>[(2,AW g.ls),(3,.o (.fn gN capsN)),(12,.o (.ptr 0 1 0 0)),(13,.o (.ptr 3 1 0 0)),(14,.o (.fn 214 [.ptr 0 1 0 0,.ptr 2 1 0 0,.ptr 3 1 0 0])),(15,eI .i64 i)]) (λ⟨⟨i,seen,steps,ws⟩,h⟩=>EC g.N gG capsG seen 4 steps) 5 (λ⟨⟨i,seen,steps,ws⟩,h⟩=>g.N - i) (⟨(0,vse,[⟨-1,0,[g.s0]⟩],[[]]),hF0⟩) [0,1,2,3,4] (JT b rfl rfl) (by (simp[cX,zC,b,EC,f,p,DY])) ?_;rintro⟨⟨i,seen,steps,ws⟩,h⟩;(try dsimp only);simp only at h;have hlN:=h.gi;(repeat first|refine tM rfl ?_ |refine s2 rfl λ_ _hb=>?_ |refine aU rfl ?_ |refine Aa ?_);(refine aC rfl ?_ ?_<;>rintro⟨⟩)
 ·have hi : i < steps.length:=by (simp only[oZ] at *;omega)
  obtain⟨s,I⟩:=get_some hi;have Y:(steps.map Nt)[0+((i:Nat):Int).toNat]? = some (Nt s):=QB I;obtain⟨wi,A⟩:∃wi,ws[i]? = some wi:=get_some (by rw [h.wlen];exact hi);refine aK ?_;refine aS (aB ?_);(repeat first|refine sN rfl ?_ |refine tM rfl ?_ |refine aU rfl ?_ |refine Aa ?_);refine aB ?_;refine Aj.Cq (U:={x:Nat×List Bool×List Lv×List (List Int) // x.1<=g.ls.length/\FI g x.2.1 x.2.2.1 x.2.2.2 i x.1/\i < x.2.2.1.length}) (λ⟨⟨j,d,c,u⟩,hP⟩=>[(2,AW g.ls),(3,.o (.fn gN capsN)),(12,.o (.ptr 0 1 0 0)),(13,.o (.ptr 3 1 0 0)),(14,.o (.fn 214 [.ptr 0 1 0 0,.ptr 2 1 0 0,.ptr 3 1 0 0])),(15,eI .i64 i),(33,AW g.ls),(34,eI .i64 g.ls.length),(35,eI .i64 j)]) (λ⟨⟨j,d,c,u⟩,hP⟩=>EC g.N gG capsG d 4 c) 5 (λ⟨⟨j,d,c,u⟩,hP⟩=>g.ls.length - j) (⟨(0,seen,steps,ws),by simp,h,hi⟩) [0,1,2,3,4] (JT b rfl rfl) (by (simp[cX,zC,b,EC,f,p])) ?_;rintro⟨⟨j,d,c,u⟩,hP⟩;(try dsimp only);clear I Y A h hlN hi;obtain⟨hj,h,hi⟩:=hP;simp only at hj h hi;have hlN:=h.gi;(repeat first|refine s2 rfl λ_ _hb=>?_ |refine aU rfl ?_ |refine Aa ?_);(refine aC rfl ?_ ?_<;>rintro⟨⟩)
  ·have hjl:j < g.ls.length:=by (simp only[oZ] at *;omega)
   obtain⟨l,hl⟩:=get_some (l:=g.ls) (k:=j) hjl;have hl':=get_map (g:=CN) hl;have G:=co hl;have hlb:=Z l G;obtain⟨s,I⟩:=get_some hi;have Y:(c.map Nt)[0+((i:Nat):Int).toNat]? = some (Nt s):=QB I;obtain⟨wi,A⟩:∃wi,u[i]? = some wi:=get_some (by rw [h.wlen];exact hi);have t:=h.inn s (co I);have hsnd:=Ia _ _ (h.nd s (co I)) t;refine aK ?_;refine aS (aB ?_);(repeat first|refine tM rfl ?_ |(refine s4 rfl ‹_› rfl ?_ ?_;omega) |refine aU rfl ?_ |refine Aa ?_);(refine pW rfl ?_ rfl (by rfl);refine Js 1 3 ?_);(repeat first|refine sN rfl ?_ |(refine sM rfl ?_ ?_;first|exact tI|omega) |refine t4 rfl ‹_› rfl ?_ |refine aU rfl ?_ |refine Aa ?_);refine aB ?_;refine Aj.Cq (U:={m:Nat // m<=s.ns.length}) (λ⟨m,hm⟩=>[(2,AW g.ls),(3,.o (.fn gN capsN)),(12,.o (.ptr 0 1 0 0)),(13,.o (.ptr 3 1 0 0)),(14,.o (.fn 214 [.ptr 0 1 0 0,.ptr 2 1 0 0,.ptr 3 1 0 0])),(15,eI .i64 i),(33,AW g.ls),(34,eI .i64 g.ls.length),(35,eI .i64 j),(17,eI .i64 l),(18,.o (.arr 5 1 0 ((s.ns.take m).flatMap λn=>g.succ n l).length)),(43,AW s.ns),(44,eI .i64 s.ns.length),(45,eI .i64 m)]) (λ⟨m,hm⟩=>EC g.N gG capsG d 4 c++[(5,.cells 3 1 (((s.ns.take m).flatMap λn=>g.succ n l).map AE))]) 6 (λ⟨m,hm⟩=>s.ns.length - m) (⟨0,by omega⟩) [0,1,2,3,4,5] (JT b rfl rfl) (by (simp[cX,zC,b,EC,f,p])) ?_;rintro⟨m,hm⟩;(try dsimp only);(repeat first|refine s2 rfl λ_ _hb=>?_ |refine aU rfl ?_ |refine Aa ?_);(refine aC rfl ?_ ?_<;>rintro⟨⟩)
   ·obtain⟨n,z⟩:=get_some (l:=s.ns) (k:=m) (by (simp only[oZ] at *;omega))
    have hn':=get_map (g:=CN) z;have hnb:=t n (co z)
    have hfm:(s.ns.take (m+1)).flatMap (λn=>g.succ n l)=(s.ns.take m).flatMap (λn=>g.succ n l)++g.succ n l:=by
     rw [io,z];simp
    have hol:((s.ns.take m).flatMap λn=>g.succ n l).length<=1099511627776:=by
     have h2:=Qw (s.ns.take m) (λn=>g.succ n l) 1048576 (λx K=>by have:=hsl x l (t x (kZ K)) G;omega)
     have h3:(s.ns.take m).length<=1048576:=by simp;omega
     omega
    have hnx:=hNx n l _ hnb G hol;generalize (s.ns.take m).flatMap (λn=>g.succ n l)=pre at *;refine aK ?_;refine aS (aB ?_);(repeat first|refine tM rfl ?_ |(refine s4 rfl ‹_› rfl ?_ ?_;omega) |refine aU rfl ?_ |refine Aa ?_);(refine pW rfl ?_ rfl (by rfl);refine Ae [5] rfl rfl hnx ⟨rfl,by decide,by decide⟩ (by rw [OQ,Ng,p];rfl) (by simp[cX,zC,b]) ?_;rintro x0 V X ⟨rfl,rfl,rfl⟩ _);(repeat first|(refine sM rfl ?_ ?_;first|exact tI|omega) |refine aU rfl ?_ |refine Aa ?_);refine⟨⟨m+1,by (simp only[oZ] at *;omega)⟩,by dsimp only;((simp only[oZ] at *;omega)),[0,1,2,3,4,6],?_⟩;simp[cX,zC,b,EC,f,p,Ab.AV,Cn,H0,hfm]
   ·obtain rfl:m=s.ns.length:=by (simp only[oZ] at *;omega)
    rw [kz];have hR:∀y,y∈s.ns.flatMap (λn=>g.succ n l)↔∃n∈s.ns,y∈g.succ n l:=λy=>lY;generalize s.ns.flatMap (λn=>g.succ n l)=R at *
    have J:∀y∈R,0<=y/\y < g.N:=λy hy=>by
     obtain⟨n,z,hy⟩:=(hR y).1 hy;exact S.inn n (t n z) l G y hy
    have hv:=TF (goal:=g.goal) h.slen J;have B:=RU (TB:=TB) hG hcG f d c i l R h.slen hN (by omega) J;generalize hV2:PU g.goal d R=v2 at *;refine aE ?_;refine Aj.freeze [5] [(2,AW g.ls),(3,.o (.fn gN capsN)),(12,.o (.ptr 0 1 0 0)),(13,.o (.ptr 3 1 0 0)),(14,.o (.fn 214 [.ptr 0 1 0 0,.ptr 2 1 0 0,.ptr 3 1 0 0])),(15,eI .i64 i),(33,AW g.ls),(34,eI .i64 g.ls.length),(35,eI .i64 j),(17,eI .i64 l),(18,AW R)] ⟨⟨_,rfl,.Bo⟩,⟨_,rfl,.Bo⟩,⟨_,rfl,.Bo⟩,⟨_,rfl,.Bo⟩,⟨_,rfl,.Bo⟩,⟨_,rfl,.Bo⟩,⟨_,rfl,.Bo⟩,⟨_,rfl,.Bo⟩,⟨_,rfl,.Bo⟩,⟨_,rfl,.Bo⟩,⟨_,rfl,.o (.full (by simp) rfl (by simp [d4]) (by simp))⟩,trivial⟩ ?_;(repeat first|refine tM rfl ?_ |refine aU rfl ?_);(refine pW rfl ?_ rfl (by rfl);refine Ae [0,1,2,3,4] rfl rfl B ⟨rfl,by decide,by decide⟩ rfl (by simp[cX,zC,b,EC,f,Cn]) ?_;rintro x0 V X ⟨rfl,q,M,rfl⟩ _);obtain⟨vse,vfr,vfd⟩:=v2;simp only;refine Aa ?_;refine Aj.names [0,1,2,3,if q=4 then 4 else 6] [(2,AW g.ls),(3,.o (.fn gN capsN)),(12,.o (.ptr 0 1 0 0)),(13,.o (.ptr 3 1 0 0)),(14,.o (.fn 214 [.ptr 0 1 0 0,.ptr 2 1 0 0,.ptr 3 1 0 0])),(15,eI .i64 i),(33,AW g.ls),(34,eI .i64 g.ls.length),(35,eI .i64 j),(59,eB vfd)] (EC g.N gG capsG vse 4 (DY c i l vfr)) (by simp [b]) (by rcases M with ⟨rfl,rfl⟩|⟨rfl,rfl⟩<;>decide)
     (by rcases M with ⟨rfl,rfl⟩|⟨rfl,rfl⟩<;>simp[cX,zC,b,p]) (by rcases M with ⟨rfl,rfl⟩|⟨rfl,rfl⟩<;>simp[cX,zC,b,EC,f,Ab.AV,Cn,H0]) ?_
    (refine aC rfl ?_ ?_<;>rintro⟨⟩)
    ·obtain⟨x,K,Q⟩:∃x∈vfr,g.goal x=true:=by
      have h1:vfr.any g.goal=true:=hv.fd.symm;exact m7.1 h1
     have hxR:=((hv.fr x).1 K).1;obtain⟨n,z,hxn⟩:=(hR x).1 hxR;have H:=CI.found S h A hl I z hxn Q;have F:=CI.unique hr H;subst F
     have hne:vfr≠[]:=λe=>by rw [e] at K;cases K
     have hsv:DY c i l vfr=c++[⟨i,l,vfr⟩]:=by unfold DY;rw [if_neg hne]
     rw [hsv];have hch:=h.U7.app (ns:=vfr) A G;have hpw:=Ro (TB:=TB) hch Z (w:=wi++[l]) (by simp;omega) (by simp [h.wlen]);generalize hst3:c++[⟨(i:Int),l,vfr⟩]=st3 at *;(repeat first|refine tM rfl ?_|(refine Ag rfl ?_;refine gA rfl ?_;first| refine gQ (JA rfl rfl ((.cons (.o (.full rfl (by simp [d4]) (by simp))) .nil)) (hpw) rfl) rfl ?_) |refine aU rfl ?_ |refine Aa ?_);refine aR ⟨_,rfl,rfl⟩
    ·have T:=h.visit S A hl I hR hv rfl
     have P:i < (DY c i l vfr).length:=by unfold DY;split<;>(try simp)<;>omega
     refine aK ?_;(repeat first|(refine sM rfl ?_ ?_;first|exact tI|omega) |refine aU rfl ?_ |refine Aa ?_);refine⟨⟨(j+1,vse,DY c i l vfr,jM u (wi++[l]) vfr),hjl,T,P⟩,by dsimp only;omega,[0,1,2,3,4],?_⟩;simp[cX,zC,b,EC,f,p]
  ·obtain rfl:j=g.ls.length:=by (simp only[oZ] at *;omega)
   have T:=h.gp hi;refine aE ?_;(repeat first|(refine sM rfl ?_ ?_;first|exact tI|omega) |refine aU rfl ?_ |refine Aa ?_);refine⟨⟨(i+1,d,c,u),T⟩,by dsimp only;omega,[0,1,2,3,4],?_⟩;simp[cX,zC,b,EC,f,p]
 ·have hle:=h.le
  obtain rfl:i=steps.length:=by (simp only[oZ] at *;omega)
  have H:=CI.kl S h;have F:=CI.unique hr H;subst F;refine aE ?_;(repeat first|refine tM rfl ?_ |refine aU rfl ?_ |refine Aa ?_);refine aR ⟨_,rfl,rfl⟩
theorem Ik{a:AY}{q:Nat}(h:q < a.nx.length):(ET a)[q]? = some (Tj λl=>Bj a q l):=Dh (g:=λq=>Tj λl=>Bj a q l) h
theorem GF{h:Nat->Int}{l:Int}(d:0<=l)(c:l < 6):((Tj h).drop (l.toNat*1))[0]? = some (iD (h l.toNat)):=by
 rw [kQ]
 have b:l.toNat*1+0=l.toNat:=by omega
 have a:l.toNat < 6:=by omega
 rw [b];simp [Tj,a]
end Go.Am
namespace Go.Am
open Go
theorem FY{g g':Gr}(d:Ll g)(c:g.ls=g'.ls)(e:∀x:Int,0<=x/\x < g.N->∀l∈g.ls,g.succ x l=g'.succ x l):∀ {w:List Int} {a x:Int},over g w->(0<=a/\a < g.N)->(reach g w a x↔reach g' w a x)
 | [],a,x,_,_=>Iff.rfl
 | l :: w,a,x,f,ha=>by
  have j:=f l (by simp);simp only [reach,<-e a ha l j];constructor
  ·rintro⟨y,b,h⟩
   exact⟨y,b,(FY d c e (λm i=>f m (by simp [i])) (d.inn a ha l j y b)).1 h⟩
  ·rintro⟨y,b,h⟩
   exact⟨y,b,(FY d c e (λm i=>f m (by simp [i])) (d.inn a ha l j y b)).2 h⟩
theorem CI.congr{g g':Gr}(c:Ll g)(d:g.ls=g'.ls)(p:g.s0=g'.s0)(k:∀x:Int,0<=x/\x < g.N->∀l∈g.ls,g.succ x l=g'.succ x l)(i:∀x:Int,0<=x/\x < g.N->g.goal x=g'.goal x){r:Option (List Int)}(h:CI g r):CI g' r:=by
 have b:∀w,over g' w↔over g w:=λw=>by unfold over;rw [d]
 have j:∀w,over g w->(Ud g' w↔Ud g w):=λw hw=>by
  unfold Ud;rw [<-p];constructor
  ·rintro⟨x,a,e⟩
   have a:=(FY c d k hw c.s0).2 a;exact⟨x,a,by rw [i x (EB c hw c.s0 a)];exact e⟩
  ·rintro⟨x,a,e⟩
   exact⟨x,(FY c d k hw c.s0).1 a,by rw [<-i x (EB c hw c.s0 a)];exact e⟩
 cases r with
 | none=>exact λu f a=>h u ((b u).1 f) ((j u ((b u).1 f)).1 a)
 | some w=>
  obtain⟨m,o,n⟩:=h;exact⟨(b w).2 m,(j w m).2 o,λu f a=>n u ((b u).1 f) ((j u ((b u).1 f)).1 a)⟩
theorem Yu{zs ws:List Int}{cs ds:List (List Int)}(h:I6 zs cs):Kn (zs++ws) (cs++ds)=(Kn zs cs).flatMap λo=>(Kn ws ds).map λr=>o*A5 ws+r:=by
 induction h with
 | nil=>simp [Kn]
 | @cons z c zs cs _ _ _ a=>
  simp only [lO,Kn,a];rw [List.flatMap_assoc];congr 1;funext q;rw [List.map_flatMap,List.flatMap_map];congr 1;funext o;rw [lK];congr 1;funext r;simp only [d4,Ky];rw [nc,nI];omega
theorem RJ(l:List Sys)(aus:List AY)(st:List Int)(ls kd gl:Int):A0 ⟨l,aus,st,ls,kd,gl⟩=l.map (·.st)++aus.map (λa=>(a.nx.length:Int)):=rfl
theorem Ps{l:List Sys}{aus:List AY}{st:List Int}{ls kd gl:Int}(b:I7 ⟨l,aus,st,ls,kd,gl⟩){node letter:Int}(f:0<=letter)(d:letter < 6) :
 Ks ⟨l,aus,st,ls,kd,gl⟩ (A0 ⟨l,aus,st,ls,kd,gl⟩) (EE (A0 ⟨l,aus,st,ls,kd,gl⟩) node) letter =
  (Kn (l.map (·.st)) (fa l (node / A5 (aus.map λa=>(a.nx.length:Int))) letter)).flatMap λo=>(Kn (aus.map λa=>(a.nx.length:Int)) (aus.zipWith (λa q=>[Bj a q.toNat letter]) (EE (aus.map λa=>(a.nx.length:Int)) node))).map λr=>o*A5 (aus.map λa=>(a.nx.length:Int))+r:=by
 have hp:∀w∈aus.map (λa=>(a.nx.length:Int)),0 < w:=λw hw=>by
  obtain⟨a,ha,rfl⟩:=d8.1 hw;have:=Ax (b.au a ha);omega
 unfold Ks;rw [VV (O9 b (Ml b node) f d),RJ,Qo _ _ _ hp];have c:=dh b.ps b.np f d (node / A5 (aus.map λa=>(a.nx.length:Int)))
 have e:Vs ⟨l,aus,st,ls,kd,gl⟩ (EE (l.map (·.st)) (node / A5 (aus.map λa=>(a.nx.length:Int)))++EE (aus.map λa=>(a.nx.length:Int)) node) letter=fa l (node / A5 (aus.map λa=>(a.nx.length:Int))) letter++aus.zipWith (λa q=>[Bj a q.toNat letter]) (EE (aus.map λa=>(a.nx.length:Int)) node):=by
  unfold Vs fa
  have g:(EE (l.map (·.st)) (node / A5 (aus.map λa=>(a.nx.length:Int)))).length=l.length:=by rw [Qp];simp
  simp only;rw [List.drop_append_of_le_length (by omega),List.drop_of_length_le (by omega),mn];congr 1;rw [He,List.take_append_of_le_length (by omega),kD (by omega)]
 rw [e,Yu c]
theorem Ou:∀(zs:List Int) (k:Nat),Mo zs (List.replicate k 0) 0=0
 | [],k=>by simp [Mo]
 | z::zs,0=>by simp [Mo]
 | z::zs,k+1=>by
  rw [mB];simp only [Mo,Int.zero_mul,Int.add_zero];exact Ou zs k
end Go.Am
namespace Go.Am
open Go Go.Proofs
set_option maxHeartbeats 1000000
set_option maxRecDepth 4000
attribute [local irreducible] AU BZ Lex Br Aj Spec
variable {TB:Bp}
def Ge{U:Type}(l:List U)(z:U)(k:Nat):List U:=l.take k++List.replicate (l.length - k) z
theorem Yw{U:Type}(l:List U)(z:U):Ge l z 0=List.replicate l.length z:=by simp [Ge]
theorem QR{U:Type}(l:List U)(z:U):Ge l z l.length=l:=by simp [Ge]
theorem QS{U:Type}{l:List U}{z:U}{k:Nat}(h:k < l.length):(Ge l z k)[0+((k:Nat):Int).toNat]? = some z:=by
 rw [kG,f6];unfold Ge;rw [ge (by simp;omega)]
 have:0 < l.length - k:=by omega
 have e:k - (l.take k).length=0:=by simp;omega
 rw [e,nA,if_pos this]
theorem QT{U:Type}{l:List U}{z x:U}{k:Nat}(h:l[k]? = some x):(Ge l z k).set (0+((k:Nat):Int).toNat) x=Ge l z (k+1):=by
 have hk:=(am.1 h).1;rw [kG,f6];unfold Ge;rw [List.set_append_right _ _ (by simp;omega)]
 have b:k - (l.take k).length=0:=by simp;omega
 have a:l.length - k=(l.length - (k+1))+1:=by omega
 rw [b,a,mB,List.set_cons_zero,io,h];simp
theorem Yx{l:List (List C)}{z:List C}{k:Nat}{r:Nat->Nat}(c:∀x∈l,C.BH r x=x)(a:C.BH r z=z):(Ge l z k).map (C.BH r)=Ge l z k:=by
 unfold Ge;rw [lR,List.map_replicate,a];congr 1;refine(lz λx b=>?_).trans (List.map_id _);exact c x (kZ b)
abbrev RM(t:A9):List D:=[Bd t.rows,Bd t.cols]
abbrev CW(t:A9):E:=.a [.d (Bd t.rows),.d (Bd t.cols)]
abbrev Pe(al:Int)(c:C):E:=.a [.d (iD al),c]
mutual
theorem Dy:∀(c:C),c.Bz=true->∀r,c.AV r=c
 | .d x,_,r=>rfl
 | .fn g cap,h,r=>by
  simp only [C.Bz] at h;simp only [C.AV,Nh cap h r]
 | .arr ..,h,_=>by cases h
 | .ptr ..,h,_=>by cases h
 | .mp ..,h,_=>by cases h
 | .mv g l,h,r=>by
  simp only [C.Bz] at h;simp only [C.AV,Nh l h r]
theorem Nh:∀(l:List C),C.CA l=true->∀r,C.BH r l=l
 | [],_,r=>rfl
 | c::l,h,r=>by
  simp only [C.CA,d5] at h;simp only [C.BH,Dy c h.1 r,Nh l h.2 r]
end
structure GK (P:Program) (TB:Bp) (c:C) (L:W->Bool) (ok:W->Prop):Prop where
 Bz:c.Bz=true
 ask:∀ {Γ:Ctx} {d:Option Tmp} {ty:TypeId} {pos:String} {af:Array Edge} {g:Option (Nat×Bool)} {f:Env} {σ:Ab} {nx:Nat} {x a:Operand} {tys:Array TypeId} {w:W},
  ev f x=some (.o c)->ev f a=some (eT w)->ok w->AU P TB Γ ⟨d,.call ⟨.value x,#[a],tys⟩,ty,pos,af,g⟩ f σ nx (eB (L w))
theorem GK.of{P:Program}{g:FuncId}{cap:List C}{L:W->Bool}{ok:W->Prop}(a:C.CA cap=true)(h:∀w,ok w->Pure P TB g ([eT w]++cap.map .o) (eB (L w))):GK P TB (.fn g cap) L ok:=
 ⟨a,λb ha hw=>Bu (es:=[eT _]) b (by simp [HS,ha]) (by simp [E.Bz,C.Bz,a]) (h _ hw) rfl⟩
def QV(L:W->Bool)(cols:List W)(w:W)(k:Nat)(i:Nat):UInt8:=if i < k then SS (L (w++cols.getD i [])) else 0
theorem SP(L:W->Bool)(cols:List W)(w:W):(Bv cols.length λi=>Fa (QV L cols w cols.length i))=(marks L cols w).map Fa:=by
 apply lG;intro i;by_cases h:i < cols.length
 ·rw [Dh h]
  simp [marks,QV,h]
 ·rw [kE (by simp [Bv];omega),kE (by simp [marks];omega)]
theorem jk:Fa 0=[C.d (D.v (Value.int IntKind.u8 0))]:=rfl
theorem gn(L:W->Bool)(cols:List W)(w:W)(n:Nat):(Bv n λi=>Fa (QV L cols w 0 i))=List.replicate n (Fa 0):=by
 apply lG;intro i;by_cases h:i < n
 ·rw [Dh h];simp [QV,h]
 ·rw [kE (by simp [Bv];omega),kE (by simp;omega)]
theorem Yz{L:W->Bool}{cols:List W}{w x:W}{k:Nat}(b:cols[k]? = some x):(Bv cols.length λi=>Fa (if i=k then SS (L (w++x)) else QV L cols w k i))=Bv cols.length λi=>Fa (QV L cols w (k+1) i):=by
 refine CJ λi _=>?_;congr 1;unfold QV;by_cases h:i=k
 ·subst h
  rw [if_pos rfl,if_pos (by omega)];simp [b]
 ·rw [if_neg h]
  by_cases a:i < k
  ·rw [if_pos a,if_pos (by omega)]
  ·rw [if_neg a,if_neg (by omega)]
theorem MH{c:C}{L:W->Bool}{ok:W->Prop}(B:GK Tryz.prog TB c L ok)(al:Int)(t:A9)(w:W)(I:t.cols.length<=1048576)(hk:∀x∈t.cols,ok (w++x))(hb:∀x∈t.cols,w.length+x.length<=1048576) :
 Pure Tryz.prog TB 150 [Pe al c,CW t,eT w] (eT (marks L t.cols w)):=by
 have y:=Dy c B.Bz;refine eN Tryz.func150 rfl (by kernel_rfl) rfl ?_;intro Γ b;(repeat first|refine aU rfl ?_);(refine pW rfl ?_ rfl (by rfl);refine FU rfl rfl ?_);(refine Ag rfl ?_;refine Dg (λ_ _=>EI rfl rfl rfl) rfl ?_);(repeat first|refine sN rfl ?_ |refine tM rfl ?_ |refine aU rfl ?_ |refine Aa ?_);(refine pW rfl ?_ rfl (by rfl);refine IS rfl rfl (by rfl) (by rfl) (ce rfl) (by omega) (by omega) (by omega) ?_);(repeat first|refine sN rfl ?_ |refine tM rfl ?_ |refine aU rfl ?_ |refine Aa ?_);refine aB ?_;refine Aj.Cq (U:={k:Nat // k<=t.cols.length}) (λ⟨k,j⟩=>[(2,eT w),(3,.o (.ptr 0 2 0 0)),(7,.o (.arr 1 1 0 t.cols.length)),(15,.o (.d (Bd t.cols))),(16,eI .i64 t.cols.length),(17,eI .i64 k)]) (λ⟨k,j⟩=>[(1,.cells 5 1 (Bv t.cols.length λi=>Fa (QV L t.cols w k i))),(0,.cells 90 2 [[.d (iD al),c]])]) 2 (λ⟨k,j⟩=>t.cols.length - k) (⟨0,by omega⟩) [0,1] (JT b rfl rfl) (by (simp[cX,zC,b,Ni,y,gn,eC,JE,jk])) ?_;rintro⟨k,j⟩;(try dsimp only);(repeat first|refine s2 rfl λ_ r=>?_ |refine aU rfl ?_ |refine Aa ?_);(refine aC rfl ?_ ?_<;>rintro⟨⟩)
 ·have f:k < t.cols.length:=by (simp only[oZ] at *;omega)
  obtain⟨x,u⟩:=get_some (l:=t.cols) (k:=k) f;have G:=get_map (g:=BU) u;have s:=co u;have F:=hb x s;have z:=hk x s;have J:=Ji (H:=QV L t.cols w k) (q:=k) (n:=t.cols.length) f;have e:(Bv t.cols.length λi=>Fa (QV L t.cols w k i)).set (0+((k:Nat):Int).toNat) (Af (Fa (QV L t.cols w k k)) 0 (eC (eI .u8 45)))=Bv t.cols.length λi=>Fa (if i=k then 45 else QV L t.cols w k i):=LV (c:=45);have A:=Ji (H:=λi=>if i=k then 45 else QV L t.cols w k i) (q:=k) (n:=t.cols.length) f;rw [<-e] at A
  have v:(Bv t.cols.length λi=>Fa (if i=k then 45 else QV L t.cols w k i)).set (0+((k:Nat):Int).toNat) (Af (Fa (if k=k then 45 else QV L t.cols w k k)) 0 (eC (eI .u8 43)))=Bv t.cols.length λi=>Fa (if i=k then 43 else QV L t.cols w k i):=by
   refine(LV (H:=λi=>if i=k then 45 else QV L t.cols w k i) (c:=43)).trans ?_;refine CJ λi _=>?_;by_cases h:i=k<;>simp [h]
  have a:=Yz (L:=L) (w:=w) u;refine aK ?_;refine aS (aB ?_);(repeat first|((first|refine sM rfl ?_ ?_|refine s4 rfl ‹_› rfl ?_ ?_);first|exact tI|omega)|(refine Ag rfl ?_;refine gA rfl ?_;first| (refine gB (λ_ _=>B.ask rfl rfl z) ?_;intro _ r)) |refine aU rfl ?_ |refine Aa ?_);(refine aC rfl ?_ ?_<;>rintro⟨⟩)
  ·(repeat first|(refine sM rfl ?_ ?_;first|exact tI|omega) |refine t4 rfl ‹_› rfl ?_ |refine aU rfl ?_ |refine Aa ?_)
   refine⟨⟨k+1,by omega⟩,by dsimp only;(omega),[0,1],?_⟩;rw [e,v];rw [r] at a;have p:SS true=43:=rfl;have m:SS false=45:=rfl;simp only [p,m] at a;simp[cX,zC,b,Ni,y,a]
  ·refine aK ?_
   (repeat first|(refine sM rfl ?_ ?_;first|exact tI|omega) |refine aU rfl ?_ |refine Aa ?_);refine⟨⟨k+1,by omega⟩,by dsimp only;(omega),[0,1],?_⟩;rw [e];rw [r] at a;have p:SS true=43:=rfl;have m:SS false=45:=rfl;simp only [p,m] at a;simp[cX,zC,b,Ni,y,a]
 ·obtain rfl:k=t.cols.length:=by (simp only[oZ] at *;omega)
  rw [SP];refine aE ?_;(repeat first|refine tM rfl ?_|(refine Ag rfl ?_;refine gA rfl ?_;first| refine gQ (UI (marks L t.cols w) rfl rfl (by simp [marks]) (by rw [mR,kD (by simp [marks])])) (by rfl) ?_) |refine aU rfl ?_ |refine Aa ?_);refine aR ⟨_,rfl,rfl⟩
def Bh(L:W->Bool)(t:A9):Nat->List (W×Int)
 | 0=>[]
 | k+1=>if (BT (Bh L t k) (marks L t.cols (t.rows.getD k []))).isSome then Bh L t k else Bh L t k++[(marks L t.cols (t.rows.getD k []),(k:Int))]
structure TL (ok:W->Prop) (t:A9):Prop where
 ok:∀w∈t.rows,∀x∈t.cols,ok (w++x)
 rb:∀w∈t.rows,w.length<=65536
 cb:∀x∈t.cols,x.length<=65536
 rl:t.rows.length<=4096
 cl:t.cols.length<=4096
theorem Gf{c:C}{L:W->Bool}{ok:W->Prop}(r:GK Tryz.prog TB c L ok)(al:Int)(t:A9)(ht:TL ok t) :
 Spec Tryz.prog TB 148 [] 0 [Pe al c,CW t] (λx σ nx=>x=.o (.mp 0)/\nx=1/\σ=[(0,.mp (El (Bh L t t.rows.length)))]):=by
 have n:=Dy c r.Bz;have w:=ht.rl;refine eN Tryz.func148 rfl (by kernel_rfl) rfl ?_;intro Γ b;(repeat first|refine aU rfl ?_);(refine pW rfl ?_ rfl (by rfl);refine FU rfl rfl ?_);(refine Ag rfl ?_;refine Dg (λ_ _=>EI rfl rfl rfl) rfl ?_);(repeat first|refine tM rfl ?_ |refine aU rfl ?_ |refine Aa ?_);(refine pW rfl ?_ rfl (by rfl);refine HZ ?_);(repeat first|refine sN rfl ?_ |refine tM rfl ?_ |refine aU rfl ?_ |refine Aa ?_);refine aB ?_;refine Aj.Cq (U:={k:Nat // k<=t.rows.length}) (λ⟨k,e⟩=>[(2,.o (.ptr 0 2 0 0)),(3,.o (.ip (RM t))),(5,.o (.mp 1)),(13,.o (.d (Bd t.rows))),(14,eI .i64 t.rows.length),(15,eI .i64 k)]) (λ⟨k,e⟩=>[(1,.mp (El (Bh L t k))),(0,.cells 90 2 [[.d (iD al),c]])]) 2 (λ⟨k,e⟩=>t.rows.length - k) (⟨0,by omega⟩) [0,1] (JT b rfl rfl) (by (simp[cX,zC,b,n,eC,Bh,El])) ?_;rintro⟨k,e⟩;(try dsimp only);(repeat first|refine s2 rfl λ_ f=>?_ |refine aU rfl ?_ |refine Aa ?_);(refine aC rfl ?_ ?_<;>rintro⟨⟩)
 ·have p:k < t.rows.length:=by (simp only[oZ] at *;omega)
  obtain⟨x,m⟩:=get_some (l:=t.rows) (k:=k) p;have v:=get_map (g:=BU) m;have h:=co m;have u:=ht.rb x h;have z:=MH r al t x (by have:=ht.cl;omega) (ht.ok x h) (λy s=>by have:=ht.cb y s;omega)
  have q:t.rows.getD k []=x:=by simp [m]
  have a:Bh L t (k+1)=if (BT (Bh L t k) (marks L t.cols x)).isSome then Bh L t k else Bh L t k++[(marks L t.cols x,(k:Int))]:=by
   rw [Bh,q]
  refine aK ?_;refine aS (aB ?_);(repeat first|refine tM rfl ?_ |(refine s4 rfl ‹_› rfl ?_ ?_;omega) |refine s2 rfl λ_ f=>?_|(refine Ag rfl ?_;refine gA rfl ?_;first| refine gS (λ_ _=>Bu rfl rfl (by simp [E.Bz,C.CA,C.Bz,r.Bz]) z rfl) ?_|refine gQ (PE rfl rfl rfl) (by rfl) ?_) |refine aU rfl ?_ |refine Aa ?_);(refine aC rfl ?_ ?_<;>rintro⟨⟩)
  ·have j:BT (Bh L t k) (marks L t.cols x)=none:=by simpa using f
   rw [j] at a;(repeat first|refine tM rfl ?_ |refine aU rfl ?_);(refine Ag rfl ?_;refine Fo ?_ rfl (by rfl);refine cH rfl rfl rfl rfl j ?_);(repeat first|(refine sM rfl ?_ ?_;first|exact tI|omega) |refine aU rfl ?_ |refine Aa ?_);refine⟨⟨k+1,by omega⟩,by dsimp only;(omega),[0,1],?_⟩;simp[cX,zC,b,n,a]
  ·have j:(BT (Bh L t k) (marks L t.cols x)).isSome=true:=by simpa using f
   rw [if_pos j] at a;refine aK ?_;(repeat first|(refine sM rfl ?_ ?_;first|exact tI|omega) |refine aU rfl ?_ |refine Aa ?_);refine⟨⟨k+1,by omega⟩,by dsimp only;(omega),[0,1],?_⟩;simp[cX,zC,b,n,a]
 ·obtain rfl:k=t.rows.length:=by (simp only[oZ] at *;omega)
  refine aE ?_;(repeat first|refine tM rfl ?_ |refine aU rfl ?_ |refine Aa ?_);refine Aj.names [1] [(4,.o (.mp 0))] [(0,.mp (El (Bh L t t.rows.length)))] (by intro i hi;rw [b] at hi;omega) (by simp) (by simp[cX,zC,b]) (by simp[cX,zC,b]) ?_;refine aR ⟨_,rfl,rfl,rfl,rfl⟩
theorem VA(l:List (W×Int))(p:W×Int)(s:W):BT (l++[p]) s=(BT l s).or (if p.1=s then some p.2 else none):=by
 unfold BT;rw [oh]
 cases h:l.find? (λp=>decide (p.1=s)) with
 | some q=>simp
 | none=>by_cases hp:p.1=s<;>simp [hp]
theorem IV{L:W->Bool}{t:A9}{k:Nat}(h:k < t.rows.length):(AJ L t)[k]? = some (marks L t.cols (t.rows.getD k [])):=by
 simp [AJ,h]
theorem Kv(L:W->Bool)(t:A9):∀k,k<=t.rows.length->∀s,BT (Bh L t k) s=if s∈(AJ L t).take k then some (((AJ L t).idxOf s:Nat):Int) else none
 | 0,_,s=>by simp [Bh,BT]
 | k + 1, hk, s=>by
  have d:=Kv L t k (by omega);have f:=IV (L:=L) (t:=t) (k:=k) (by omega);generalize marks L t.cols (t.rows.getD k [])=x at *
  have i:Bh L t (k+1)=if (BT (Bh L t k) x).isSome then Bh L t k else Bh L t k++[(x,(k:Int))]:=by
   have c:=IV (L:=L) (t:=t) (k:=k) (by omega);rw [f] at c
   injection c with c
   rw [Bh,<-c]
  have a:∀s,s∈(AJ L t).take (k+1)↔s∈(AJ L t).take k\/s=x:=λs=>by
   rw [io,f];simp
  rw [i];by_cases g:x∈(AJ L t).take k
  ·rw [if_pos (by rw [d x,if_pos g];rfl),d s]
   by_cases b:s∈(AJ L t).take k
   ·rw [if_pos b,if_pos ((a s).2 (.inl b))]
   ·rw [if_neg b,if_neg]
    intro h
    rcases(a s).1 h with h|h
    ·exact b h
    ·subst h;exact b g
  ·rw [if_neg (by rw [d x,if_neg g];simp),VA,d s]
   by_cases b:s∈(AJ L t).take k
   ·rw [if_pos b,if_pos ((a s).2 (.inl b))];rfl
   ·rw [if_neg b]
    by_cases m:x=s
    ·subst m
     rw [if_pos ((a x).2 (.inr rfl))]
     have l:(AJ L t).idxOf x=k:=by
      have n:k < (AJ L t).length:=(am.1 f).1
      have e:AJ L t=(AJ L t).take k++x::(AJ L t).drop (k+1):=by
       rw [<-CX f,lv]
      rw [e,me,if_neg g,nR];simp;omega
     simp [l]
    ·have j:s∉(AJ L t).take (k+1):=λh=>by
      rcases(a s).1 h with h|h
      ·exact b h
      ·exact m h.symm
     rw [if_neg j];simp [m]
theorem QZ{L:W->Bool}{t:A9}{s:W}:BT (Bh L t t.rows.length) s=if s∈AJ L t then some (((AJ L t).idxOf s:Nat):Int) else none:=by
 have h:=Kv L t t.rows.length (i7 _) s;have e:(AJ L t).take t.rows.length=AJ L t:=kD (by simp [AJ]);rwa [e] at h
theorem Uy{L:W->Bool}{ls:List UInt8}{t:A9}{k j:Nat}{r:W}{l:UInt8}(d:t.rows[k]? = some r)(e:ls[j]? = some l)(m:∀w∈Ck ls (t.rows.take k),marks L t.cols w∈AJ L t)(i:∀x∈ls.take j,marks L t.cols (r++[x])∈AJ L t)
 (h:marks L t.cols (r++[l])∉AJ L t):Bb L ls t=some (r++[l]):=by
 have p:t.rows=t.rows.take k++r::t.rows.drop (k+1):=by
  rw [<-CX d,lv]
 have o:ls=ls.take j++l::ls.drop (j+1):=by
  rw [<-CX e,lv]
 have n:Ck ls t.rows=Ck ls (t.rows.take k)++((ls.take j).map (λx=>r++[x])++(r++[l])::((ls.drop (j+1)).map (λx=>r++[x])++Ck ls (t.rows.drop (k+1)))):=by
  have g:Ck ls t.rows=Ck ls (t.rows.take k++r::t.rows.drop (k+1)):=congrArg _ p;rw [g];unfold Ck;rw [List.flatMap_append,nD];have f:ls.map (λx=>r++[x])=(ls.take j++l::ls.drop (j+1)).map (λx=>r++[x]):=congrArg _ o;rw [f];simp
 unfold Bb;rw [n,oh,oh]
 have b:(Ck ls (t.rows.take k)).find? (λw=>!(AJ L t).contains (marks L t.cols w))=none:=mh.2 λw hw=>by simpa using m w hw
 have a:((ls.take j).map (λx=>r++[x])).find? (λw=>!(AJ L t).contains (marks L t.cols w))=none:=mh.2 λw hw=>by
  obtain⟨x,c,rfl⟩:=d8.1 hw
  simpa using i x c
 rw [b,a];simp [h]
def lb(l:Int):UInt8:=UInt8.ofNat (97+l.toNat)
def A2(al:Int):List UInt8:=(Ac al).map lb
def XE(o:Option W):E:=match o with
 | some w=>.t [(false,[.d (tD w)]),(false,[.d (bD true)])]
 | none=>.t [(false,[.d (tD [])]),(false,[.d (bD false)])]
theorem cG{l:Int}(a:0<=l):UInt8.ofNat (97+l).toNat=lb l:=by
 unfold lb;congr 1;omega
theorem Qv{L:W->Bool}{t:A9}{s:W}:(BT (Bh L t t.rows.length) s).isSome=true↔s∈AJ L t:=by
 rw [QZ];by_cases h:s∈AJ L t<;>simp [h]
theorem MM{ls:List UInt8}{t:A9}{k:Nat}{r:W}(h:t.rows[k]? = some r):Ck ls (t.rows.take (k+1))=Ck ls (t.rows.take k)++ls.map λl=>r++[l]:=by
 unfold Ck;rw [io,h];simp
theorem Jh{c:C}{L:W->Bool}{ok:W->Prop}(F:GK Tryz.prog TB c L ok)(al:Int)(t:A9)(ht:TL ok t)(S:∀w∈t.rows,∀l∈A2 al,∀x∈t.cols,ok (w++[l]++x)) :
 Pure Tryz.prog TB 149 [Pe al c,CW t] (XE (Bb L (A2 al) t)):=by
 have u:=Dy c F.Bz;have R:=ht.rl;have V:(Ac al).length<=6:=AK al 6;refine eN Tryz.func149 rfl (by kernel_rfl) rfl ?_;intro Γ b;(repeat first|refine aU rfl ?_);(refine pW rfl ?_ rfl (by rfl);refine FU rfl rfl ?_);(refine Ag rfl ?_;refine Dg (λ_ _=>EI rfl rfl rfl) rfl ?_);(repeat first|refine tM rfl ?_ |refine aU rfl ?_ |refine Aa ?_);(refine pW rfl ?_ rfl (by rfl);refine Ae [] rfl rfl (Gf F al t ht) ⟨rfl,by simp,by simp⟩ (by simp [Ee,E.AV,C.BH,C.AV,u,eC]) trivial ?_;rintro Y K M ⟨rfl,rfl,rfl⟩ _);(repeat first|refine sN rfl ?_ |refine tM rfl ?_ |refine aU rfl ?_ |refine Aa ?_);refine aB ?_;refine Aj.Cq (U:={k:Nat // k<=t.rows.length/\∀w∈Ck (A2 al) (t.rows.take k),marks L t.cols w∈AJ L t}) (λ⟨k,n,e⟩=>[(2,.o (.ptr 0 2 0 0)),(3,.o (.ip (RM t))),(6,.o (.mp 1)),(18,.o (.d (Bd t.rows))),(19,eI .i64 t.rows.length),(20,eI .i64 k)]) (λ⟨k,n,e⟩=>[(1,.mp (El (Bh L t t.rows.length))),(0,.cells 90 2 [[.d (iD al),c]])]) 2 (λ⟨k,n,e⟩=>t.rows.length - k) (⟨0,by omega,by simp [Ck]⟩) [0,1] (JT b rfl rfl) (by (simp[cX,zC,b,u,eC,Ab.AV,Cn,H0])) ?_;rintro⟨k,n,e⟩;(try dsimp only);(repeat first|refine s2 rfl λ_ i=>?_ |refine aU rfl ?_ |refine Aa ?_);(refine aC rfl ?_ ?_<;>rintro⟨⟩)
 ·have H:k < t.rows.length:=by (simp only[oZ] at *;omega)
  obtain⟨r,a⟩:=get_some (l:=t.rows) (k:=k) H;have Q:=get_map (g:=BU) a;have s:=co a;have P:=ht.rb r s;refine aK ?_;refine aS (aB ?_);(repeat first|refine sN rfl ?_ |refine tM rfl ?_ |(refine s4 rfl ‹_› rfl ?_ ?_;omega) |refine sP rfl (CO al) rfl ?_ |refine aU rfl ?_ |refine Aa ?_);refine aB ?_;refine Aj.Cq (U:={j:Nat // j<=(Ac al).length/\∀x∈(A2 al).take j,marks L t.cols (r++[x])∈AJ L t}) (λ⟨j,p,f⟩=>[(2,.o (.ptr 0 2 0 0)),(3,.o (.ip (RM t))),(6,.o (.mp 1)),(18,.o (.d (Bd t.rows))),(19,eI .i64 t.rows.length),(20,eI .i64 k),(8,eT r),(26,AW (Ac al)),(27,eI .i64 (Ac al).length),(28,eI .i64 j)]) (λ⟨j,p,f⟩=>[(1,.mp (El (Bh L t t.rows.length))),(0,.cells 90 2 [[.d (iD al),c]])]) 2 (λ⟨j,p,f⟩=>(Ac al).length - j) (⟨0,by omega,by simp⟩) [0,1] (JT b rfl rfl) (by (simp[cX,zC,b,u])) ?_;rintro⟨j,p,f⟩;(try dsimp only);(repeat first|refine s2 rfl λ_ i=>?_ |refine aU rfl ?_ |refine Aa ?_);(refine aC rfl ?_ ?_<;>rintro⟨⟩)
  ·have A:j < (Ac al).length:=by (simp only[oZ] at *;omega)
   obtain⟨l,J⟩:=get_some (l:=Ac al) (k:=j) A;have X:=get_map (g:=CN) J;have v:=Au (co J)
   have m:(A2 al)[j]? = some (lb l):=by simp [A2,J]
   have I:=co m;have T:=MH F al t (r++[lb l]) (by have:=ht.cl;omega) (λx a=>S r s _ I x a) (λy N=>by have:=ht.cb y N;simp;omega);refine aK ?_;refine aS (aB ?_);(repeat first|(refine sM rfl ?_ ?_;first|exact tI|omega|simp only[oZ] at *;omega) |(refine s4 rfl ‹_› rfl ?_ ?_;omega) |refine sP rfl (Gc l v.1 (by omega)) rfl ?_|(refine Ag rfl ?_;refine gA rfl ?_;first| refine gS (λ_ _=>Zk rfl (by omega) (by omega)) ?_) |refine aU rfl ?_ |refine Aa ?_);rw [cG v.1];(repeat first|refine tM rfl ?_ |refine s2 rfl λ_ i=>?_|(refine Ag rfl ?_;refine gA rfl ?_;first| refine gS (λ_ _=>Bu rfl rfl (by simp [E.Bz,C.CA,C.Bz,F.Bz]) T rfl) ?_|refine gQ (PE rfl rfl rfl) (by rfl) ?_) |refine aU rfl ?_ |refine Aa ?_);(refine aC rfl ?_ ?_<;>rintro⟨⟩)
   ·have hno:marks L t.cols (r++[lb l])∉AJ L t:=λh=>by
     rw [Qv.2 h] at i;cases i
    (repeat first|refine tM rfl ?_ |refine aU rfl ?_ |refine Aa ?_);refine aR ⟨_,rfl,?_⟩;rw [Uy a m e f hno];rfl
   ·have q:marks L t.cols (r++[lb l])∈AJ L t:=Qv.1 (by simpa using i)
    have B:∀x∈(A2 al).take (j+1),marks L t.cols (r++[x])∈AJ L t:=λx a=>by
     rw [io,m] at a
     rcases em.1 a with a|a
     ·exact f x a
     ·simp at a;subst a;exact q
    refine aK ?_;(repeat first|(refine sM rfl ?_ ?_;first|exact tI|omega) |refine aU rfl ?_ |refine Aa ?_);refine⟨⟨j+1,by omega,B⟩,by dsimp only;(omega),[0,1],?_⟩;simp[cX,zC,b,u]
  ·obtain rfl:j=(Ac al).length:=by (simp only[oZ] at *;omega)
   have z:∀w∈Ck (A2 al) (t.rows.take (k+1)),marks L t.cols w∈AJ L t:=λw hw=>by
    rw [MM a] at hw
    rcases em.1 hw with hw|hw
    ·exact e w hw
    ·obtain⟨x,G,rfl⟩:=d8.1 hw
     exact f x (by rw [kD (by simp [A2])];exact G)
   refine aE ?_;(repeat first|(refine sM rfl ?_ ?_;first|exact tI|omega) |refine aU rfl ?_ |refine Aa ?_);refine⟨⟨k+1,by omega,z⟩,by dsimp only;(omega),[0,1],?_⟩;simp[cX,zC,b,u]
 ·obtain rfl:k=t.rows.length:=by (simp only[oZ] at *;omega)
  have hno:Bb L (A2 al) t=none:=mh.2 λw hw=>by
   have:=e w (by rw [kz];exact hw)
   simpa using this
  refine aE ?_;(repeat first|refine tM rfl ?_ |refine aU rfl ?_ |refine Aa ?_);refine aR ⟨_,rfl,?_⟩;rw [hno];rfl
theorem Qk(l:List W)(h:l.length<=1048576):Spec Tryz.prog TB 176 [] 0 [Bx l] (λx σ nx=>x=.o (.arr 0 1 0 l.length)/\nx=1/\σ=[(0,.cells 9 1 (l.map AM))]):=by
 refine eN Tryz.func176 rfl (by kernel_rfl) rfl ?_;intro Γ b;(repeat first|refine aU rfl ?_);(refine Ag rfl ?_;refine Dg (λ_ _=>Jz rfl) rfl ?_);(repeat first|refine tM rfl ?_ |refine aU rfl ?_ |refine Aa ?_);(refine pW rfl ?_ rfl (by rfl);refine YE rfl ?_;intro e c);(repeat first|refine Aa ?_);(refine aC rfl ?_ ?_<;>rintro⟨⟩)
 ·obtain rfl:l=[]:=by simpa using c rfl
  (repeat first|refine aU rfl ?_);(refine pW rfl ?_ rfl (by rfl);refine Js 1 9 ?_);(repeat first|refine Aa ?_);refine aR ⟨_,rfl,rfl,rfl,rfl⟩
 ·refine aK ?_
  (repeat first|refine aU rfl ?_);(refine pW rfl ?_ rfl (by rfl);refine Bg rfl rfl rfl rfl (by simp) (by rfl) (by rfl) (by rfl) (by rfl) ?_);(repeat first|refine tM rfl ?_);(refine pW rfl ?_ rfl (by rfl);refine Aw rfl rfl rfl (by first| (simp;done)|(simp;(omega))) rfl (by intro r d;simp at d;obtain⟨a,_,rfl⟩:=d;rfl) (by rfl) (ce rfl) (by simp;omega) ?_);(repeat first|refine tM rfl ?_ |refine Aa ?_);refine Aj.names [1] [(2,.o (.arr 0 1 0 l.length))] [(0,.cells 9 1 (l.map AM))] (by intro i hi;rw [b] at hi;omega) (by simp) (by simp[cX,zC,b]) (by simp[cX,zC,b]) ?_;refine aR ⟨_,rfl,rfl,rfl,rfl⟩
theorem XT(l:List W)(s:W):Pure Tryz.prog TB 220 [Bx l,eT s] (eI .i64 (if s∈l then (l.idxOf s:Int) else -1)):=by
 refine eN Tryz.func220 rfl (by kernel_rfl) rfl ?_;intro Γ a;refine Aj.bound 0 rfl λj=>?_;have o:=j (l.map BU) .refl;(repeat first|refine sN rfl ?_ |refine tM rfl ?_ |refine aU rfl ?_ |refine Aa ?_);refine aB ?_;refine Aj.Cq (U:={k:Nat // k<=l.length/\s∉l.take k}) (λ⟨k,hk,b⟩=>[(0,Bx l),(1,eT s),(7,eI .i64 l.length),(8,eI .i64 k)]) (λ⟨k,hk,b⟩=>[]) 0 (λ⟨k,hk,b⟩=>l.length - k) (⟨0,by omega,by simp⟩) [] (JT a rfl rfl) (by (simp[cX,zC,a])) ?_;rintro⟨k,hk,b⟩;(try dsimp only);(repeat first|refine s2 rfl λ_ c=>?_ |refine aU rfl ?_ |refine Aa ?_);(refine aC rfl ?_ ?_<;>rintro⟨⟩)
 ·have h:k < l.length:=by (simp only[oZ] at *;omega)
  obtain⟨x,d⟩:=get_some (l:=l) (k:=k) h;have m:=get_map (g:=BU) d;refine aK ?_;refine aS (aB ?_);(repeat first|refine tM rfl ?_ |(refine s4 rfl ‹_› rfl ?_ ?_;omega) |refine s2 rfl λ_ c=>?_ |refine aU rfl ?_ |refine Aa ?_);(refine aC rfl ?_ ?_<;>rintro⟨⟩)
  ·have i:s=x:=by (simp only[oZ] at *;omega)
   subst i;(repeat first|refine tM rfl ?_ |refine aU rfl ?_ |refine Aa ?_);refine aR ⟨_,rfl,?_⟩;have n:s∈l:=co d
   have hi:l.idxOf s=k:=by
    have e:l=l.take k++s::l.drop (k+1):=by rw [<-CX d,lv]
    rw [e,me,if_neg b,nR];simp;omega
   rw [if_pos n,hi]
  ·have i:¬s=x:=by simpa using c
   have f:s∉l.take (k+1):=by
    rw [io,d];simp [b,i]
   refine aK ?_;(repeat first|(refine sM rfl ?_ ?_;first|exact tI|simp only[oZ] at *;omega) |refine aU rfl ?_ |refine Aa ?_);refine⟨⟨k+1,by omega,f⟩,by dsimp only;(omega),[],?_⟩;simp[cX,zC,a]
 ·obtain rfl:k=l.length:=by (simp only[oZ] at *;omega)
  rw [kz] at b;refine aE ?_;(repeat first|refine tM rfl ?_ |refine aU rfl ?_ |refine Aa ?_);refine aR ⟨_,rfl,?_⟩;rw [if_neg b]
theorem KQ(l:List W)(s:W):Pure Tryz.prog TB 146 [Bx l,eT s] (eB (decide (s∈l))):=by
 refine eN Tryz.func146 rfl (by kernel_rfl) rfl ?_;intro Γ b;(repeat' first|refine tA rfl ?_ |refine s2 rfl λ_ a=>?_ |refine sP rfl (XT l s) rfl ?_ |refine aU rfl ?_ |refine Aa ?_|(refine aC rfl ?_ ?_<;>rintro⟨⟩)|refine aK ?_|refine aE ?_|refine aB ?_|refine aR ⟨_,rfl,?_⟩)
 all_goals (show E.o _=E.o _;congr;subst a;by_cases h:s∈l<;>simp [h])
def Sh(t:A9)(fQ:W):Option A9:=if t.cols.length=20\/fQ∈t.cols then none else some ⟨t.rows,t.cols++[fQ]⟩
def KR(o:Option A9):E:=match o with
 | some t=>.t [(true,[.d (Bd t.rows),.d (Bd t.cols)]),(false,[.d (bD true)])]
 | none=>.t [(true,[.d (.l []),.d (.l [])]),(false,[.d (bD false)])]
end Go.Am
namespace Go.Am
set_option linter.unusedVariables false
def AI(a:AY):Int->W->Int
 | q,[]=>q
 | q,c::w=>AI a (Bj a q.toNat ((c.toNat:Int) - 97)) w
def LA(a:AY)(w:W):Bool:=a.ac.getD (AI a 0 w).toNat false
theorem Cg(a:AY):∀(u w:W) (q:Int),AI a q (u++w)=AI a (AI a q u) w
 | [],_,_=>rfl
 | c::u,w,q=>Cg a u w _
theorem Ff{l:Int}(b:0<=l)(a:l < 6):((lb l).toNat:Int) - 97=l:=by
 unfold lb
 have:(97+l.toNat) % 256=97+l.toNat:=by omega
 simp [this];omega
theorem GW{al:Int}{c:UInt8}(h:c∈A2 al):0<=(c.toNat:Int) - 97/\(c.toNat:Int) - 97 < 6:=by
 obtain⟨l,a,rfl⟩:=d8.1 h;have b:=Au a;rw [Ff b.1 (by omega)];omega
theorem DW{a:AY}(ha:AL a=true){al:Int}:∀(w:W) (q:Int),AD (A2 al) w->0<=q/\q < a.nx.length->0<=AI a q w/\AI a q w < a.nx.length
 | [],q,_,b=>b
 | c::w,q,hw,b=>by
  have d:=GW (hw c (by simp));have f:=DA ha (q:=q.toNat) (by omega) d.1 d.2;exact DW ha w _ (λx e=>hw x (by simp [e])) f
end Go.Am
namespace Go.Am
open Go
set_option linter.unusedVariables false
theorem QE{a b:Nat}(ha:a < 2 ^ 62)(hb:b < 2 ^ 62):Ew .i64 a b=((a &&& b:Nat):Int):=by
 have d:a &&& b<=a:=Nat.and_le_left;unfold Ew
 have c:(BitVec.ofInt IntKind.i64.bits (a:Int) &&& BitVec.ofInt IntKind.i64.bits (b:Int)).toNat=a &&& b:=by
  have e:IntKind.i64.bits=64:=rfl;rw [e];simp only [BitVec.toNat_and,BitVec.ofInt_natCast,BitVec.toNat_ofNat];rw [kW (by omega),kW (by omega)]
 rw [c];exact IntWalk.i64_in _ (by omega)
theorem XH(s n:Nat):((s:Nat):Int).fdiv (2 ^ n)=((s / 2 ^ n:Nat):Int):=by
 have h:(0:Int)<=2 ^ n:=Int.le_of_lt (Int.pow_pos (by omega));rw [Int.fdiv_eq_ediv_of_nonneg _ h]
 push_cast
 rfl
theorem Jb{s n:Nat}(d:s < 2 ^ 62)(f:n < 64):Eg (s:Nat) n=s.testBit n:=by
 unfold Eg
 have e:min n 64=n:=by omega
 rw [e,XH];have g:s / 2 ^ n<=s:=Nat.div_le_self _ _;have c:=QE (a:=s / 2 ^ n) (b:=1) (by omega) (by omega);rw [show ((1:Nat):Int)=1 from rfl] at c;rw [c,nK,Nat.and_one_is_mod];congr 1;rw [eq_iff_iff];omega
theorem bX{s a:Nat}:s &&& a=s↔∀n,s.testBit n=true->a.testBit n=true:=by
 constructor
 ·intro h n c
  have:=congrArg (·.testBit n) h;simp only [nq,c,lX] at this;exact this
 ·intro h
  apply lT;intro n;rw [nq];cases b:s.testBit n
  ·rfl
  ·rw [h n b];rfl
abbrev Wd:=List UInt8
def FD(c:UInt8):Bool:=decide (97<=c.toNat/\c.toNat < 103)
def Fw(w:Wd):Bool:=decide (w.length<=50000) && w.all FD
def IY(w:Wd):Nat:=w.foldl (λs c=>s ||| 2 ^ (c.toNat - 97)) 0
def IK(al:Int)(c:UInt8):Bool:=FD c && Eg al (c.toNat - 97)
def within(w:Wd)(al:Int):Bool:=decide (w.length<=50000) && (BO al && w.all (IK al))
theorem Qx(n:Nat):∀(w:Wd) (s:Nat),(w.foldl (λs c=>s ||| 2 ^ (c.toNat - 97)) s).testBit n=(s.testBit n || w.any λc=>decide (c.toNat - 97=n))
 | [],s=>by simp
 | c::w,s=>by
  rw [mq,Qx n w,lZ,mf,List.any_cons,Bool.or_assoc]
theorem RH(w:Wd)(n:Nat):(IY w).testBit n=w.any λc=>decide (c.toNat - 97=n):=by
 unfold IY;rw [Qx];simp
theorem PL:∀ {w:Wd} {s:Nat},w.all FD=true->s < 64->w.foldl (λs c=>s ||| 2 ^ (c.toNat - 97)) s < 64
 | [],s,_,a=>a
 | c::w,s,h,a=>by
  simp only [List.all_cons,d5] at h;rw [mq];refine PL h.2 ?_;have b:=h.1;unfold FD at b;simp only [decide_eq_true_eq] at b;have d:2 ^ (c.toNat - 97) < 2 ^ 6:=ms (by omega) (by omega);exact mc (n:=6) a d
theorem bR{w:Wd}{al:Int}(hw:w.all FD=true)(ha:BO al=true):decide (Ew .i64 (IY w:Nat) al=(IY w:Nat))=w.all (IK al):=by
 have j:IY w < 64:=PL hw (by omega);unfold BO at ha;simp only [decide_eq_true_eq] at ha
 obtain⟨a,rfl⟩:∃a:Nat,al=a:=⟨al.toNat,by omega⟩
 rw [QE (by omega) (by omega)];rw [lV,decide_eq_true_eq,f7]
 have i:((IY w &&& a:Nat):Int)=(IY w:Nat)↔IY w &&& a=IY w:=by omega
 rw [i,bX];rw [f7] at hw;constructor
 ·intro h c e
  have b:=hw c e;unfold IK;rw [b,lX];unfold FD at b;simp only [decide_eq_true_eq] at b;rw [Jb (by omega) (by omega)];refine h _ ?_;rw [RH,m7];exact⟨c,e,by simp⟩
 ·intro h n g
  rw [RH,m7] at g;obtain⟨c,e,d⟩:=g;simp only [decide_eq_true_eq] at d;have b:=hw c e;have f:=h c e;unfold IK at f;rw [b,lX] at f;unfold FD at b;simp only [decide_eq_true_eq] at b;rw [Jb (by omega) (by omega),d] at f;exact f
theorem TG{w:Wd}{al:Int}(h:w.all (IK al)=true):w.all FD=true:=by
 rw [f7] at *;intro c a;have:=h c a;unfold IK at this;simp only [d5] at this;exact this.1
end Go.Am
namespace Go.Proofs.YtgpbfllcjdfelaaGreatDoor
open Go Go.Am Go.ChangeShapes Go.WideShapes Go.ChangeAt Go.RowKit
def WQ(l:List Value):List Int:=l.map λv=>match v with|.int _ n=>n|_=>0
theorem UX{P:Program}{W:World}{name:String}{g:Nat}{t e:TypeId}{n:Nat}{zs:List Int}{fuel:Nat}{cs:Array Value}{p:List MemPlace}(i:P.globalNamed name=some g)(ht:P.underlying t=some (.array n e))(j:P.underlying e=some (.int .u8))(d:P.cellsOf e=1)(b:P.cellsOf t=n)
 (a:W.var? P name=some cs) (k:DataW.trod (λ_=>()) P W 0 (λ_=>true) false fuel t cs.toList=some (Lib.tabData .u8 zs,p)):∃T fr,W.heap[g]? = some (.cells (zs.map λz=>Value.int .u8 z).toArray T fr):=by
 have h:=Lib.cells_of_tab ht j d b k;unfold World.var? at a;rw [i] at a;simp only [mu] at a;split at a
 ·rename_i c T fr f
  injection a with a
  subst a;refine⟨T,fr,?_⟩;rw [f,<-h]
 ·cases a
theorem tables {W:World} {rest:List (String×DataW Unit)} (h:laidMet Tryz.prog (("math/bits.deBruijn32tab",Rows.laid_math_bits_deBruijn32tab)::("math/bits.deBruijn64tab",Rows.laid_math_bits_deBruijn64tab)::rest) W):∃tabs:List (Nat×Obj),FA ⟨tabs,none⟩/\∀x∈(⟨tabs,none⟩:Bp),below W x.1/\W.heap[x.1]? = some x.2:=by
 obtain⟨ps,⟨I,y,u,K,G,B,j,f,c,l,⟨H,w,t,J,F,A,g,e,b,k,_,_⟩,_⟩,_,_⟩:=h
 have p:Tryz.prog.globalNamed "math/bits.deBruijn32tab" = some 1:=by kernel_rfl
 have o:Tryz.prog.globalNamed "math/bits.deBruijn64tab" = some 2:=by kernel_rfl
 obtain rfl:=Option.some.inj (p.symm.trans j);obtain rfl:=Option.some.inj (o.symm.trans g)
 have s:(Tryz.prog.globals[1]?).map (·.type)=some 283:=by kernel_rfl
 have l1:(Tryz.prog.globals[2]?).map (·.type)=some 284:=by kernel_rfl
 obtain rfl:=Option.some.inj (s.symm.trans f);obtain rfl:=Option.some.inj (l1.symm.trans e);obtain⟨T0,n,r⟩:=UX (zs:=WQ BY) p Tryz.underlying283 Tryz.underlying5 (by kernel_rfl) (by kernel_rfl) c l;obtain⟨T1,m,q⟩:=UX (zs:=WQ Bm) o Tryz.underlying284 Tryz.underlying5 (by kernel_rfl) (by kernel_rfl) b k;refine⟨[(1,.cells ((WQ BY).map λz=>Value.int .u8 z).toArray T0 n),(2,.cells ((WQ Bm).map λz=>Value.int .u8 z).toArray T1 m)],⟨⟨⟨_,_,_,ml,λi v d=>?_⟩,by decide⟩,⟨⟨_,_,_,kP _ ml,λi v d=>?_⟩,by decide⟩⟩,?_⟩
 ·have:BY=(WQ BY).map λz=>Value.int .u8 z:=rfl
  rw [lI,<-this];exact d
 ·have:Bm=(WQ Bm).map λz=>Value.int .u8 z:=rfl
  rw [lI,<-this];exact d
 ·intro x a
  have a:x∈[_,_]:=a;simp only [kw,mZ,or_false] at a
  rcases a with rfl|rfl
  ·exact⟨(kM.1 r).1,r⟩
  ·exact⟨(kM.1 q).1,q⟩
end Go.Proofs.YtgpbfllcjdfelaaGreatDoor
