/-
  A visit of the program's search.
-/
import Derived.Test.YtgpbfllcjdfelaaGreatDoorPart21
import Derived.Test.YtgpbfllcjdfelaaGreatDoorPart15
set_option linter.all false
namespace Go.Am
open Go Go.Proofs
set_option maxHeartbeats 1000000
set_option maxRecDepth 4000
attribute [local irreducible] AO BS Lex A4 Au Spec
variable {TB:Bi}
theorem gf(p:Nat->Prop):(∀i,i < 5->p i)↔p 0/\p 1/\p 2/\p 3/\p 4:=by
 constructor
 ·intro h;exact⟨h 0 (by omega),h 1 (by omega),h 2 (by omega),h 3 (by omega),h 4 (by omega)⟩
 ·rintro⟨e,d,c,b,a⟩ i hi
  have:i=0\/i=1\/i=2\/i=3\/i=4:=by omega
  rcases this with rfl|rfl|rfl|rfl|rfl<;>assumption
theorem db{goal:Int->Bool}{seen:List Bool}{nodes:List Int}{k:Nat}{x:Int}(h:nodes[k]? = some x):RE goal seen (nodes.take (k+1))=TE goal (RE goal seen (nodes.take k)) x:=by
 unfold RE;rw [Ue h]
theorem Tn{l:List Bool}{n:Int}:(l.map AP).set (0+n.toNat) (Ae (AP false) 0 (eC (eB true)))=(l.set n.toNat true).map AP:=by
 simp [Ae,eC,oU]
abbrev EU(N:Nat)(gG:FuncId)(capsG:List C)(seen:List Bool)(q:Nat)(steps:List LN):Ab:=
 [(0,.cells 27 1 [[.arr 1 1 0 N]]),(1,.cells 4 1 (seen.map AP)),(2,.cells 154 1 [[.fn gG capsG]]),(3,.cells 216 1 [[.arr q 3 0 steps.length]]),(q,.cells 218 3 (steps.map N0))]
theorem TD{goal:Int->Bool}{gG:FuncId}{capsG:List C}{N:Nat}(M:∀n:Int,0<=n/\n < N->Pure Tryz.prog TB gG ([eI .i64 n]++capsG.map .o) (eB (goal n)))(G:C.Cv capsG=true)(d:∀r,C.BK r capsG=capsG)
 (seen:List Bool) (steps:List LN) (p l:Int) (nodes:List Int) (R:seen.length=N) (T:N<=1048576) (Q:steps.length<=1048576) (u:∀n∈nodes,0<=n/\n < N) :
 Spec Tryz.prog TB 214 (EU N gG capsG seen 4 steps) 5 [eI .i64 p,eI .i64 l,AH nodes,.o (.ptr 0 1 0 0),.o (.ptr 2 1 0 0),.o (.ptr 3 1 0 0)]
  (λx σ nx=>x=eB (RE goal seen nodes).found/\∃q,(q=4/\nx=5\/q=5/\nx=6)/\σ=EU N gG capsG (RE goal seen nodes).seen q (Eh steps p l (RE goal seen nodes).fresh)):=by
 have s:∀k,iT goal N seen (nodes.take k) (RE goal seen (nodes.take k)):=λk=>Vp R λn F=>u n (nE F);refine eN Tryz.func214 rfl (by kernel_rfl) rfl ?_;intro Γ a;refine Au.bound 2 rfl λK=>?_;have S:=K _ .refl;rw [f7] at S;(repeat first|refine tM rfl ?_ |refine aU rfl ?_ |refine Aa ?_);(refine pW rfl ?_ rfl (by rfl);refine HU 1 3 ?_);(repeat first|refine sN rfl ?_ |refine tM rfl ?_ |refine aU rfl ?_ |refine Aa ?_);refine aB ?_;refine Au.BV (U:={k:Nat // k<=nodes.length}) (λ⟨k,hk⟩=>[(0,eI .i64 p),(1,eI .i64 l),(3,.o (.ptr 0 1 0 0)),(4,.o (.ptr 2 1 0 0)),(5,.o (.ptr 3 1 0 0)),(10,.o (.arr 5 1 0 (RE goal seen (nodes.take k)).fresh.length)),(11,eB (RE goal seen (nodes.take k)).found),(14,AH nodes),(15,eI .i64 nodes.length),(16,eI .i64 k)]) (λ⟨k,hk⟩=>EU N gG capsG (RE goal seen (nodes.take k)).seen 4 steps++[(5,.cells 3 1 ((RE goal seen (nodes.take k)).fresh.map Az))]) 6 (λ⟨k,hk⟩=>nodes.length - k) (⟨0,by omega⟩) [0,1,2,3,4,5] (IS a rfl rfl) (by (simp[cX,zC,a,EU,RE,d])) ?_;rintro⟨k,hk⟩;(try dsimp only);have i:=s k;have c:=λx=>db (goal:=goal) (seen:=seen) (nodes:=nodes) (k:=k) (x:=x);generalize L:RE goal seen (nodes.take k)=v at *;(repeat first|refine s2 rfl λ_ f=>?_ |refine aU rfl ?_ |refine Aa ?_);(refine aC rfl ?_ ?_<;>rintro⟨⟩)
 ·obtain⟨x,z⟩:=get_some (l:=nodes) (k:=k) (by (simp only[oZ] at *;omega))
  have P:=get_map (g:=Br) z;have m:=u x (ce z);have c:=c x z;have A:=i.len;obtain⟨b,hb⟩:=get_some (l:=v.seen) (k:=x.toNat) (by omega)
  have J:(v.seen.map AP)[0+x.toNat]? = some (AP b):=by simp [hb]
  have B:sn v.seen x=b:=by simp [sn,List.getD,hb]
  have h:v.fresh.length<=N:=by
   refine Fk _ _ i.nd λy w=>u y (nE ((i.fr y).1 w).1)
  unfold TE at c;rw [B] at c;obtain⟨vse,vfr,vfd⟩:=v;simp only at c A hb J h;refine aK ?_;refine aS (aB ?_);(repeat first|((first|refine sM rfl ?_ ?_|refine s4 rfl ‹_› rfl ?_ ?_);first|exact tI|omega) |refine s2 rfl λ_ f=>?_ |refine aU rfl ?_ |refine Aa ?_);(refine aC rfl ?_ ?_<;>rintro⟨⟩)
  ·have I:b=false:=by simpa using f
   subst I;rw [if_neg (by simp)] at c;(repeat first|(refine sA rfl ?_ ?_;first|exact tI|omega) |refine t4 rfl ‹_› rfl ?_ |refine aU rfl ?_ |refine Aa ?_);(refine pW rfl ?_ rfl (by rfl);refine Aj rfl rfl rfl (by first| (simp;done)|(simp;(omega))) rfl (by intro r t;simp at t;subst t;rfl) (by rfl) (co rfl) (by simp;omega) ?_);(repeat first|(refine sX rfl ?_ ?_;first|exact tI|simp only[oZ] at *;omega) |refine s3 rfl ?_ ?_<;>rintro rfl |refine aU rfl ?_ |refine Aa ?_);(repeat first|(refine sC rfl (M x m) ?_;intro _ f)|(refine Af rfl ?_;refine gA rfl ?_;first| refine gQ (Rn rfl rfl rfl rfl) (by rfl) ?_))
   ·refine⟨⟨k+1,by (simp only[oZ] at *;omega)⟩,by dsimp only;((simp only[oZ] at *;omega)),[0,1,2,3,4,6],?_⟩
    rw [Tn];simp[cX,zC,a,c,EU,d,gf]
   ·(repeat first|(refine sA rfl ?_ ?_;first|exact tI|simp only[oZ] at *;omega)|(refine Af rfl ?_;refine gA rfl ?_;first| (refine gB (λ_ _=>A6 rfl rfl (by simp [E.Bt,C.Bt,G]) (M x m) rfl) ?_;intro _ f)) |refine aU rfl ?_ |refine Aa ?_)
    refine⟨⟨k+1,by (simp only[oZ] at *;omega)⟩,by dsimp only;((simp only[oZ] at *;omega)),[0,1,2,3,4,6],?_⟩;rw [Tn];simp[cX,zC,a,c,EU,d,gf,f]
  ·have H:b=true:=by simpa using f
   subst H;rw [if_pos rfl] at c;refine aK ?_;(repeat first|(refine sM rfl ?_ ?_;first|exact tI|simp only[oZ] at *;omega) |refine aU rfl ?_ |refine Aa ?_);refine⟨⟨k+1,by (simp only[oZ] at *;omega)⟩,by dsimp only;((simp only[oZ] at *;omega)),[0,1,2,3,4,5],?_⟩;simp[cX,zC,a,c,EU,d,gf]
 ·obtain rfl:k=nodes.length:=by (simp only[oZ] at *;omega)
  rw [i9] at L;subst L;refine aE ?_
  have h:(RE goal seen nodes).fresh.length<=N:=by
   have i:=s nodes.length;rw [i9] at i;refine Fk _ _ i.nd λy w=>u y ((i.fr y).1 w).1
  generalize RE goal seen nodes=vv at *;obtain⟨vse,vfr,vfd⟩:=vv;have h:vfr.length<=N:=h;(repeat first|refine tM rfl ?_ |refine s2 rfl λ_ f=>?_ |refine aU rfl ?_ |refine Aa ?_);(refine aC rfl ?_ ?_<;>rintro⟨⟩)
  ·have j:vfr≠[]:=λe=>by rw [e] at f;simp at f
   refine Au.freeze [5] [(0,eI .i64 p),(1,eI .i64 l),(5,.o (.ptr 3 1 0 0)),(10,AH vfr),(11,eB vfd)] ⟨⟨_,rfl,.Bn⟩,⟨_,rfl,.Bn⟩,⟨_,rfl,.Bn⟩,⟨_,rfl,.o (.full (by simp) rfl (by simp [d4]) (by simp))⟩,⟨_,rfl,.Bn⟩,trivial⟩ ?_;(repeat first|refine tA rfl ?_|(refine Af rfl ?_;refine gA rfl ?_;first| refine gS (λ_ _=>AF rfl rfl (by rfl) (by rfl)) ?_) |refine aU rfl ?_);(refine pW rfl ?_ rfl (by rfl);refine Aj rfl rfl rfl (by first| (simp;done)|(simp;(omega))) rfl (by intro r t;simp at t;subst t;rfl) (by rfl) (co rfl) (by simp;omega) ?_);(repeat first|refine tX rfl ?_ |refine aU rfl ?_ |refine Aa ?_);refine Au.names [0,1,2,3,4,6] [(9,eB vfd)] (EU N gG capsG vse 5 (Eh steps p l vfr)) (by rw [a];decide) (by decide) (by simp[cX,zC,a]) (by simp[cX,zC,a,EU,d,Eh,j,CC,Ae,eC]) ?_;refine aR ⟨_,rfl,rfl,5,.inr ⟨rfl,rfl⟩,rfl⟩
  ·have j:vfr=[]:=m7.1 (by (simp only[oZ] at *;omega))
   subst j;refine aK ?_;(repeat first|refine tM rfl ?_ |refine aU rfl ?_ |refine Aa ?_);refine Au.names [0,1,2,3,4] [(9,eB vfd)] (EU N gG capsG vse 4 steps) (by rw [a];decide) (by decide) (by simp[cX,zC,a]) (by simp[cX,zC,a,EU,d]) ?_;refine aR ⟨_,rfl,rfl,4,.inl ⟨rfl,rfl⟩,by simp [Eh]⟩
theorem aT{P:Program}{Γ:Ctx}{d:Option Tmp}{ty:TypeId}{pos:String}{af:Array Edge}{g:Option (Nat×Bool)}{f:Env}{σ:Ab}{nx:Nat}{K:E->Ab->Nat->Prop}{T:TypeId}(k e:Nat)[r:BU P T [.slice none 0 0]]
 (u:K (.o (.ptr (nx+1) 1 0 0)) ((nx+1,.cells T 1 [[.arr nx k 0 0]])::(nx,.cells e k [])::σ) (nx+2)):BS P TB Γ ⟨d,.alloc T,ty,pos,af,g⟩ f σ nx K:=
 Di λV ρ z y x=>by
  subst x;obtain⟨i,zv,hi,b,a⟩:=Hs r.out
  have h:zv.cells = #[.slice none 0 0]:=by have:=congrArg List.toArray a;simpa using this
  obtain⟨m,p⟩:=y.alloc (c:=0) (nl:=True) (w:=V.w) (ob:=.cells e k []) rfl rfl rfl rfl (io _) (λ_ _=>rfl) (.inl ⟨by simp [Aw],rfl⟩)
  have t:C0 (Aw V V.w.heap.size 0 True V.w) [.arr V.nx k 0 0] zv.cells:=by
   rw [h];refine⟨rfl,λj c v l q=>?_⟩
   match j with
   | 0=>simp at l q;subst l q;exact AA.nil (by simp [Aw]) (by simp [Aw])
   | j+1=>simp at l
  obtain⟨n,s⟩:=Qf m (T:=T) t;refine⟨.pointer (some ⟨V.w.heap.size,0,none⟩),_,_,_,?_,p.trans s,n,?_,u⟩
  ·simp [execOp,Instr.alloc,zeroValue,typeInfo,hi,b,newVar,newRow,Aw,go_sem]
  ·exact Mg
theorem PI(r:Nat->Nat):∀(l m:List E),Em r (l++m)=Em r l++Em r m
 | [],m=>rfl
 | e::l,m=>by simp [Em,PI r l m]
theorem NK(r:Nat->Nat):∀(l:List C),Em r (l.map .o)=(C.BK r l).map .o
 | []=>rfl
 | c::l=>by simp [Em,C.BK,E.AX,NK r l]
def Ze(P:Program)(TB:Bi)(T:TypeId)(g:Gr)(gN:FuncId)(capsN:List C):Prop:=
 ∀(node l:Int) (outs:List Int),0<=node/\node < g.N->l∈g.ls->outs.length<=1099511627776->
  Spec P TB gN [(0,.cells T 1 (outs.map Az))] 1 ([eI .i64 node,eI .i64 l,.o (.arr 0 1 0 outs.length)]++capsN.map .o) (λx σ nx=>x=.o (.arr 1 1 0 (outs++g.succ node l).length)/\nx=2/\σ=[(1,.cells T 1 ((outs++g.succ node l).map Az))])
theorem Qo{g:Gr}(S:LB g)(hN:g.N<=1048576)(Z:∀l∈g.ls,0<=l/\l < 6)(hll:g.ls.length<=6)(hsl:∀(node l:Int),0<=node/\node < g.N->l∈g.ls->(g.succ node l).length<=g.N)
 {gN gG:FuncId} {capsN capsG:List C} (hNx:Ze Tryz.prog TB 3 g gN capsN) (hG:∀n:Int,0<=n/\n < g.N->Pure Tryz.prog TB gG ([eI .i64 n]++capsG.map .o) (eB (g.goal n)))
 (hcG:C.Cv capsG=true) (f:∀r,C.BK r capsG=capsG) (p:∀r,C.BK r capsN=capsN) {r:Option (List Int)} (hr:CP g r) :
 Pure Tryz.prog TB 135 [eI .i64 g.N,AH [g.s0],AH g.ls,.o (.fn gN capsN),.o (.fn gG capsG)] (ZF r):=by
 refine eN Tryz.func135 rfl (by kernel_rfl) rfl ?_;intro Γ b;(repeat first|refine aU rfl ?_);(refine pW rfl ?_ rfl (by rfl);refine Db rfl rfl ?_);(repeat first|refine tM rfl ?_ |refine aU rfl ?_ |refine Aa ?_);(refine pW rfl ?_ rfl (by rfl);refine I9 rfl rfl (by rfl) (by rfl) (co rfl) (by omega) (by omega) (by omega) ?_)
 iterate 4 (first|refine tM rfl ?_ |refine aU rfl ?_ |refine Aa ?_)
 (refine pW rfl ?_ rfl (by rfl);refine aT 3 218 ?_);(repeat first|refine tM rfl ?_ |refine aU rfl ?_ |refine Aa ?_);have L:=Vp (goal:=g.goal) (N:=g.N) (seen:=List.replicate g.N false) (nodes:=[g.s0]) (by simp) (by intro n z;simp at z;subst z;exact S.s0);have B:=TD (TB:=TB) hG hcG f (List.replicate g.N false) [] (-1) 0 [g.s0] (by simp) hN (by simp) (by intro n z;simp at z;subst z;exact S.s0);(refine pW rfl ?_ rfl (by rfl);refine Ag [2,1,0,4,3] rfl rfl B ⟨rfl,by decide,by decide⟩ rfl (by simp[cX,zC,b,EU,f,Ae,eC]) ?_;rintro x0 V X ⟨rfl,q,M,rfl⟩ _);generalize hV:RE g.goal (List.replicate g.N false) [g.s0]=v at *;obtain⟨vse,vfr,vfd⟩:=v;simp only;refine Aa ?_;refine Au.names [2,1,0,4,if q=4 then 3 else 5] [(2,AH g.ls),(3,.o (.fn gN capsN)),(12,.o (.ptr 0 1 0 0)),(13,.o (.ptr 3 1 0 0)),(14,.o (.fn 214 [.ptr 0 1 0 0,.ptr 2 1 0 0,.ptr 3 1 0 0])),(26,eB vfd)] (EU g.N gG capsG vse 4 (Eh [] (-1) 0 vfr)) (by simp [b]) (by rcases M with ⟨rfl,rfl⟩|⟨rfl,rfl⟩<;>decide)
  (by rcases M with ⟨rfl,rfl⟩|⟨rfl,rfl⟩<;>simp[cX,zC,b,p,eC]) (by rcases M with ⟨rfl,rfl⟩|⟨rfl,rfl⟩<;>simp[cX,zC,b,EU,f,Ab.AX,CC,HC,eC]) ?_
 (refine aC rfl ?_ ?_<;>rintro⟨⟩)
 ·-- the start is a goal
  have hgs:g.goal g.s0=true:=by
   have h1:vfr.any g.goal=true:=L.fd.symm;obtain⟨x,K,Q⟩:=qJ.1 h1;have h2:=((L.fr x).1 K).1;simp at h2;subst h2;exact Q
  have F:=CP.unique hr (CP.start hgs);subst F;(repeat first|refine tM rfl ?_ |refine aU rfl ?_ |refine Aa ?_);refine aR ⟨_,rfl,rfl⟩
 refine aK ?_;obtain⟨hfr,hF0⟩:=FI.init S L rfl;simp only at hfr hF0;rw [hfr];(repeat first|refine tM rfl ?_ |refine aU rfl ?_ |refine Aa ?_);refine aB ?_;refine Au.BV (U:={x:Nat×List Bool×List LN×List (List Int) // FI g x.2.1 x.2.2.1 x.2.2.2 x.1 0}) (λ⟨⟨i,seen,steps,ws⟩,h⟩=>[(2,AH g.ls),(3,.o (.fn gN capsN)),(12,.o (.ptr 0 1 0 0)),(13,.o (.ptr 3 1 0 0)),(14,.o (.fn 214 [.ptr 0 1 0 0,.ptr 2 1 0 0,.ptr 3 1 0 0])),(15,eI .i64 i)]) (λ⟨⟨i,seen,steps,ws⟩,h⟩=>EU g.N gG capsG seen 4 steps) 5 (λ⟨⟨i,seen,steps,ws⟩,h⟩=>g.N - i) (⟨(0,vse,[⟨-1,0,[g.s0]⟩],[[]]),hF0⟩) [0,1,2,3,4] (IS b rfl rfl) (by (simp[cX,zC,b,EU,f,p,Eh])) ?_;rintro⟨⟨i,seen,steps,ws⟩,h⟩;(try dsimp only);simp only at h;have hlN:=h.jI;(repeat first|refine tM rfl ?_ |refine s2 rfl λ_ _hb=>?_ |refine aU rfl ?_ |refine Aa ?_);(refine aC rfl ?_ ?_<;>rintro⟨⟩)
 ·have hi : i < steps.length:=by (simp only[oZ] at *;omega)
  obtain⟨s,I⟩:=get_some hi;have Y:(steps.map N0)[0+((i:Nat):Int).toNat]? = some (N0 s):=Sq I;obtain⟨wi,A⟩:∃wi,ws[i]? = some wi:=get_some (by rw [h.wlen];exact hi);refine aK ?_;refine aS (aB ?_);(repeat first|refine sN rfl ?_ |refine tM rfl ?_ |refine aU rfl ?_ |refine Aa ?_);refine aB ?_;refine Au.BV (U:={x:Nat×List Bool×List LN×List (List Int) // x.1<=g.ls.length/\FI g x.2.1 x.2.2.1 x.2.2.2 i x.1/\i < x.2.2.1.length}) (λ⟨⟨j,d,c,u⟩,hP⟩=>[(2,AH g.ls),(3,.o (.fn gN capsN)),(12,.o (.ptr 0 1 0 0)),(13,.o (.ptr 3 1 0 0)),(14,.o (.fn 214 [.ptr 0 1 0 0,.ptr 2 1 0 0,.ptr 3 1 0 0])),(15,eI .i64 i),(33,AH g.ls),(34,eI .i64 g.ls.length),(35,eI .i64 j)]) (λ⟨⟨j,d,c,u⟩,hP⟩=>EU g.N gG capsG d 4 c) 5 (λ⟨⟨j,d,c,u⟩,hP⟩=>g.ls.length - j) (⟨(0,seen,steps,ws),by simp,h,hi⟩) [0,1,2,3,4] (IS b rfl rfl) (by (simp[cX,zC,b,EU,f,p])) ?_;rintro⟨⟨j,d,c,u⟩,hP⟩;(try dsimp only);clear I Y A h hlN hi;obtain⟨hj,h,hi⟩:=hP;simp only at hj h hi;have hlN:=h.jI;(repeat first|refine s2 rfl λ_ _hb=>?_ |refine aU rfl ?_ |refine Aa ?_);(refine aC rfl ?_ ?_<;>rintro⟨⟩)
  ·have hjl:j < g.ls.length:=by (simp only[oZ] at *;omega)
   obtain⟨l,hl⟩:=get_some (l:=g.ls) (k:=j) hjl;have hl':=get_map (g:=Br) hl;have G:=ce hl;have hlb:=Z l G;obtain⟨s,I⟩:=get_some hi;have Y:(c.map N0)[0+((i:Nat):Int).toNat]? = some (N0 s):=Sq I;obtain⟨wi,A⟩:∃wi,u[i]? = some wi:=get_some (by rw [h.wlen];exact hi);have t:=h.inn s (ce I);have hsnd:=Fk _ _ (h.nd s (ce I)) t;refine aK ?_;refine aS (aB ?_);(repeat first|refine tM rfl ?_ |(refine s4 rfl ‹_› rfl ?_ ?_;omega) |refine aU rfl ?_ |refine Aa ?_);(refine pW rfl ?_ rfl (by rfl);refine HU 1 3 ?_);(repeat first|refine sN rfl ?_ |(refine sM rfl ?_ ?_;first|exact tI|omega) |refine t4 rfl ‹_› rfl ?_ |refine aU rfl ?_ |refine Aa ?_);refine aB ?_;refine Au.BV (U:={m:Nat // m<=s.ns.length}) (λ⟨m,hm⟩=>[(2,AH g.ls),(3,.o (.fn gN capsN)),(12,.o (.ptr 0 1 0 0)),(13,.o (.ptr 3 1 0 0)),(14,.o (.fn 214 [.ptr 0 1 0 0,.ptr 2 1 0 0,.ptr 3 1 0 0])),(15,eI .i64 i),(33,AH g.ls),(34,eI .i64 g.ls.length),(35,eI .i64 j),(17,eI .i64 l),(18,.o (.arr 5 1 0 ((s.ns.take m).flatMap λn=>g.succ n l).length)),(43,AH s.ns),(44,eI .i64 s.ns.length),(45,eI .i64 m)]) (λ⟨m,hm⟩=>EU g.N gG capsG d 4 c++[(5,.cells 3 1 (((s.ns.take m).flatMap λn=>g.succ n l).map Az))]) 6 (λ⟨m,hm⟩=>s.ns.length - m) (⟨0,by omega⟩) [0,1,2,3,4,5] (IS b rfl rfl) (by (simp[cX,zC,b,EU,f,p])) ?_;rintro⟨m,hm⟩;(try dsimp only);(repeat first|refine s2 rfl λ_ _hb=>?_ |refine aU rfl ?_ |refine Aa ?_);(refine aC rfl ?_ ?_<;>rintro⟨⟩)
   ·obtain⟨n,z⟩:=get_some (l:=s.ns) (k:=m) (by (simp only[oZ] at *;omega))
    have hn':=get_map (g:=Br) z;have hnb:=t n (ce z)
    have hfm:(s.ns.take (m+1)).flatMap (λn=>g.succ n l)=(s.ns.take m).flatMap (λn=>g.succ n l)++g.succ n l:=by
     rw [gc,z];simp
    have hol:((s.ns.take m).flatMap λn=>g.succ n l).length<=1099511627776:=by
     have h2:=Sm (s.ns.take m) (λn=>g.succ n l) 1048576 (λx K=>by have:=hsl x l (t x (nE K)) G;omega)
     have h3:(s.ns.take m).length<=1048576:=by simp;omega
     omega
    have hnx:=hNx n l _ hnb G hol;generalize (s.ns.take m).flatMap (λn=>g.succ n l)=pre at *;refine aK ?_;refine aS (aB ?_);(repeat first|refine tM rfl ?_ |(refine s4 rfl ‹_› rfl ?_ ?_;omega) |refine aU rfl ?_ |refine Aa ?_);(refine pW rfl ?_ rfl (by rfl);refine Ag [5] rfl rfl hnx ⟨rfl,by decide,by decide⟩ (by rw [PI,NK,p];rfl) (by simp[cX,zC,b]) ?_;rintro x0 V X ⟨rfl,rfl,rfl⟩ _);(repeat first|(refine sM rfl ?_ ?_;first|exact tI|omega) |refine aU rfl ?_ |refine Aa ?_);refine⟨⟨m+1,by (simp only[oZ] at *;omega)⟩,by dsimp only;((simp only[oZ] at *;omega)),[0,1,2,3,4,6],?_⟩;simp[cX,zC,b,EU,f,p,Ab.AX,CC,HC,hfm]
   ·obtain rfl:m=s.ns.length:=by (simp only[oZ] at *;omega)
    rw [i9];have hR:∀y,y∈s.ns.flatMap (λn=>g.succ n l)↔∃n∈s.ns,y∈g.succ n l:=λy=>ot;generalize s.ns.flatMap (λn=>g.succ n l)=R at *
    have J:∀y∈R,0<=y/\y < g.N:=λy hy=>by
     obtain⟨n,z,hy⟩:=(hR y).1 hy;exact S.inn n (t n z) l G y hy
    have hv:=Vp (goal:=g.goal) h.slen J;have B:=TD (TB:=TB) hG hcG f d c i l R h.slen hN (by omega) J;generalize hV2:RE g.goal d R=v2 at *;refine aE ?_;refine Au.freeze [5] [(2,AH g.ls),(3,.o (.fn gN capsN)),(12,.o (.ptr 0 1 0 0)),(13,.o (.ptr 3 1 0 0)),(14,.o (.fn 214 [.ptr 0 1 0 0,.ptr 2 1 0 0,.ptr 3 1 0 0])),(15,eI .i64 i),(33,AH g.ls),(34,eI .i64 g.ls.length),(35,eI .i64 j),(17,eI .i64 l),(18,AH R)] ⟨⟨_,rfl,.Bn⟩,⟨_,rfl,.Bn⟩,⟨_,rfl,.Bn⟩,⟨_,rfl,.Bn⟩,⟨_,rfl,.Bn⟩,⟨_,rfl,.Bn⟩,⟨_,rfl,.Bn⟩,⟨_,rfl,.Bn⟩,⟨_,rfl,.Bn⟩,⟨_,rfl,.Bn⟩,⟨_,rfl,.o (.full (by simp) rfl (by simp [d4]) (by simp))⟩,trivial⟩ ?_;(repeat first|refine tM rfl ?_ |refine aU rfl ?_);(refine pW rfl ?_ rfl (by rfl);refine Ag [0,1,2,3,4] rfl rfl B ⟨rfl,by decide,by decide⟩ rfl (by simp[cX,zC,b,EU,f,CC]) ?_;rintro x0 V X ⟨rfl,q,M,rfl⟩ _);obtain⟨vse,vfr,vfd⟩:=v2;simp only;refine Aa ?_;refine Au.names [0,1,2,3,if q=4 then 4 else 6] [(2,AH g.ls),(3,.o (.fn gN capsN)),(12,.o (.ptr 0 1 0 0)),(13,.o (.ptr 3 1 0 0)),(14,.o (.fn 214 [.ptr 0 1 0 0,.ptr 2 1 0 0,.ptr 3 1 0 0])),(15,eI .i64 i),(33,AH g.ls),(34,eI .i64 g.ls.length),(35,eI .i64 j),(59,eB vfd)] (EU g.N gG capsG vse 4 (Eh c i l vfr)) (by simp [b]) (by rcases M with ⟨rfl,rfl⟩|⟨rfl,rfl⟩<;>decide)
     (by rcases M with ⟨rfl,rfl⟩|⟨rfl,rfl⟩<;>simp[cX,zC,b,p]) (by rcases M with ⟨rfl,rfl⟩|⟨rfl,rfl⟩<;>simp[cX,zC,b,EU,f,Ab.AX,CC,HC]) ?_
    (refine aC rfl ?_ ?_<;>rintro⟨⟩)
    ·obtain⟨x,K,Q⟩:∃x∈vfr,g.goal x=true:=by
      have h1:vfr.any g.goal=true:=hv.fd.symm;exact qJ.1 h1
     have hxR:=((hv.fr x).1 K).1;obtain⟨n,z,hxn⟩:=(hR x).1 hxR;have H:=CP.found S h A hl I z hxn Q;have F:=CP.unique hr H;subst F
     have hne:vfr≠[]:=λe=>by rw [e] at K;cases K
     have hsv:Eh c i l vfr=c++[⟨i,l,vfr⟩]:=by unfold Eh;rw [if_neg hne]
     rw [hsv];have hch:=h.WY.app (ns:=vfr) A G;have hpw:=SO (TB:=TB) hch Z (w:=wi++[l]) (by simp;omega) (by simp [h.wlen]);generalize hst3:c++[⟨(i:Int),l,vfr⟩]=st3 at *;(repeat first|refine tM rfl ?_|(refine Af rfl ?_;refine gA rfl ?_;first| refine gQ (QY rfl rfl ((.cons (.o (.full rfl (by simp [d4]) (by simp))) .nil)) (hpw) rfl) rfl ?_) |refine aU rfl ?_ |refine Aa ?_);refine aR ⟨_,rfl,rfl⟩
    ·have T:=h.visit S A hl I hR hv rfl
     have P:i < (Eh c i l vfr).length:=by unfold Eh;split<;>(try simp)<;>omega
     refine aK ?_;(repeat first|(refine sM rfl ?_ ?_;first|exact tI|omega) |refine aU rfl ?_ |refine Aa ?_);refine⟨⟨(j+1,vse,Eh c i l vfr,l8 u (wi++[l]) vfr),hjl,T,P⟩,by dsimp only;omega,[0,1,2,3,4],?_⟩;simp[cX,zC,b,EU,f,p]
  ·obtain rfl:j=g.ls.length:=by (simp only[oZ] at *;omega)
   have T:=h.jN hi;refine aE ?_;(repeat first|(refine sM rfl ?_ ?_;first|exact tI|omega) |refine aU rfl ?_ |refine Aa ?_);refine⟨⟨(i+1,d,c,u),T⟩,by dsimp only;omega,[0,1,2,3,4],?_⟩;simp[cX,zC,b,EU,f,p]
 ·have hle:=h.le
  obtain rfl:i=steps.length:=by (simp only[oZ] at *;omega)
  have H:=CP.mI S h;have F:=CP.unique hr H;subst F;refine aE ?_;(repeat first|refine tM rfl ?_ |refine aU rfl ?_ |refine Aa ?_);refine aR ⟨_,rfl,rfl⟩
theorem Hr{a:AK}{q:Nat}(h:q < a.nx.length):(Fi a)[q]? = some (UU λl=>AW a q l):=Dr (g:=λq=>UU λl=>AW a q l) h
theorem FM{h:Nat->Int}{l:Int}(d:0<=l)(c:l < 6):((UU h).drop (l.toNat*1))[0]? = some (iD (h l.toNat)):=by
 rw [nn]
 have b:l.toNat*1+0=l.toNat:=by omega
 have a:l.toNat < 6:=by omega
 rw [b];simp [UU,a]
end Go.Am
namespace Go.Am
open Go
theorem Gg{g g':Gr}(d:LB g)(c:g.ls=g'.ls)(e:∀x:Int,0<=x/\x < g.N->∀l∈g.ls,g.succ x l=g'.succ x l):∀ {w:List Int} {a x:Int},over g w->(0<=a/\a < g.N)->(reach g w a x↔reach g' w a x)
 | [],a,x,_,_=>Iff.rfl
 | l :: w,a,x,f,ha=>by
  have j:=f l (by simp);simp only [reach,<-e a ha l j];constructor
  ·rintro⟨y,b,h⟩
   exact⟨y,b,(Gg d c e (λm i=>f m (by simp [i])) (d.inn a ha l j y b)).1 h⟩
  ·rintro⟨y,b,h⟩
   exact⟨y,b,(Gg d c e (λm i=>f m (by simp [i])) (d.inn a ha l j y b)).2 h⟩
theorem CP.congr{g g':Gr}(c:LB g)(d:g.ls=g'.ls)(p:g.s0=g'.s0)(k:∀x:Int,0<=x/\x < g.N->∀l∈g.ls,g.succ x l=g'.succ x l)(i:∀x:Int,0<=x/\x < g.N->g.goal x=g'.goal x){r:Option (List Int)}(h:CP g r):CP g' r:=by
 have b:∀w,over g' w↔over g w:=λw=>by unfold over;rw [d]
 have j:∀w,over g w->(VM g' w↔VM g w):=λw hw=>by
  unfold VM;rw [<-p];constructor
  ·rintro⟨x,a,e⟩
   have a:=(Gg c d k hw c.s0).2 a;exact⟨x,a,by rw [i x (ES c hw c.s0 a)];exact e⟩
  ·rintro⟨x,a,e⟩
   exact⟨x,(Gg c d k hw c.s0).1 a,by rw [<-i x (ES c hw c.s0 a)];exact e⟩
 cases r with
 | none=>exact λu f a=>h u ((b u).1 f) ((j u ((b u).1 f)).1 a)
 | some w=>
  obtain⟨m,o,n⟩:=h;exact⟨(b w).2 m,(j w m).2 o,λu f a=>n u ((b u).1 f) ((j u ((b u).1 f)).1 a)⟩
theorem aD{zs ws:List Int}{cs ds:List (List Int)}(h:Jh zs cs):KD (zs++ws) (cs++ds)=(KD zs cs).flatMap λo=>(KD ws ds).map λr=>o*A3 ws+r:=by
 induction h with
 | nil=>simp [KD]
 | @cons z c zs cs _ _ _ a=>
  simp only [n9,KD,a];rw [List.flatMap_assoc];congr 1;funext q;rw [List.map_flatMap,List.flatMap_map];congr 1;funext o;rw [nV];congr 1;funext r;simp only [d4,KP];rw [pD,p8];omega
theorem Tp(l:List Sys)(aus:List AK)(st:List Int)(ls kd gl:Int):AY ⟨l,aus,st,ls,kd,gl⟩=l.map (·.st)++aus.map (λa=>(a.nx.length:Int)):=rfl
theorem QJ{l:List Sys}{aus:List AK}{st:List Int}{ls kd gl:Int}(b:Jj ⟨l,aus,st,ls,kd,gl⟩){node letter:Int}(f:0<=letter)(d:letter < 6) :
 KI ⟨l,aus,st,ls,kd,gl⟩ (AY ⟨l,aus,st,ls,kd,gl⟩) (EX (AY ⟨l,aus,st,ls,kd,gl⟩) node) letter =
  (KD (l.map (·.st)) (iU l (node / A3 (aus.map λa=>(a.nx.length:Int))) letter)).flatMap λo=>(KD (aus.map λa=>(a.nx.length:Int)) (aus.zipWith (λa q=>[AW a q.toNat letter]) (EX (aus.map λa=>(a.nx.length:Int)) node))).map λr=>o*A3 (aus.map λa=>(a.nx.length:Int))+r:=by
 have hp:∀w∈aus.map (λa=>(a.nx.length:Int)),0 < w:=λw hw=>by
  obtain⟨a,ha,rfl⟩:=em.1 hw;have:=Al (b.au a ha);omega
 unfold KI;rw [X0 (Qg b (ML b node) f d),Tp,Sa _ _ _ hp];have c:=gr b.ps b.np f d (node / A3 (aus.map λa=>(a.nx.length:Int)))
 have e:Xo ⟨l,aus,st,ls,kd,gl⟩ (EX (l.map (·.st)) (node / A3 (aus.map λa=>(a.nx.length:Int)))++EX (aus.map λa=>(a.nx.length:Int)) node) letter=iU l (node / A3 (aus.map λa=>(a.nx.length:Int))) letter++aus.zipWith (λa q=>[AW a q.toNat letter]) (EX (aus.map λa=>(a.nx.length:Int)) node):=by
  unfold Xo iU
  have g:(EX (l.map (·.st)) (node / A3 (aus.map λa=>(a.nx.length:Int)))).length=l.length:=by rw [Sb];simp
  simp only;rw [List.drop_append_of_le_length (by omega),List.drop_of_length_le (by omega),oV];congr 1;rw [Ht,List.take_append_of_le_length (by omega),lm (by omega)]
 rw [e,aD c]
theorem Pe:∀(zs:List Int) (k:Nat),MO zs (List.replicate k 0) 0=0
 | [],k=>by simp [MO]
 | z::zs,0=>by simp [MO]
 | z::zs,k+1=>by
  rw [o4];simp only [MO,Int.zero_mul,Int.add_zero];exact Pe zs k
end Go.Am
namespace Go.Am
open Go Go.Proofs
set_option maxHeartbeats 1000000
set_option maxRecDepth 4000
attribute [local irreducible] AO BS Lex A4 Au Spec
variable {TB:Bi}
def Gs{U:Type}(l:List U)(z:U)(k:Nat):List U:=l.take k++List.replicate (l.length - k) z
theorem aH{U:Type}(l:List U)(z:U):Gs l z 0=List.replicate l.length z:=by simp [Gs]
theorem SB{U:Type}(l:List U)(z:U):Gs l z l.length=l:=by simp [Gs]
theorem SC{U:Type}{l:List U}{z:U}{k:Nat}(h:k < l.length):(Gs l z k)[0+((k:Nat):Int).toNat]? = some z:=by
 rw [ms,f6];unfold Gs;rw [ge (by simp;omega)]
 have:0 < l.length - k:=by omega
 have e:k - (l.take k).length=0:=by simp;omega
 rw [e,pT,if_pos this]
theorem SD{U:Type}{l:List U}{z x:U}{k:Nat}(h:l[k]? = some x):(Gs l z k).set (0+((k:Nat):Int).toNat) x=Gs l z (k+1):=by
 have hk:=(am.1 h).1;rw [ms,f6];unfold Gs;rw [List.set_append_right _ _ (by simp;omega)]
 have b:k - (l.take k).length=0:=by simp;omega
 have a:l.length - k=(l.length - (k+1))+1:=by omega
 rw [b,a,o4,List.set_cons_zero,gc,h];simp
theorem aI{l:List (List C)}{z:List C}{k:Nat}{r:Nat->Nat}(c:∀x∈l,C.BK r x=x)(a:C.BK r z=z):(Gs l z k).map (C.BK r)=Gs l z k:=by
 unfold Gs;rw [nO,List.map_replicate,a];congr 1;refine(nu λx b=>?_).trans (List.map_id _);exact c x (nE b)
abbrev Tt(t:Bh):List D:=[BX t.rows,BX t.cols]
abbrev GY(t:Bh):E:=.a [.d (BX t.rows),.d (BX t.cols)]
abbrev GH(al:Int)(c:C):E:=.a [.d (iD al),c]
mutual
theorem Dq:∀(c:C),c.Bt=true->∀r,c.AX r=c
 | .d x,_,r=>rfl
 | .fn g cap,h,r=>by
  simp only [C.Bt] at h;simp only [C.AX,NL cap h r]
 | .arr ..,h,_=>by cases h
 | .ptr ..,h,_=>by cases h
 | .mp ..,h,_=>by cases h
 | .mv g l,h,r=>by
  simp only [C.Bt] at h;simp only [C.AX,NL l h r]
theorem NL:∀(l:List C),C.Cv l=true->∀r,C.BK r l=l
 | [],_,r=>rfl
 | c::l,h,r=>by
  simp only [C.Cv,d6] at h;simp only [C.BK,Dq c h.1 r,NL l h.2 r]
end
structure EW (P:Program) (TB:Bi) (c:C) (L:W->Bool) (ok:W->Prop):Prop where
 Bt:c.Bt=true
 ask:∀ {Γ:Ctx} {d:Option Tmp} {ty:TypeId} {pos:String} {af:Array Edge} {g:Option (Nat×Bool)} {f:Env} {σ:Ab} {nx:Nat} {x a:Operand} {tys:Array TypeId} {w:W},
  ev f x=some (.o c)->ev f a=some (eT w)->ok w->AO P TB Γ ⟨d,.call ⟨.value x,#[a],tys⟩,ty,pos,af,g⟩ f σ nx (eB (L w))
theorem EW.of{P:Program}{g:FuncId}{cap:List C}{L:W->Bool}{ok:W->Prop}(a:C.Cv cap=true)(h:∀w,ok w->Pure P TB g ([eT w]++cap.map .o) (eB (L w))):EW P TB (.fn g cap) L ok:=
 ⟨a,λb ha hw=>A6 (es:=[eT _]) b (by simp [Il,ha]) (by simp [E.Bt,C.Bt,a]) (h _ hw) rfl⟩
def SF(L:W->Bool)(cols:List W)(w:W)(k:Nat)(i:Nat):UInt8:=if i < k then X7 (L (w++cols.getD i [])) else 0
theorem UD(L:W->Bool)(cols:List W)(w:W):(Bq cols.length λi=>Fw (SF L cols w cols.length i))=(marks L cols w).map Fw:=by
 apply nH;intro i;by_cases h:i < cols.length
 ·rw [Dr h]
  simp [marks,SF,h]
 ·rw [i8 (by simp [Bq];omega),i8 (by simp [marks];omega)]
theorem lE:Fw 0=[C.d (D.v (Value.int IntKind.u8 0))]:=rfl
theorem jM(L:W->Bool)(cols:List W)(w:W)(n:Nat):(Bq n λi=>Fw (SF L cols w 0 i))=List.replicate n (Fw 0):=by
 apply nH;intro i;by_cases h:i < n
 ·rw [Dr h];simp [SF,h]
 ·rw [i8 (by simp [Bq];omega),i8 (by simp;omega)]
theorem aN{L:W->Bool}{cols:List W}{w x:W}{k:Nat}(b:cols[k]? = some x):(Bq cols.length λi=>Fw (if i=k then X7 (L (w++x)) else SF L cols w k i))=Bq cols.length λi=>Fw (SF L cols w (k+1) i):=by
 refine CQ λi _=>?_;congr 1;unfold SF;by_cases h:i=k
 ·subst h
  rw [if_pos rfl,if_pos (by omega)];simp [b]
 ·rw [if_neg h]
  by_cases a:i < k
  ·rw [if_pos a,if_pos (by omega)]
  ·rw [if_neg a,if_neg (by omega)]
theorem Nj{c:C}{L:W->Bool}{ok:W->Prop}(B:EW Tryz.prog TB c L ok)(al:Int)(t:Bh)(w:W)(I:t.cols.length<=1048576)(hk:∀x∈t.cols,ok (w++x))(hb:∀x∈t.cols,w.length+x.length<=1048576) :
 Pure Tryz.prog TB 150 [GH al c,GY t,eT w] (eT (marks L t.cols w)):=by
 have y:=Dq c B.Bt;refine eN Tryz.func150 rfl (by kernel_rfl) rfl ?_;intro Γ b;(repeat first|refine aU rfl ?_);(refine pW rfl ?_ rfl (by rfl);refine Db rfl rfl ?_);(refine Af rfl ?_;refine Ew (λ_ _=>DJ rfl rfl rfl) rfl ?_);(repeat first|refine sN rfl ?_ |refine tM rfl ?_ |refine aU rfl ?_ |refine Aa ?_);(refine pW rfl ?_ rfl (by rfl);refine I9 rfl rfl (by rfl) (by rfl) (co rfl) (by omega) (by omega) (by omega) ?_);(repeat first|refine sN rfl ?_ |refine tM rfl ?_ |refine aU rfl ?_ |refine Aa ?_);refine aB ?_;refine Au.BV (U:={k:Nat // k<=t.cols.length}) (λ⟨k,j⟩=>[(2,eT w),(3,.o (.ptr 0 2 0 0)),(7,.o (.arr 1 1 0 t.cols.length)),(15,.o (.d (BX t.cols))),(16,eI .i64 t.cols.length),(17,eI .i64 k)]) (λ⟨k,j⟩=>[(1,.cells 5 1 (Bq t.cols.length λi=>Fw (SF L t.cols w k i))),(0,.cells 90 2 [[.d (iD al),c]])]) 2 (λ⟨k,j⟩=>t.cols.length - k) (⟨0,by omega⟩) [0,1] (IS b rfl rfl) (by (simp[cX,zC,b,NM,y,jM,eC,JR,lE])) ?_;rintro⟨k,j⟩;(try dsimp only);(repeat first|refine s2 rfl λ_ r=>?_ |refine aU rfl ?_ |refine Aa ?_);(refine aC rfl ?_ ?_<;>rintro⟨⟩)
 ·have f:k < t.cols.length:=by (simp only[oZ] at *;omega)
  obtain⟨x,u⟩:=get_some (l:=t.cols) (k:=k) f;have G:=get_map (g:=DQ) u;have s:=ce u;have F:=hb x s;have z:=hk x s;have J:=Jz (H:=SF L t.cols w k) (q:=k) (n:=t.cols.length) f;have e:(Bq t.cols.length λi=>Fw (SF L t.cols w k i)).set (0+((k:Nat):Int).toNat) (Ae (Fw (SF L t.cols w k k)) 0 (eC (eI .u8 45)))=Bq t.cols.length λi=>Fw (if i=k then 45 else SF L t.cols w k i):=Ml (c:=45);have A:=Jz (H:=λi=>if i=k then 45 else SF L t.cols w k i) (q:=k) (n:=t.cols.length) f;rw [<-e] at A
  have v:(Bq t.cols.length λi=>Fw (if i=k then 45 else SF L t.cols w k i)).set (0+((k:Nat):Int).toNat) (Ae (Fw (if k=k then 45 else SF L t.cols w k k)) 0 (eC (eI .u8 43)))=Bq t.cols.length λi=>Fw (if i=k then 43 else SF L t.cols w k i):=by
   refine(Ml (H:=λi=>if i=k then 45 else SF L t.cols w k i) (c:=43)).trans ?_;refine CQ λi _=>?_;by_cases h:i=k<;>simp [h]
  have a:=aN (L:=L) (w:=w) u;refine aK ?_;refine aS (aB ?_);(repeat first|((first|refine sM rfl ?_ ?_|refine s4 rfl ‹_› rfl ?_ ?_);first|exact tI|omega)|(refine Af rfl ?_;refine gA rfl ?_;first| (refine gB (λ_ _=>B.ask rfl rfl z) ?_;intro _ r)) |refine aU rfl ?_ |refine Aa ?_);(refine aC rfl ?_ ?_<;>rintro⟨⟩)
  ·(repeat first|(refine sM rfl ?_ ?_;first|exact tI|omega) |refine t4 rfl ‹_› rfl ?_ |refine aU rfl ?_ |refine Aa ?_)
   refine⟨⟨k+1,by omega⟩,by dsimp only;(omega),[0,1],?_⟩;rw [e,v];rw [r] at a;have p:X7 true=43:=rfl;have m:X7 false=45:=rfl;simp only [p,m] at a;simp[cX,zC,b,NM,y,a]
  ·refine aK ?_
   (repeat first|(refine sM rfl ?_ ?_;first|exact tI|omega) |refine aU rfl ?_ |refine Aa ?_);refine⟨⟨k+1,by omega⟩,by dsimp only;(omega),[0,1],?_⟩;rw [e];rw [r] at a;have p:X7 true=43:=rfl;have m:X7 false=45:=rfl;simp only [p,m] at a;simp[cX,zC,b,NM,y,a]
 ·obtain rfl:k=t.cols.length:=by (simp only[oZ] at *;omega)
  rw [UD];refine aE ?_;(repeat first|refine tM rfl ?_|(refine Af rfl ?_;refine gA rfl ?_;first| refine gQ (WH (marks L t.cols w) rfl rfl (by simp [marks]) (by rw [pS,lm (by simp [marks])])) (by rfl) ?_) |refine aU rfl ?_ |refine Aa ?_);refine aR ⟨_,rfl,rfl⟩
def Bg(L:W->Bool)(t:Bh):Nat->List (W×Int)
 | 0=>[]
 | k+1=>if (BQ (Bg L t k) (marks L t.cols (t.rows.getD k []))).isSome then Bg L t k else Bg L t k++[(marks L t.cols (t.rows.getD k []),(k:Int))]
structure Vs (ok:W->Prop) (t:Bh):Prop where
 ok:∀w∈t.rows,∀x∈t.cols,ok (w++x)
 rb:∀w∈t.rows,w.length<=65536
 cb:∀x∈t.cols,x.length<=65536
 rl:t.rows.length<=4096
 cl:t.cols.length<=4096
theorem Gt{c:C}{L:W->Bool}{ok:W->Prop}(r:EW Tryz.prog TB c L ok)(al:Int)(t:Bh)(ht:Vs ok t) :
 Spec Tryz.prog TB 148 [] 0 [GH al c,GY t] (λx σ nx=>x=.o (.mp 0)/\nx=1/\σ=[(0,.mp (Ev (Bg L t t.rows.length)))]):=by
 have n:=Dq c r.Bt;have w:=ht.rl;refine eN Tryz.func148 rfl (by kernel_rfl) rfl ?_;intro Γ b;(repeat first|refine aU rfl ?_);(refine pW rfl ?_ rfl (by rfl);refine Db rfl rfl ?_);(refine Af rfl ?_;refine Ew (λ_ _=>DJ rfl rfl rfl) rfl ?_);(repeat first|refine tM rfl ?_ |refine aU rfl ?_ |refine Aa ?_);(refine pW rfl ?_ rfl (by rfl);refine GM ?_);(repeat first|refine sN rfl ?_ |refine tM rfl ?_ |refine aU rfl ?_ |refine Aa ?_);refine aB ?_;refine Au.BV (U:={k:Nat // k<=t.rows.length}) (λ⟨k,e⟩=>[(2,.o (.ptr 0 2 0 0)),(3,.o (.ip (Tt t))),(5,.o (.mp 1)),(13,.o (.d (BX t.rows))),(14,eI .i64 t.rows.length),(15,eI .i64 k)]) (λ⟨k,e⟩=>[(1,.mp (Ev (Bg L t k))),(0,.cells 90 2 [[.d (iD al),c]])]) 2 (λ⟨k,e⟩=>t.rows.length - k) (⟨0,by omega⟩) [0,1] (IS b rfl rfl) (by (simp[cX,zC,b,n,eC,Bg,Ev])) ?_;rintro⟨k,e⟩;(try dsimp only);(repeat first|refine s2 rfl λ_ f=>?_ |refine aU rfl ?_ |refine Aa ?_);(refine aC rfl ?_ ?_<;>rintro⟨⟩)
 ·have p:k < t.rows.length:=by (simp only[oZ] at *;omega)
  obtain⟨x,m⟩:=get_some (l:=t.rows) (k:=k) p;have v:=get_map (g:=DQ) m;have h:=ce m;have u:=ht.rb x h;have z:=Nj r al t x (by have:=ht.cl;omega) (ht.ok x h) (λy s=>by have:=ht.cb y s;omega)
  have q:t.rows.getD k []=x:=by simp [m]
  have a:Bg L t (k+1)=if (BQ (Bg L t k) (marks L t.cols x)).isSome then Bg L t k else Bg L t k++[(marks L t.cols x,(k:Int))]:=by
   rw [Bg,q]
  refine aK ?_;refine aS (aB ?_);(repeat first|refine tM rfl ?_ |(refine s4 rfl ‹_› rfl ?_ ?_;omega) |refine s2 rfl λ_ f=>?_|(refine Af rfl ?_;refine gA rfl ?_;first| refine gS (λ_ _=>A6 rfl rfl (by simp [E.Bt,C.Cv,C.Bt,r.Bt]) z rfl) ?_|refine gQ (Ro rfl rfl rfl) (by rfl) ?_) |refine aU rfl ?_ |refine Aa ?_);(refine aC rfl ?_ ?_<;>rintro⟨⟩)
  ·have j:BQ (Bg L t k) (marks L t.cols x)=none:=by simpa using f
   rw [j] at a;(repeat first|refine tM rfl ?_ |refine aU rfl ?_);(refine Af rfl ?_;refine EO ?_ rfl (by rfl);refine fN rfl rfl rfl rfl j ?_);(repeat first|(refine sM rfl ?_ ?_;first|exact tI|omega) |refine aU rfl ?_ |refine Aa ?_);refine⟨⟨k+1,by omega⟩,by dsimp only;(omega),[0,1],?_⟩;simp[cX,zC,b,n,a]
  ·have j:(BQ (Bg L t k) (marks L t.cols x)).isSome=true:=by simpa using f
   rw [if_pos j] at a;refine aK ?_;(repeat first|(refine sM rfl ?_ ?_;first|exact tI|omega) |refine aU rfl ?_ |refine Aa ?_);refine⟨⟨k+1,by omega⟩,by dsimp only;(omega),[0,1],?_⟩;simp[cX,zC,b,n,a]
 ·obtain rfl:k=t.rows.length:=by (simp only[oZ] at *;omega)
  refine aE ?_;(repeat first|refine tM rfl ?_ |refine aU rfl ?_ |refine Aa ?_);refine Au.names [1] [(4,.o (.mp 0))] [(0,.mp (Ev (Bg L t t.rows.length)))] (by intro i hi;rw [b] at hi;omega) (by simp) (by simp[cX,zC,b]) (by simp[cX,zC,b]) ?_;refine aR ⟨_,rfl,rfl,rfl,rfl⟩
theorem Xy(l:List (W×Int))(p:W×Int)(s:W):BQ (l++[p]) s=(BQ l s).or (if p.1=s then some p.2 else none):=by
 unfold BQ;rw [qB]
 cases h:l.find? (λp=>decide (p.1=s)) with
 | some q=>simp
 | none=>by_cases hp:p.1=s<;>simp [hp]
theorem Jd{L:W->Bool}{t:Bh}{k:Nat}(h:k < t.rows.length):(AQ L t)[k]? = some (marks L t.cols (t.rows.getD k [])):=by
 simp [AQ,h]
theorem KM(L:W->Bool)(t:Bh):∀k,k<=t.rows.length->∀s,BQ (Bg L t k) s=if s∈(AQ L t).take k then some (((AQ L t).idxOf s:Nat):Int) else none
 | 0,_,s=>by simp [Bg,BQ]
 | k + 1, hk, s=>by
  have d:=KM L t k (by omega);have f:=Jd (L:=L) (t:=t) (k:=k) (by omega);generalize marks L t.cols (t.rows.getD k [])=x at *
  have i:Bg L t (k+1)=if (BQ (Bg L t k) x).isSome then Bg L t k else Bg L t k++[(x,(k:Int))]:=by
   have c:=Jd (L:=L) (t:=t) (k:=k) (by omega);rw [f] at c
   injection c with c
   rw [Bg,<-c]
  have a:∀s,s∈(AQ L t).take (k+1)↔s∈(AQ L t).take k\/s=x:=λs=>by
   rw [gc,f];simp
  rw [i];by_cases g:x∈(AQ L t).take k
  ·rw [if_pos (by rw [d x,if_pos g];rfl),d s]
   by_cases b:s∈(AQ L t).take k
   ·rw [if_pos b,if_pos ((a s).2 (.inl b))]
   ·rw [if_neg b,if_neg]
    intro h
    rcases(a s).1 h with h|h
    ·exact b h
    ·subst h;exact b g
  ·rw [if_neg (by rw [d x,if_neg g];simp),Xy,d s]
   by_cases b:s∈(AQ L t).take k
   ·rw [if_pos b,if_pos ((a s).2 (.inl b))];rfl
   ·rw [if_neg b]
    by_cases m:x=s
    ·subst m
     rw [if_pos ((a x).2 (.inr rfl))]
     have l:(AQ L t).idxOf x=k:=by
      have n:k < (AQ L t).length:=(am.1 f).1
      have e:AQ L t=(AQ L t).take k++x::(AQ L t).drop (k+1):=by
       rw [<-BF f,nJ]
      rw [e,nL,if_neg g,ou];simp;omega
     simp [l]
    ·have j:s∉(AQ L t).take (k+1):=λh=>by
      rcases(a s).1 h with h|h
      ·exact b h
      ·exact m h.symm
     rw [if_neg j];simp [m]
theorem SJ{L:W->Bool}{t:Bh}{s:W}:BQ (Bg L t t.rows.length) s=if s∈AQ L t then some (((AQ L t).idxOf s:Nat):Int) else none:=by
 have h:=KM L t t.rows.length (io _) s;have e:(AQ L t).take t.rows.length=AQ L t:=lm (by simp [AQ]);rwa [e] at h
theorem eo{L:W->Bool}{ls:List UInt8}{t:Bh}{k j:Nat}{r:W}{l:UInt8}(d:t.rows[k]? = some r)(e:ls[j]? = some l)(m:∀w∈CK ls (t.rows.take k),marks L t.cols w∈AQ L t)(i:∀x∈ls.take j,marks L t.cols (r++[x])∈AQ L t)
 (h:marks L t.cols (r++[l])∉AQ L t):Bw L ls t=some (r++[l]):=by
 have p:t.rows=t.rows.take k++r::t.rows.drop (k+1):=by
  rw [<-BF d,nJ]
 have o:ls=ls.take j++l::ls.drop (j+1):=by
  rw [<-BF e,nJ]
 have n:CK ls t.rows=CK ls (t.rows.take k)++((ls.take j).map (λx=>r++[x])++(r++[l])::((ls.drop (j+1)).map (λx=>r++[x])++CK ls (t.rows.drop (k+1)))):=by
  have g:CK ls t.rows=CK ls (t.rows.take k++r::t.rows.drop (k+1)):=congrArg _ p;rw [g];unfold CK;rw [List.flatMap_append,pV];have f:ls.map (λx=>r++[x])=(ls.take j++l::ls.drop (j+1)).map (λx=>r++[x]):=congrArg _ o;rw [f];simp
 unfold Bw;rw [n,qB,qB]
 have b:(CK ls (t.rows.take k)).find? (λw=>!(AQ L t).contains (marks L t.cols w))=none:=oS.2 λw hw=>by simpa using m w hw
 have a:((ls.take j).map (λx=>r++[x])).find? (λw=>!(AQ L t).contains (marks L t.cols w))=none:=oS.2 λw hw=>by
  obtain⟨x,c,rfl⟩:=em.1 hw
  simpa using i x c
 rw [b,a];simp [h]
def lb(l:Int):UInt8:=UInt8.ofNat (97+l.toNat)
def AU(al:Int):List UInt8:=(Ac al).map lb
def jy(o:Option W):E:=match o with
 | some w=>.t [(false,[.d (tD w)]),(false,[.d (bD true)])]
 | none=>.t [(false,[.d (tD [])]),(false,[.d (bD false)])]
theorem fM{l:Int}(a:0<=l):UInt8.ofNat (97+l).toNat=lb l:=by
 unfold lb;congr 1;omega
theorem Sl{L:W->Bool}{t:Bh}{s:W}:(BQ (Bg L t t.rows.length) s).isSome=true↔s∈AQ L t:=by
 rw [SJ];by_cases h:s∈AQ L t<;>simp [h]
theorem UG{ls:List UInt8}{t:Bh}{k:Nat}{r:W}(h:t.rows[k]? = some r):CK ls (t.rows.take (k+1))=CK ls (t.rows.take k)++ls.map λl=>r++[l]:=by
 unfold CK;rw [gc,h];simp
theorem Jy{c:C}{L:W->Bool}{ok:W->Prop}(F:EW Tryz.prog TB c L ok)(al:Int)(t:Bh)(ht:Vs ok t)(S:∀w∈t.rows,∀l∈AU al,∀x∈t.cols,ok (w++[l]++x)) :
 Pure Tryz.prog TB 149 [GH al c,GY t] (jy (Bw L (AU al) t)):=by
 have u:=Dq c F.Bt;have R:=ht.rl;have V:(Ac al).length<=6:=AD al 6;refine eN Tryz.func149 rfl (by kernel_rfl) rfl ?_;intro Γ b;(repeat first|refine aU rfl ?_);(refine pW rfl ?_ rfl (by rfl);refine Db rfl rfl ?_);(refine Af rfl ?_;refine Ew (λ_ _=>DJ rfl rfl rfl) rfl ?_);(repeat first|refine tM rfl ?_ |refine aU rfl ?_ |refine Aa ?_);(refine pW rfl ?_ rfl (by rfl);refine Ag [] rfl rfl (Gt F al t ht) ⟨rfl,by simp,by simp⟩ (by simp [Em,E.AX,C.BK,C.AX,u,eC]) trivial ?_;rintro Y K M ⟨rfl,rfl,rfl⟩ _);(repeat first|refine sN rfl ?_ |refine tM rfl ?_ |refine aU rfl ?_ |refine Aa ?_);refine aB ?_;refine Au.BV (U:={k:Nat // k<=t.rows.length/\∀w∈CK (AU al) (t.rows.take k),marks L t.cols w∈AQ L t}) (λ⟨k,n,e⟩=>[(2,.o (.ptr 0 2 0 0)),(3,.o (.ip (Tt t))),(6,.o (.mp 1)),(18,.o (.d (BX t.rows))),(19,eI .i64 t.rows.length),(20,eI .i64 k)]) (λ⟨k,n,e⟩=>[(1,.mp (Ev (Bg L t t.rows.length))),(0,.cells 90 2 [[.d (iD al),c]])]) 2 (λ⟨k,n,e⟩=>t.rows.length - k) (⟨0,by omega,by simp [CK]⟩) [0,1] (IS b rfl rfl) (by (simp[cX,zC,b,u,eC,Ab.AX,CC,HC])) ?_;rintro⟨k,n,e⟩;(try dsimp only);(repeat first|refine s2 rfl λ_ i=>?_ |refine aU rfl ?_ |refine Aa ?_);(refine aC rfl ?_ ?_<;>rintro⟨⟩)
 ·have H:k < t.rows.length:=by (simp only[oZ] at *;omega)
  obtain⟨r,a⟩:=get_some (l:=t.rows) (k:=k) H;have Q:=get_map (g:=DQ) a;have s:=ce a;have P:=ht.rb r s;refine aK ?_;refine aS (aB ?_);(repeat first|refine sN rfl ?_ |refine tM rfl ?_ |(refine s4 rfl ‹_› rfl ?_ ?_;omega) |refine sP rfl (Cu al) rfl ?_ |refine aU rfl ?_ |refine Aa ?_);refine aB ?_;refine Au.BV (U:={j:Nat // j<=(Ac al).length/\∀x∈(AU al).take j,marks L t.cols (r++[x])∈AQ L t}) (λ⟨j,p,f⟩=>[(2,.o (.ptr 0 2 0 0)),(3,.o (.ip (Tt t))),(6,.o (.mp 1)),(18,.o (.d (BX t.rows))),(19,eI .i64 t.rows.length),(20,eI .i64 k),(8,eT r),(26,AH (Ac al)),(27,eI .i64 (Ac al).length),(28,eI .i64 j)]) (λ⟨j,p,f⟩=>[(1,.mp (Ev (Bg L t t.rows.length))),(0,.cells 90 2 [[.d (iD al),c]])]) 2 (λ⟨j,p,f⟩=>(Ac al).length - j) (⟨0,by omega,by simp⟩) [0,1] (IS b rfl rfl) (by (simp[cX,zC,b,u])) ?_;rintro⟨j,p,f⟩;(try dsimp only);(repeat first|refine s2 rfl λ_ i=>?_ |refine aU rfl ?_ |refine Aa ?_);(refine aC rfl ?_ ?_<;>rintro⟨⟩)
  ·have A:j < (Ac al).length:=by (simp only[oZ] at *;omega)
   obtain⟨l,J⟩:=get_some (l:=Ac al) (k:=j) A;have X:=get_map (g:=Br) J;have v:=Ai (ce J)
   have m:(AU al)[j]? = some (lb l):=by simp [AU,J]
   have I:=ce m;have T:=Nj F al t (r++[lb l]) (by have:=ht.cl;omega) (λx a=>S r s _ I x a) (λy N=>by have:=ht.cb y N;simp;omega);refine aK ?_;refine aS (aB ?_);(repeat first|(refine sM rfl ?_ ?_;first|exact tI|omega|simp only[oZ] at *;omega) |(refine s4 rfl ‹_› rfl ?_ ?_;omega) |refine sP rfl (Gp l v.1 (by omega)) rfl ?_|(refine Af rfl ?_;refine gA rfl ?_;first| refine gS (λ_ _=>bV rfl (by omega) (by omega)) ?_) |refine aU rfl ?_ |refine Aa ?_);rw [fM v.1];(repeat first|refine tM rfl ?_ |refine s2 rfl λ_ i=>?_|(refine Af rfl ?_;refine gA rfl ?_;first| refine gS (λ_ _=>A6 rfl rfl (by simp [E.Bt,C.Cv,C.Bt,F.Bt]) T rfl) ?_|refine gQ (Ro rfl rfl rfl) (by rfl) ?_) |refine aU rfl ?_ |refine Aa ?_);(refine aC rfl ?_ ?_<;>rintro⟨⟩)
   ·have hno:marks L t.cols (r++[lb l])∉AQ L t:=λh=>by
     rw [Sl.2 h] at i;cases i
    (repeat first|refine tM rfl ?_ |refine aU rfl ?_ |refine Aa ?_);refine aR ⟨_,rfl,?_⟩;rw [eo a m e f hno];rfl
   ·have q:marks L t.cols (r++[lb l])∈AQ L t:=Sl.1 (by simpa using i)
    have B:∀x∈(AU al).take (j+1),marks L t.cols (r++[x])∈AQ L t:=λx a=>by
     rw [gc,m] at a
     rcases f9.1 a with a|a
     ·exact f x a
     ·simp at a;subst a;exact q
    refine aK ?_;(repeat first|(refine sM rfl ?_ ?_;first|exact tI|omega) |refine aU rfl ?_ |refine Aa ?_);refine⟨⟨j+1,by omega,B⟩,by dsimp only;(omega),[0,1],?_⟩;simp[cX,zC,b,u]
  ·obtain rfl:j=(Ac al).length:=by (simp only[oZ] at *;omega)
   have z:∀w∈CK (AU al) (t.rows.take (k+1)),marks L t.cols w∈AQ L t:=λw hw=>by
    rw [UG a] at hw
    rcases f9.1 hw with hw|hw
    ·exact e w hw
    ·obtain⟨x,G,rfl⟩:=em.1 hw
     exact f x (by rw [lm (by simp [AU])];exact G)
   refine aE ?_;(repeat first|(refine sM rfl ?_ ?_;first|exact tI|omega) |refine aU rfl ?_ |refine Aa ?_);refine⟨⟨k+1,by omega,z⟩,by dsimp only;(omega),[0,1],?_⟩;simp[cX,zC,b,u]
 ·obtain rfl:k=t.rows.length:=by (simp only[oZ] at *;omega)
  have hno:Bw L (AU al) t=none:=oS.2 λw hw=>by
   have:=e w (by rw [i9];exact hw)
   simpa using this
  refine aE ?_;(repeat first|refine tM rfl ?_ |refine aU rfl ?_ |refine Aa ?_);refine aR ⟨_,rfl,?_⟩;rw [hno];rfl
theorem Js(l:List W)(h:l.length<=1048576):Spec Tryz.prog TB 176 [] 0 [EY l] (λx σ nx=>x=.o (.arr 0 1 0 l.length)/\nx=1/\σ=[(0,.cells 9 1 (l.map Hx))]):=by
 refine eN Tryz.func176 rfl (by kernel_rfl) rfl ?_;intro Γ b;(repeat first|refine aU rfl ?_);(refine Af rfl ?_;refine Ew (λ_ _=>JP rfl) rfl ?_);(repeat first|refine tM rfl ?_ |refine aU rfl ?_ |refine Aa ?_);(refine pW rfl ?_ rfl (by rfl);refine aV rfl ?_;intro e c);(repeat first|refine Aa ?_);(refine aC rfl ?_ ?_<;>rintro⟨⟩)
 ·obtain rfl:l=[]:=by simpa using c rfl
  (repeat first|refine aU rfl ?_);(refine pW rfl ?_ rfl (by rfl);refine HU 1 9 ?_);(repeat first|refine Aa ?_);refine aR ⟨_,rfl,rfl,rfl,rfl⟩
 ·refine aK ?_
  (repeat first|refine aU rfl ?_);(refine pW rfl ?_ rfl (by rfl);refine A9 rfl rfl rfl rfl (by simp) (by rfl) (by rfl) (by rfl) (by rfl) ?_);(repeat first|refine tM rfl ?_);(refine pW rfl ?_ rfl (by rfl);refine Aj rfl rfl rfl (by first| (simp;done)|(simp;(omega))) rfl (by intro r d;simp at d;obtain⟨a,_,rfl⟩:=d;rfl) (by rfl) (co rfl) (by simp;omega) ?_);(repeat first|refine tM rfl ?_ |refine Aa ?_);refine Au.names [1] [(2,.o (.arr 0 1 0 l.length))] [(0,.cells 9 1 (l.map Hx))] (by intro i hi;rw [b] at hi;omega) (by simp) (by simp[cX,zC,b]) (by simp[cX,zC,b]) ?_;refine aR ⟨_,rfl,rfl,rfl,rfl⟩
theorem aa(l:List W)(s:W):Pure Tryz.prog TB 220 [EY l,eT s] (eI .i64 (if s∈l then (l.idxOf s:Int) else -1)):=by
 refine eN Tryz.func220 rfl (by kernel_rfl) rfl ?_;intro Γ a;refine Au.bound 0 rfl λj=>?_;have o:=j (l.map DQ) .refl;(repeat first|refine sN rfl ?_ |refine tM rfl ?_ |refine aU rfl ?_ |refine Aa ?_);refine aB ?_;refine Au.BV (U:={k:Nat // k<=l.length/\s∉l.take k}) (λ⟨k,hk,b⟩=>[(0,EY l),(1,eT s),(7,eI .i64 l.length),(8,eI .i64 k)]) (λ⟨k,hk,b⟩=>[]) 0 (λ⟨k,hk,b⟩=>l.length - k) (⟨0,by omega,by simp⟩) [] (IS a rfl rfl) (by (simp[cX,zC,a])) ?_;rintro⟨k,hk,b⟩;(try dsimp only);(repeat first|refine s2 rfl λ_ c=>?_ |refine aU rfl ?_ |refine Aa ?_);(refine aC rfl ?_ ?_<;>rintro⟨⟩)
 ·have h:k < l.length:=by (simp only[oZ] at *;omega)
  obtain⟨x,d⟩:=get_some (l:=l) (k:=k) h;have m:=get_map (g:=DQ) d;refine aK ?_;refine aS (aB ?_);(repeat first|refine tM rfl ?_ |(refine s4 rfl ‹_› rfl ?_ ?_;omega) |refine s2 rfl λ_ c=>?_ |refine aU rfl ?_ |refine Aa ?_);(refine aC rfl ?_ ?_<;>rintro⟨⟩)
  ·have i:s=x:=by (simp only[oZ] at *;omega)
   subst i;(repeat first|refine tM rfl ?_ |refine aU rfl ?_ |refine Aa ?_);refine aR ⟨_,rfl,?_⟩;have n:s∈l:=ce d
   have hi:l.idxOf s=k:=by
    have e:l=l.take k++s::l.drop (k+1):=by rw [<-BF d,nJ]
    rw [e,nL,if_neg b,ou];simp;omega
   rw [if_pos n,hi]
  ·have i:¬s=x:=by simpa using c
   have f:s∉l.take (k+1):=by
    rw [gc,d];simp [b,i]
   refine aK ?_;(repeat first|(refine sM rfl ?_ ?_;first|exact tI|simp only[oZ] at *;omega) |refine aU rfl ?_ |refine Aa ?_);refine⟨⟨k+1,by omega,f⟩,by dsimp only;(omega),[],?_⟩;simp[cX,zC,a]
 ·obtain rfl:k=l.length:=by (simp only[oZ] at *;omega)
  rw [i9] at b;refine aE ?_;(repeat first|refine tM rfl ?_ |refine aU rfl ?_ |refine Aa ?_);refine aR ⟨_,rfl,?_⟩;rw [if_neg b]
theorem FY(l:List W)(s:W):Pure Tryz.prog TB 146 [EY l,eT s] (eB (decide (s∈l))):=by
 refine eN Tryz.func146 rfl (by kernel_rfl) rfl ?_;intro Γ b;(repeat' first|refine tA rfl ?_ |refine s2 rfl λ_ a=>?_ |refine sP rfl (aa l s) rfl ?_ |refine aU rfl ?_ |refine Aa ?_|(refine aC rfl ?_ ?_<;>rintro⟨⟩)|refine aK ?_|refine aE ?_|refine aB ?_|refine aR ⟨_,rfl,?_⟩)
 all_goals (show E.o _=E.o _;congr;subst a;by_cases h:s∈l<;>simp [h])
def Km(t:Bh)(RZ:W):Option Bh:=if t.cols.length=20\/RZ∈t.cols then none else some ⟨t.rows,t.cols++[RZ]⟩
def Pc(o:Option Bh):E:=match o with
 | some t=>.t [(true,[.d (BX t.rows),.d (BX t.cols)]),(false,[.d (bD true)])]
 | none=>.t [(true,[.d (.l []),.d (.l [])]),(false,[.d (bD false)])]
theorem Qb(t:Bh)(RZ:W)(g:t.rows.length<=4096)(p:t.cols.length<=4096):Pure Tryz.prog TB 203 [GY t,eT RZ] (Pc (Km t RZ)):=by
 have m:=Js (TB:=TB) t.rows (by omega);have k:=Js (TB:=TB) t.cols (by omega);refine AJ.Gw (AJ.ofM 2 (io _) Tryz.func203 rfl rfl (by kernel_rfl) (co rfl) ?_);intro Γ a;(repeat first|refine aU rfl ?_);(refine Af rfl ?_;refine Ew (λ_ _=>DJ rfl rfl rfl) rfl ?_);(repeat first|refine sN rfl ?_ |refine tM rfl ?_ |refine s2 rfl λ_ b=>?_ |(refine sC rfl (FY t.cols RZ) ?_;intro _ b) |refine s3 rfl ?_ ?_<;>rintro rfl |refine aU rfl ?_ |refine Aa ?_)
 ·(refine aC rfl ?_ ?_<;>rintro⟨⟩)
  have c:Km t RZ=none:=by unfold Km;rw [if_pos (.inl (by (simp only[oZ] at *;omega)))]
  (repeat first|refine tM rfl ?_|(refine Af rfl ?_;refine gA rfl ?_;first| refine gS (λ_ _=>AF rfl rfl (by rfl) (by rfl)) ?_) |refine aU rfl ?_ |refine Aa ?_);refine Au.freeze [0] [(4,.o (.ip [.l [],.l []])),(5,eB false)] ⟨⟨_,rfl,.o (.ptr (by simp) rfl rfl rfl)⟩,⟨_,rfl,.Bn⟩,trivial⟩ ?_;refine aR ⟨_,rfl,?_⟩;rw [c];rfl
 (repeat first|refine tM rfl ?_ |(refine sC rfl (FY t.cols RZ) ?_;intro _ b) |refine Aa ?_);(refine aC rfl ?_ ?_<;>rintro⟨⟩)
 ·have c:Km t RZ=none:=by unfold Km;rw [if_pos (.inr (by (simp only[oZ] at *;omega)))]
  (repeat first|refine tM rfl ?_|(refine Af rfl ?_;refine gA rfl ?_;first| refine gS (λ_ _=>AF rfl rfl (by rfl) (by rfl)) ?_) |refine aU rfl ?_ |refine Aa ?_);refine Au.freeze [0] [(4,.o (.ip [.l [],.l []])),(5,eB false)] ⟨⟨_,rfl,.o (.ptr (by simp) rfl rfl rfl)⟩,⟨_,rfl,.Bn⟩,trivial⟩ ?_;refine aR ⟨_,rfl,?_⟩;rw [c];rfl
 ·refine aK ?_
  refine aS ?_;refine rG (mK [0,1,3,4,6,7,2,5,8,9,10,11] [2,5,8,10] [0,1,3,4,6,7]) (by kernel_rfl) ?_;(repeat first|refine tA rfl ?_);(refine pW rfl ?_ rfl (by rfl);refine Ag [] rfl rfl m ⟨rfl,by simp,by simp⟩ rfl trivial ?_;rintro n e f ⟨rfl,rfl,rfl⟩ _);(refine pW rfl ?_ rfl (by rfl);refine Ag [] rfl rfl k ⟨rfl,by simp,by simp⟩ rfl trivial ?_;rintro n e f ⟨rfl,rfl,rfl⟩ _);(refine pW rfl ?_ rfl (by rfl);refine Aj rfl rfl rfl (by first| (simp;done)|(simp;(omega))) rfl (by intro r g;simp at g;subst g;rfl) (by rfl) (co rfl) (by simp;omega) ?_);(repeat first|refine tA rfl ?_|(refine Af rfl ?_;refine gA rfl ?_;first| refine gS (λ_ _=>AF rfl rfl (by rfl) (by rfl)) ?_) |refine Aa ?_)
  have j:RZ∉t.cols:=by simpa using b
  have c:Km t RZ=some ⟨t.rows,t.cols++[RZ]⟩:=by
   unfold Km;rw [if_neg];rintro(h|h)
   ·(simp only[oZ] at *;omega)
   ·exact j h
  refine Au.names [0,1,3] [(4,.o (.ptr 0 2 0 0)),(5,eB true)] [(0,.cells 47 2 [[.arr 1 1 0 t.rows.length,.arr 2 1 0 (t.cols.length+1)]]),(1,.cells 9 1 (t.rows.map Hx)),(2,.cells 9 1 ((t.cols++[RZ]).map Hx))] (by intro i hi;rw [a] at hi;omega) (by simp) (by simp[cX,zC,a,HC]) (by simp[cX,zC,a,HC,Ab.AX,CC,Bb,eC,Ae]) ?_;refine Au.LV [1,2] [(4,.o (.ptr 0 2 0 0)),(5,eB true)] [(0,.cells 47 2 [[.d (BX t.rows),.d (BX (t.cols++[RZ]))]])] ⟨⟨_,rfl,.Bn⟩,⟨_,rfl,.Bn⟩,trivial⟩ ⟨⟨_,rfl,by simp,.cons (.full (by simp) rfl (by simp [d4]) (by simp)) (.cons (.full (by simp) rfl (by simp [d4]) (by simp)) .nil)⟩,trivial⟩ ?_;refine Au.freeze [0] [(4,.o (.ip [BX t.rows,BX (t.cols++[RZ])])),(5,eB true)] ⟨⟨_,rfl,.o (.ptr (by simp) rfl rfl rfl)⟩,⟨_,rfl,.Bn⟩,trivial⟩ ?_;refine aR ⟨_,rfl,?_⟩;rw [c];rfl
end Go.Am
namespace Go.Am
set_option linter.unusedVariables false
def AN(a:AK):Int->W->Int
 | q,[]=>q
 | q,c::w=>AN a (AW a q.toNat ((c.toNat:Int) - 97)) w
def LA(a:AK)(w:W):Bool:=a.ac.getD (AN a 0 w).toNat false
theorem DD(a:AK):∀(u w:W) (q:Int),AN a q (u++w)=AN a (AN a q u) w
 | [],_,_=>rfl
 | c::u,w,q=>DD a u w _
theorem Es{l:Int}(b:0<=l)(a:l < 6):((lb l).toNat:Int) - 97=l:=by
 unfold lb
 have:(97+l.toNat) % 256=97+l.toNat:=by omega
 simp [this];omega
theorem Iq{al:Int}{c:UInt8}(h:c∈AU al):0<=(c.toNat:Int) - 97/\(c.toNat:Int) - 97 < 6:=by
 obtain⟨l,a,rfl⟩:=em.1 h;have b:=Ai a;rw [Es b.1 (by omega)];omega
theorem Fh{a:AK}(ha:AI a=true){al:Int}:∀(w:W) (q:Int),Av (AU al) w->0<=q/\q < a.nx.length->0<=AN a q w/\AN a q w < a.nx.length
 | [],q,_,b=>b
 | c::w,q,hw,b=>by
  have d:=Iq (hw c (by simp));have f:=DG ha (q:=q.toNat) (by omega) d.1 d.2;exact Fh ha w _ (λx e=>hw x (by simp [e])) f
def Xv{a:AK}(ha:AI a=true)(al:Int):Fin (LA a) (AU al) a.nx.length where
 st w:=(AN a 0 w).toNat
 lt w hw:=by
  have d:=Al ha;have:=Fh ha w 0 hw (by omega);omega
 same u w v b hw e h:=by
  have d:=Al ha;have g:=Fh ha u 0 b (by omega);have f:=Fh ha w 0 hw (by omega)
  have c:AN a 0 u=AN a 0 w:=by omega
  unfold LA;rw [DD,DD,c]
end Go.Am
namespace Go.Am
open Go
set_option linter.unusedVariables false
theorem ZV{a b:Nat}(ha:a < 2 ^ 62)(hb:b < 2 ^ 62):E4 .i64 a b=((a &&& b:Nat):Int):=by
 have d:a &&& b<=a:=Nat.and_le_left;unfold E4
 have c:(BitVec.ofInt IntKind.i64.bits (a:Int) &&& BitVec.ofInt IntKind.i64.bits (b:Int)).toNat=a &&& b:=by
  have e:IntKind.i64.bits=64:=rfl;rw [e];simp only [BitVec.toNat_and,BitVec.ofInt_natCast,BitVec.toNat_ofNat];rw [nF (by omega),nF (by omega)]
 rw [c];exact IntWalk.i64_in _ (by omega)
theorem ZM(s n:Nat):((s:Nat):Int).fdiv (2 ^ n)=((s / 2 ^ n:Nat):Int):=by
 have h:(0:Int)<=2 ^ n:=Int.le_of_lt (Int.pow_pos (by omega));rw [Int.fdiv_eq_ediv_of_nonneg _ h]
 push_cast
 rfl
theorem RV{s n:Nat}(d:s < 2 ^ 62)(f:n < 64):Ep (s:Nat) n=s.testBit n:=by
 unfold Ep
 have e:min n 64=n:=by omega
 rw [e,ZM];have g:s / 2 ^ n<=s:=Nat.div_le_self _ _;have c:=ZV (a:=s / 2 ^ n) (b:=1) (by omega) (by omega);rw [show ((1:Nat):Int)=1 from rfl] at c;rw [c,qd,Nat.and_one_is_mod];congr 1;rw [eq_iff_iff];omega
abbrev Wd:=List UInt8
def ME(c:UInt8):Bool:=decide (97<=c.toNat/\c.toNat < 103)
def Qt(al:Int)(c:UInt8):Bool:=ME c && Ep al (c.toNat - 97)
def within(w:Wd)(al:Int):Bool:=decide (w.length<=50000) && (Bv al && w.all (Qt al))
end Go.Am
