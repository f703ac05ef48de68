/-
  The word of a path.
-/
import Derived.Test.YtgpbfllcjdfelaaGreatDoorPart19
import Derived.Test.YtgpbfllcjdfelaaGreatDoorPart18
set_option linter.all false
namespace Go.Am
open Go Go.Proofs
set_option maxHeartbeats 1000000
set_option maxRecDepth 4000
attribute [local irreducible] AP BH Lex A4 Al Spec
variable {TB:Bg}
abbrev Vu(s:Jv):List D:=[iD s.p,iD s.l,DH s.ns]
abbrev KS(s:Jv):List C:=[.d (iD s.p),.d (iD s.l),.d (DH s.ns)]
abbrev TZ(l:List Jv):D:=.l (l.map Vu)
theorem RA{l:Int}(e:0<=l)(c:l < 6):DY (UInt8.ofNat (97+l.toNat))=[.d (.v (.int .u8 (97+l)))]:=by
 have b:(97+l.toNat) % 256=97+l.toNat:=de (by omega)
 have a:(97+l:Int)=((97+l.toNat:Nat):Int):=by omega
 simp [DY,b,a]
theorem Vm(o:List Int):(Eo o).reverse=Eo o.reverse:=by simp [Eo]
theorem Om{ls:List Int}{steps:List Jv}{ws:List (List Int)}(h:Chain ls steps ws)(I:∀l∈ls,0<=l/\l < 6){w:List Int}(n:1<=steps.length/\steps.length<=2097152)(P:ws[steps.length - 1]? = some w):Pure Tryz.prog TB 215 [.o (.d (TZ steps))] (eT (Eo w)):=by
 refine eN Tryz.func215 rfl (by kernel_rfl) rfl ?_;intro Z a;(repeat first|refine tM rfl ?_ |refine aU rfl ?_ |refine Aa ?_);(refine pW rfl ?_ rfl (by rfl);refine Ku 1 5 ?_);(repeat first|refine sN rfl ?_ |(refine sM rfl ?_ ?_;first|exact tI|omega) |refine aU rfl ?_ |refine Aa ?_);refine aB ?_;refine Al.AS (α:={x:Nat×List Int // x.1+x.2.length < steps.length/\∃v,ws[x.1]? = some v/\w=v++x.2.reverse}) (λ⟨⟨i,o⟩,z⟩=>[(0,.o (.d (TZ steps))),(3,.o (.arr 0 1 0 o.length)),(4,eI .i64 i)]) (λ⟨⟨i,o⟩,z⟩=>[(0,.cells 5 1 ((Eo o).map DY))]) 1 (λ⟨⟨i,o⟩,z⟩=>i) (⟨(steps.length - 1,[]),by simp;omega,w,P,by simp⟩) [0] (Dn a rfl rfl) (by (simp[cX,zC,a,Eo,Int.ofNat_sub,n.1])) ?_;rintro⟨⟨i,o⟩,z⟩;(try dsimp only);obtain⟨hi,v,B,b⟩:=z;simp only at hi B b;obtain⟨s,K⟩:=get_some (l:=steps) (k:=i) (by omega);have R:=get_map (g:=Vu) K;have t:=h.chain i s K
 have G:(Eo o).length=o.length:=by simp [Eo]
 (repeat first|refine tM rfl ?_ |(refine s4 rfl ‹_› rfl ?_ ?_;omega) |refine s2 rfl λ_ V=>?_ |refine aU rfl ?_ |refine Aa ?_);(refine aC rfl ?_ ?_<;>rintro⟨⟩)
 ·obtain⟨q,u,T,S,H,y,U⟩:∃(q:Nat) (u:List Int),s.p=(q:Int)/\q < i/\ws[q]? = some u/\ws[i]? = some (u++[s.l])/\s.l∈ls:=by
   rcases t with ⟨e,_⟩|e
   ·exfalso;(simp only[oZ] at *;omega)
   ·exact e
  have c:=I _ U;rw [B] at y
  injection y with y
  have J:=RA c.1 c.2
  have F:Eo (o++[s.l])=Eo o++[UInt8.ofNat (97+s.l.toNat)]:=by simp [Eo]
  have j:(Eo (o++[s.l])).map DY=(Eo o).map DY++[[.d (.v (.int .u8 (97+s.l)))]]:=by rw [F,cO,cH,J];rfl
  refine aK ?_;refine aS (aB ?_);(repeat first|refine tA rfl ?_ |(refine s4 rfl ‹_› rfl ?_ ?_;omega) |refine sP rfl (Du s.l c.1 (by omega)) rfl ?_ |refine aU rfl ?_);(refine pW rfl ?_ rfl (by rfl);refine AT rfl rfl rfl (by first| (simp;done)|(simp;(omega))) rfl (by intro r L;simp at L;subst L;rfl) (by rfl) (bn rfl) (by simp;omega) ?_);(repeat first|refine tX rfl ?_ |(refine s4 rfl ‹_› rfl ?_ ?_;omega) |refine aU rfl ?_ |refine Aa ?_);refine⟨⟨(q,o++[s.l]),by simp;omega,u,H,by rw [b,y];simp⟩,by dsimp only;omega,[1],?_⟩;dsimp only;rw [j];simp[cX,zC,a,T,HX]
 ·have A:v=[]:=by
   rcases t with ⟨_,e⟩|⟨q,u,e,_⟩
   ·rw [B] at e;injection e
   ·exfalso;(simp only[oZ] at *;omega)
  subst A
  have f:w=o.reverse:=by rw [b];rfl
  have m:=PD (TB:=TB) (Eo o) (by omega);rw [G,Vm,<-f] at m;refine aE ?_;(repeat first|refine tM rfl ?_ |refine aU rfl ?_);(refine pW rfl ?_ rfl (by rfl);refine Bx [0] rfl rfl m ⟨rfl,by simp,by simp⟩ rfl (by simp[cX,zC,a,HX]) ?_;rintro x0 M N ⟨rfl,rfl,rfl⟩ _)
  have Q:(Eo w).length=o.length:=by rw [f];simp [Eo]
  (repeat first|refine tM rfl ?_|(refine Av rfl ?_;refine gA rfl ?_;first| refine gQ (QK (Eo w) rfl rfl (by simp;omega) (by rw [dw,UY,bI (by simp;omega)])) (by rfl) ?_) |refine aU rfl ?_ |refine Aa ?_);refine aR ⟨_,rfl,rfl⟩
theorem VC(p:Nat->Prop):(∀i,i < 5->p i)↔p 0/\p 1/\p 2/\p 3/\p 4:=by
 constructor
 ·intro h;exact⟨h 0 (by omega),h 1 (by omega),h 2 (by omega),h 3 (by omega),h 4 (by omega)⟩
 ·rintro⟨e,d,c,b,a⟩ i hi
  have:i=0\/i=1\/i=2\/i=3\/i=4:=by omega
  rcases this with rfl|rfl|rfl|rfl|rfl<;>assumption
theorem Uf{goal:Int->Bool}{seen:List Bool}{nodes:List Int}{k:Nat}{x:Int}(h:nodes[k]? = some x):Np goal seen (nodes.take (k+1))=OU goal (Np goal seen (nodes.take k)) x:=by
 unfold Np;rw [Hd h]
theorem OC{l:List Bool}{n:Int}:(l.map AB).set (0+n.toNat) (Aj (AB false) 0 (eC (eB true)))=(l.set n.toNat true).map AB:=by
 simp [Aj,eC,d4]
abbrev DC(N:Nat)(gG:FuncId)(capsG:List C)(seen:List Bool)(q:Nat)(steps:List Jv):Ab:=
 [(0,.cells 27 1 [[.arr 1 1 0 N]]),(1,.cells 4 1 (seen.map AB)),(2,.cells 154 1 [[.fn gG capsG]]),(3,.cells 216 1 [[.arr q 3 0 steps.length]]),(q,.cells 218 3 (steps.map KS))]
theorem OT{goal:Int->Bool}{gG:FuncId}{capsG:List C}{N:Nat}(P:∀n:Int,0<=n/\n < N->Pure Tryz.prog TB gG ([eI .i64 n]++capsG.map .o) (eB (goal n)))(H:C.CI capsG=true)(d:∀r,C.Bh r capsG=capsG)
 (seen:List Bool) (steps:List Jv) (p l:Int) (nodes:List Int) (S:seen.length=N) (U:N<=1048576) (R:steps.length<=1048576) (u:∀n∈nodes,0<=n/\n < N) :
 Spec Tryz.prog TB 214 (DC N gG capsG seen 4 steps) 5 [eI .i64 p,eI .i64 l,Ag nodes,.o (.ptr 0 1 0 0),.o (.ptr 2 1 0 0),.o (.ptr 3 1 0 0)]
  (λx σ nx=>x=eB (Np goal seen nodes).found/\∃q,(q=4/\nx=5\/q=5/\nx=6)/\σ=DC N gG capsG (Np goal seen nodes).seen q (Dd steps p l (Np goal seen nodes).fresh)):=by
 have s:∀k,Xe goal N seen (nodes.take k) (Np goal seen (nodes.take k)):=λk=>PZ S λn F=>u n (ce F);refine eN Tryz.func214 rfl (by kernel_rfl) rfl ?_;intro Z a;refine Al.bound 2 rfl λL=>?_;have T:=L _ .refl;rw [bK] at T;(repeat first|refine tM rfl ?_ |refine aU rfl ?_ |refine Aa ?_);(refine pW rfl ?_ rfl (by rfl);refine Ku 1 3 ?_);(repeat first|refine sN rfl ?_ |refine tM rfl ?_ |refine aU rfl ?_ |refine Aa ?_);refine aB ?_;refine Al.AS (α:={k:Nat // k<=nodes.length}) (λ⟨k,G⟩=>[(0,eI .i64 p),(1,eI .i64 l),(3,.o (.ptr 0 1 0 0)),(4,.o (.ptr 2 1 0 0)),(5,.o (.ptr 3 1 0 0)),(10,.o (.arr 5 1 0 (Np goal seen (nodes.take k)).fresh.length)),(11,eB (Np goal seen (nodes.take k)).found),(14,Ag nodes),(15,eI .i64 nodes.length),(16,eI .i64 k)]) (λ⟨k,G⟩=>DC N gG capsG (Np goal seen (nodes.take k)).seen 4 steps++[(5,.cells 3 1 ((Np goal seen (nodes.take k)).fresh.map Az))]) 6 (λ⟨k,G⟩=>nodes.length - k) (⟨0,by omega⟩) [0,1,2,3,4,5] (Dn a rfl rfl) (by (simp[cX,zC,a,DC,Np,d])) ?_;rintro⟨k,G⟩;(try dsimp only);have i:=s k;have c:=λx=>Uf (goal:=goal) (seen:=seen) (nodes:=nodes) (k:=k) (x:=x);generalize M:Np goal seen (nodes.take k)=v at *;(repeat first|refine s2 rfl λ_ f=>?_ |refine aU rfl ?_ |refine Aa ?_);(refine aC rfl ?_ ?_<;>rintro⟨⟩)
 ·obtain⟨x,z⟩:=get_some (l:=nodes) (k:=k) (by (simp only[oZ] at *;omega))
  have Q:=get_map (g:=Bp) z;have m:=u x (bm z);have c:=c x z;have A:=i.len;obtain⟨b,hb⟩:=get_some (l:=v.seen) (k:=x.toNat) (by omega)
  have K:(v.seen.map AB)[0+x.toNat]? = some (AB b):=by simp [hb]
  have B:sn v.seen x=b:=by simp [sn,List.getD,hb]
  have h:v.fresh.length<=N:=by
   refine DQ _ _ i.nd λy w=>u y (ce ((i.fr y).1 w).1)
  unfold OU at c;rw [B] at c;obtain⟨vse,vfr,vfd⟩:=v;simp only at c A hb K h;refine aK ?_;refine aS (aB ?_);(repeat first|((first|refine sM rfl ?_ ?_|refine s4 rfl ‹_› rfl ?_ ?_);first|exact tI|omega) |refine s2 rfl λ_ f=>?_ |refine aU rfl ?_ |refine Aa ?_);(refine aC rfl ?_ ?_<;>rintro⟨⟩)
  ·have J:b=false:=by simpa using f
   subst J;rw [if_neg (by simp)] at c;(repeat first|(refine sA rfl ?_ ?_;first|exact tI|omega) |refine t4 rfl ‹_› rfl ?_ |refine aU rfl ?_ |refine Aa ?_);(refine pW rfl ?_ rfl (by rfl);refine AT rfl rfl rfl (by first| (simp;done)|(simp;(omega))) rfl (by intro r t;simp at t;subst t;rfl) (by rfl) (bn rfl) (by simp;omega) ?_);(repeat first|(refine sX rfl ?_ ?_;first|exact tI|simp only[oZ] at *;omega) |refine s3 rfl ?_ ?_<;>rintro rfl |refine aU rfl ?_ |refine Aa ?_);(repeat first|(refine sC rfl (P x m) ?_;intro _ f)|(refine Av rfl ?_;refine gA rfl ?_;first| refine gQ (QH rfl rfl rfl rfl) (by rfl) ?_))
   ·refine⟨⟨k+1,by (simp only[oZ] at *;omega)⟩,by dsimp only;((simp only[oZ] at *;omega)),[0,1,2,3,4,6],?_⟩
    rw [OC];simp[cX,zC,a,c,DC,d,VC]
   ·(repeat first|(refine sA rfl ?_ ?_;first|exact tI|simp only[oZ] at *;omega)|(refine Av rfl ?_;refine gA rfl ?_;first| (refine gB (λ_ _=>Bd rfl rfl (by simp [E.BI,C.BI,H]) (P x m) rfl) ?_;intro _ f)) |refine aU rfl ?_ |refine Aa ?_)
    refine⟨⟨k+1,by (simp only[oZ] at *;omega)⟩,by dsimp only;((simp only[oZ] at *;omega)),[0,1,2,3,4,6],?_⟩;rw [OC];simp[cX,zC,a,c,DC,d,VC,f]
  ·have I:b=true:=by simpa using f
   subst I;rw [if_pos rfl] at c;refine aK ?_;(repeat first|(refine sM rfl ?_ ?_;first|exact tI|simp only[oZ] at *;omega) |refine aU rfl ?_ |refine Aa ?_);refine⟨⟨k+1,by (simp only[oZ] at *;omega)⟩,by dsimp only;((simp only[oZ] at *;omega)),[0,1,2,3,4,5],?_⟩;simp[cX,zC,a,c,DC,d,VC]
 ·obtain rfl:k=nodes.length:=by (simp only[oZ] at *;omega)
  rw [bO] at M;subst M;refine aE ?_
  have h:(Np goal seen nodes).fresh.length<=N:=by
   have i:=s nodes.length;rw [bO] at i;refine DQ _ _ i.nd λy w=>u y ((i.fr y).1 w).1
  generalize Np goal seen nodes=vv at *;obtain⟨vse,vfr,vfd⟩:=vv;have h:vfr.length<=N:=h;(repeat first|refine tM rfl ?_ |refine s2 rfl λ_ f=>?_ |refine aU rfl ?_ |refine Aa ?_);(refine aC rfl ?_ ?_<;>rintro⟨⟩)
  ·have j:vfr≠[]:=λe=>by rw [e] at f;simp at f
   refine Al.freeze [5] [(0,eI .i64 p),(1,eI .i64 l),(5,.o (.ptr 3 1 0 0)),(10,Ag vfr),(11,eB vfd)] ⟨⟨_,rfl,.AU⟩,⟨_,rfl,.AU⟩,⟨_,rfl,.AU⟩,⟨_,rfl,.o (.full (by simp) rfl (by simp [bC]) (by simp))⟩,⟨_,rfl,.AU⟩,trivial⟩ ?_;(repeat first|refine tA rfl ?_|(refine Av rfl ?_;refine gA rfl ?_;first| refine gS (λ_ _=>AI rfl rfl (by rfl) (by rfl)) ?_) |refine aU rfl ?_);(refine pW rfl ?_ rfl (by rfl);refine AT rfl rfl rfl (by first| (simp;done)|(simp;(omega))) rfl (by intro r t;simp at t;subst t;rfl) (by rfl) (bn rfl) (by simp;omega) ?_);(repeat first|refine tX rfl ?_ |refine aU rfl ?_ |refine Aa ?_);refine Al.names [0,1,2,3,4,6] [(9,eB vfd)] (DC N gG capsG vse 5 (Dd steps p l vfr)) (by rw [a];decide) (by decide) (by simp[cX,zC,a]) (by simp[cX,zC,a,DC,d,Dd,j,Bt,Aj,eC]) ?_;refine aR ⟨_,rfl,rfl,5,.inr ⟨rfl,rfl⟩,rfl⟩
  ·have j:vfr=[]:=bM.1 (by (simp only[oZ] at *;omega))
   subst j;refine aK ?_;(repeat first|refine tM rfl ?_ |refine aU rfl ?_ |refine Aa ?_);refine Al.names [0,1,2,3,4] [(9,eB vfd)] (DC N gG capsG vse 4 steps) (by rw [a];decide) (by decide) (by simp[cX,zC,a]) (by simp[cX,zC,a,DC,d]) ?_;refine aR ⟨_,rfl,rfl,4,.inl ⟨rfl,rfl⟩,by simp [Dd]⟩
theorem Td{P:Program}{Z:Ctx}{d:Option Tmp}{ty:TypeId}{pos:String}{af:Array Edge}{g:Option (Nat×Bool)}{f:Env}{σ:Ab}{nx:Nat}{K:E->Ab->Nat->Prop}{T:TypeId}(k e:Nat)[r:BQ P T [.slice none 0 0]]
 (u:K (.o (.ptr (nx+1) 1 0 0)) ((nx+1,.cells T 1 [[.arr nx k 0 0]])::(nx,.cells e k [])::σ) (nx+2)):BH P TB Z ⟨d,.alloc T,ty,pos,af,g⟩ f σ nx K:=
 C7 λV X z y x=>by
  subst x;obtain⟨i,zv,hi,b,a⟩:=IU r.out
  have h:zv.cells = #[.slice none 0 0]:=by have:=congrArg List.toArray a;simpa using this
  obtain⟨m,p⟩:=y.alloc (c:=0) (nl:=True) (w:=V.w) (ob:=.cells e k []) rfl rfl rfl rfl (bJ _) (λ_ _=>rfl) (.inl ⟨by simp [Ai],rfl⟩)
  have t:Cy (Ai V V.w.heap.size 0 True V.w) [.arr V.nx k 0 0] zv.cells:=by
   rw [h];refine⟨rfl,λj c v l q=>?_⟩
   match j with
   | 0=>simp at l q;subst l q;exact AA.nil (by simp [Ai]) (by simp [Ai])
   | j+1=>simp at l
  obtain⟨n,s⟩:=ME m (T:=T) t;refine⟨.pointer (some ⟨V.w.heap.size,0,none⟩),_,_,_,?_,p.trans s,n,?_,u⟩
  ·simp [execOp,Instr.alloc,zeroValue,typeInfo,hi,b,newVar,newRow,Ai,go_sem]
  ·exact JJ
theorem Mj(r:Nat->Nat):∀(l m:List E),CY r (l++m)=CY r l++CY r m
 | [],m=>rfl
 | e::l,m=>by simp [CY,Mj r l m]
theorem KK(r:Nat->Nat):∀(l:List C),CY r (l.map .o)=(C.Bh r l).map .o
 | []=>rfl
 | c::l=>by simp [CY,C.Bh,E.AN,KK r l]
def Sf(P:Program)(TB:Bg)(T:TypeId)(g:Gr)(gN:FuncId)(capsN:List C):Prop:=
 ∀(node l:Int) (outs:List Int),0<=node/\node < g.N->l∈g.ls->outs.length<=1099511627776->
  Spec P TB gN [(0,.cells T 1 (outs.map Az))] 1 ([eI .i64 node,eI .i64 l,.o (.arr 0 1 0 outs.length)]++capsN.map .o) (λx σ nx=>x=.o (.arr 1 1 0 (outs++g.succ node l).length)/\nx=2/\σ=[(1,.cells T 1 ((outs++g.succ node l).map Az))])
theorem MH{g:Gr}(S:FM g)(hN:g.N<=1048576)(hls:∀l∈g.ls,0<=l/\l < 6)(hll:g.ls.length<=6)(hsl:∀(node l:Int),0<=node/\node < g.N->l∈g.ls->(g.succ node l).length<=g.N)
 {gN gG:FuncId} {capsN capsG:List C} (hNx:Sf Tryz.prog TB 3 g gN capsN) (hG:∀n:Int,0<=n/\n < g.N->Pure Tryz.prog TB gG ([eI .i64 n]++capsG.map .o) (eB (g.goal n)))
 (hcG:C.CI capsG=true) (f:∀r,C.Bh r capsG=capsG) (p:∀r,C.Bh r capsN=capsN) {r:Option (List Int)} (hr:BE g r) :
 Pure Tryz.prog TB 135 [eI .i64 g.N,Ag [g.s0],Ag g.ls,.o (.fn gN capsN),.o (.fn gG capsG)] (Jn r):=by
 refine eN Tryz.func135 rfl (by kernel_rfl) rfl ?_;intro Z b;(repeat first|refine aU rfl ?_);(refine pW rfl ?_ rfl (by rfl);refine C5 rfl rfl ?_);(repeat first|refine tM rfl ?_ |refine aU rfl ?_ |refine Aa ?_);(refine pW rfl ?_ rfl (by rfl);refine Ee rfl rfl (by rfl) (by rfl) (bn rfl) (by omega) (by omega) (by omega) ?_)
 iterate 4 (first|refine tM rfl ?_ |refine aU rfl ?_ |refine Aa ?_)
 (refine pW rfl ?_ rfl (by rfl);refine Td 3 218 ?_);(repeat first|refine tM rfl ?_ |refine aU rfl ?_ |refine Aa ?_);have L:=PZ (goal:=g.goal) (N:=g.N) (seen:=List.replicate g.N false) (nodes:=[g.s0]) (by simp) (by intro n z;simp at z;subst z;exact S.s0);have B:=OT (TB:=TB) hG hcG f (List.replicate g.N false) [] (-1) 0 [g.s0] (by simp) hN (by simp) (by intro n z;simp at z;subst z;exact S.s0);(refine pW rfl ?_ rfl (by rfl);refine Bx [2,1,0,4,3] rfl rfl B ⟨rfl,by decide,by decide⟩ rfl (by simp[cX,zC,b,DC,f,Aj,eC]) ?_;rintro x0 U V ⟨rfl,q,M,rfl⟩ _);generalize hV:Np g.goal (List.replicate g.N false) [g.s0]=v at *;obtain⟨vse,vfr,vfd⟩:=v;simp only;refine Aa ?_;refine Al.names [2,1,0,4,if q=4 then 3 else 5] [(2,Ag g.ls),(3,.o (.fn gN capsN)),(12,.o (.ptr 0 1 0 0)),(13,.o (.ptr 3 1 0 0)),(14,.o (.fn 214 [.ptr 0 1 0 0,.ptr 2 1 0 0,.ptr 3 1 0 0])),(26,eB vfd)] (DC g.N gG capsG vse 4 (Dd [] (-1) 0 vfr)) (by simp [b]) (by rcases M with ⟨rfl,rfl⟩|⟨rfl,rfl⟩<;>decide)
  (by rcases M with ⟨rfl,rfl⟩|⟨rfl,rfl⟩<;>simp[cX,zC,b,p,eC]) (by rcases M with ⟨rfl,rfl⟩|⟨rfl,rfl⟩<;>simp[cX,zC,b,DC,f,Ab.AN,Bt,FJ,eC]) ?_
 (refine aC rfl ?_ ?_<;>rintro⟨⟩)
 ·-- the start is a goal
  have hgs:g.goal g.s0=true:=by
   have h1:vfr.any g.goal=true:=L.fd.symm;obtain⟨x,K,Q⟩:=dM.1 h1;have h2:=((L.fr x).1 K).1;simp at h2;subst h2;exact Q
  have F:=BE.unique hr (BE.start hgs);subst F;(repeat first|refine tM rfl ?_ |refine aU rfl ?_ |refine Aa ?_);refine aR ⟨_,rfl,rfl⟩
 refine aK ?_;obtain⟨hfr,hF0⟩:=FI.init S L rfl;simp only at hfr hF0;rw [hfr];(repeat first|refine tM rfl ?_ |refine aU rfl ?_ |refine Aa ?_);refine aB ?_;refine Al.AS (α:={x:Nat×List Bool×List Jv×List (List Int) // FI g x.2.1 x.2.2.1 x.2.2.2 x.1 0}) (λ⟨⟨i,seen,steps,ws⟩,h⟩=>[(2,Ag g.ls),(3,.o (.fn gN capsN)),(12,.o (.ptr 0 1 0 0)),(13,.o (.ptr 3 1 0 0)),(14,.o (.fn 214 [.ptr 0 1 0 0,.ptr 2 1 0 0,.ptr 3 1 0 0])),(15,eI .i64 i)]) (λ⟨⟨i,seen,steps,ws⟩,h⟩=>DC g.N gG capsG seen 4 steps) 5 (λ⟨⟨i,seen,steps,ws⟩,h⟩=>g.N - i) (⟨(0,vse,[⟨-1,0,[g.s0]⟩],[[]]),hF0⟩) [0,1,2,3,4] (Dn b rfl rfl) (by (simp[cX,zC,b,DC,f,p,Dd])) ?_;rintro⟨⟨i,seen,steps,ws⟩,h⟩;(try dsimp only);simp only at h;have hlN:=h.XQ;(repeat first|refine tM rfl ?_ |refine s2 rfl λ_ _hb=>?_ |refine aU rfl ?_ |refine Aa ?_);(refine aC rfl ?_ ?_<;>rintro⟨⟩)
 ·have hi : i < steps.length:=by (simp only[oZ] at *;omega)
  obtain⟨s,I⟩:=get_some hi;have hs':(steps.map KS)[0+((i:Nat):Int).toNat]? = some (KS s):=Gc I;obtain⟨wi,A⟩:∃wi,ws[i]? = some wi:=get_some (by rw [h.wlen];exact hi);refine aK ?_;refine aS (aB ?_);(repeat first|refine sN rfl ?_ |refine tM rfl ?_ |refine aU rfl ?_ |refine Aa ?_);refine aB ?_;refine Al.AS (α:={x:Nat×List Bool×List Jv×List (List Int) // x.1<=g.ls.length/\FI g x.2.1 x.2.2.1 x.2.2.2 i x.1/\i < x.2.2.1.length}) (λ⟨⟨j,d,c,u⟩,hP⟩=>[(2,Ag g.ls),(3,.o (.fn gN capsN)),(12,.o (.ptr 0 1 0 0)),(13,.o (.ptr 3 1 0 0)),(14,.o (.fn 214 [.ptr 0 1 0 0,.ptr 2 1 0 0,.ptr 3 1 0 0])),(15,eI .i64 i),(33,Ag g.ls),(34,eI .i64 g.ls.length),(35,eI .i64 j)]) (λ⟨⟨j,d,c,u⟩,hP⟩=>DC g.N gG capsG d 4 c) 5 (λ⟨⟨j,d,c,u⟩,hP⟩=>g.ls.length - j) (⟨(0,seen,steps,ws),by simp,h,hi⟩) [0,1,2,3,4] (Dn b rfl rfl) (by (simp[cX,zC,b,DC,f,p])) ?_;rintro⟨⟨j,d,c,u⟩,hP⟩;(try dsimp only);clear I hs' A h hlN hi;obtain⟨hj,h,hi⟩:=hP;simp only at hj h hi;have hlN:=h.XQ;(repeat first|refine s2 rfl λ_ _hb=>?_ |refine aU rfl ?_ |refine Aa ?_);(refine aC rfl ?_ ?_<;>rintro⟨⟩)
  ·have hjl:j < g.ls.length:=by (simp only[oZ] at *;omega)
   obtain⟨l,hl⟩:=get_some (l:=g.ls) (k:=j) hjl;have hl':=get_map (g:=Bp) hl;have G:=bm hl;have hlb:=hls l G;obtain⟨s,I⟩:=get_some hi;have hs':(c.map KS)[0+((i:Nat):Int).toNat]? = some (KS s):=Gc I;obtain⟨wi,A⟩:∃wi,u[i]? = some wi:=get_some (by rw [h.wlen];exact hi);have t:=h.inn s (bm I);have hsnd:=DQ _ _ (h.nd s (bm I)) t;refine aK ?_;refine aS (aB ?_);(repeat first|refine tM rfl ?_ |(refine s4 rfl ‹_› rfl ?_ ?_;omega) |refine aU rfl ?_ |refine Aa ?_);(refine pW rfl ?_ rfl (by rfl);refine Ku 1 3 ?_);(repeat first|refine sN rfl ?_ |(refine sM rfl ?_ ?_;first|exact tI|omega) |refine t4 rfl ‹_› rfl ?_ |refine aU rfl ?_ |refine Aa ?_);refine aB ?_;refine Al.AS (α:={m:Nat // m<=s.ns.length}) (λ⟨m,hm⟩=>[(2,Ag g.ls),(3,.o (.fn gN capsN)),(12,.o (.ptr 0 1 0 0)),(13,.o (.ptr 3 1 0 0)),(14,.o (.fn 214 [.ptr 0 1 0 0,.ptr 2 1 0 0,.ptr 3 1 0 0])),(15,eI .i64 i),(33,Ag g.ls),(34,eI .i64 g.ls.length),(35,eI .i64 j),(17,eI .i64 l),(18,.o (.arr 5 1 0 ((s.ns.take m).flatMap λn=>g.succ n l).length)),(43,Ag s.ns),(44,eI .i64 s.ns.length),(45,eI .i64 m)]) (λ⟨m,hm⟩=>DC g.N gG capsG d 4 c++[(5,.cells 3 1 (((s.ns.take m).flatMap λn=>g.succ n l).map Az))]) 6 (λ⟨m,hm⟩=>s.ns.length - m) (⟨0,by omega⟩) [0,1,2,3,4,5] (Dn b rfl rfl) (by (simp[cX,zC,b,DC,f,p])) ?_;rintro⟨m,hm⟩;(try dsimp only);(repeat first|refine s2 rfl λ_ _hb=>?_ |refine aU rfl ?_ |refine Aa ?_);(refine aC rfl ?_ ?_<;>rintro⟨⟩)
   ·obtain⟨n,z⟩:=get_some (l:=s.ns) (k:=m) (by (simp only[oZ] at *;omega))
    have hn':=get_map (g:=Bp) z;have hnb:=t n (bm z)
    have hfm:(s.ns.take (m+1)).flatMap (λn=>g.succ n l)=(s.ns.take m).flatMap (λn=>g.succ n l)++g.succ n l:=by
     rw [bF,z];simp
    have hol:((s.ns.take m).flatMap λn=>g.succ n l).length<=1099511627776:=by
     have h2:=J8 (s.ns.take m) (λn=>g.succ n l) 1048576 (λx K=>by have:=hsl x l (t x (ce K)) G;omega)
     have h3:(s.ns.take m).length<=1048576:=by simp;omega
     omega
    have hnx:=hNx n l _ hnb G hol;generalize (s.ns.take m).flatMap (λn=>g.succ n l)=pre at *;refine aK ?_;refine aS (aB ?_);(repeat first|refine tM rfl ?_ |(refine s4 rfl ‹_› rfl ?_ ?_;omega) |refine aU rfl ?_ |refine Aa ?_);(refine pW rfl ?_ rfl (by rfl);refine Bx [5] rfl rfl hnx ⟨rfl,by decide,by decide⟩ (by rw [Mj,KK,p];rfl) (by simp[cX,zC,b]) ?_;rintro x0 U V ⟨rfl,rfl,rfl⟩ _);(repeat first|(refine sM rfl ?_ ?_;first|exact tI|omega) |refine aU rfl ?_ |refine Aa ?_);refine⟨⟨m+1,by (simp only[oZ] at *;omega)⟩,by dsimp only;((simp only[oZ] at *;omega)),[0,1,2,3,4,6],?_⟩;simp[cX,zC,b,DC,f,p,Ab.AN,Bt,FJ,hfm]
   ·obtain rfl:m=s.ns.length:=by (simp only[oZ] at *;omega)
    rw [bO];have hR:∀y,y∈s.ns.flatMap (λn=>g.succ n l)↔∃n∈s.ns,y∈g.succ n l:=λy=>df;generalize s.ns.flatMap (λn=>g.succ n l)=R at *
    have J:∀y∈R,0<=y/\y < g.N:=λy hy=>by
     obtain⟨n,z,hy⟩:=(hR y).1 hy;exact S.inn n (t n z) l G y hy
    have hv:=PZ (goal:=g.goal) h.slen J;have B:=OT (TB:=TB) hG hcG f d c i l R h.slen hN (by omega) J;generalize hV2:Np g.goal d R=v2 at *;refine aE ?_;refine Al.freeze [5] [(2,Ag g.ls),(3,.o (.fn gN capsN)),(12,.o (.ptr 0 1 0 0)),(13,.o (.ptr 3 1 0 0)),(14,.o (.fn 214 [.ptr 0 1 0 0,.ptr 2 1 0 0,.ptr 3 1 0 0])),(15,eI .i64 i),(33,Ag g.ls),(34,eI .i64 g.ls.length),(35,eI .i64 j),(17,eI .i64 l),(18,Ag R)] ⟨⟨_,rfl,.AU⟩,⟨_,rfl,.AU⟩,⟨_,rfl,.AU⟩,⟨_,rfl,.AU⟩,⟨_,rfl,.AU⟩,⟨_,rfl,.AU⟩,⟨_,rfl,.AU⟩,⟨_,rfl,.AU⟩,⟨_,rfl,.AU⟩,⟨_,rfl,.AU⟩,⟨_,rfl,.o (.full (by simp) rfl (by simp [bC]) (by simp))⟩,trivial⟩ ?_;(repeat first|refine tM rfl ?_ |refine aU rfl ?_);(refine pW rfl ?_ rfl (by rfl);refine Bx [0,1,2,3,4] rfl rfl B ⟨rfl,by decide,by decide⟩ rfl (by simp[cX,zC,b,DC,f,Bt]) ?_;rintro x0 U V ⟨rfl,q,M,rfl⟩ _);obtain⟨vse,vfr,vfd⟩:=v2;simp only;refine Aa ?_;refine Al.names [0,1,2,3,if q=4 then 4 else 6] [(2,Ag g.ls),(3,.o (.fn gN capsN)),(12,.o (.ptr 0 1 0 0)),(13,.o (.ptr 3 1 0 0)),(14,.o (.fn 214 [.ptr 0 1 0 0,.ptr 2 1 0 0,.ptr 3 1 0 0])),(15,eI .i64 i),(33,Ag g.ls),(34,eI .i64 g.ls.length),(35,eI .i64 j),(59,eB vfd)] (DC g.N gG capsG vse 4 (Dd c i l vfr)) (by simp [b]) (by rcases M with ⟨rfl,rfl⟩|⟨rfl,rfl⟩<;>decide)
     (by rcases M with ⟨rfl,rfl⟩|⟨rfl,rfl⟩<;>simp[cX,zC,b,p]) (by rcases M with ⟨rfl,rfl⟩|⟨rfl,rfl⟩<;>simp[cX,zC,b,DC,f,Ab.AN,Bt,FJ]) ?_
    (refine aC rfl ?_ ?_<;>rintro⟨⟩)
    ·obtain⟨x,K,Q⟩:∃x∈vfr,g.goal x=true:=by
      have h1:vfr.any g.goal=true:=hv.fd.symm;exact dM.1 h1
     have hxR:=((hv.fr x).1 K).1;obtain⟨n,z,hxn⟩:=(hR x).1 hxR;have H:=BE.found S h A hl I z hxn Q;have F:=BE.unique hr H;subst F
     have hne:vfr≠[]:=λe=>by rw [e] at K;cases K
     have hsv:Dd c i l vfr=c++[⟨i,l,vfr⟩]:=by unfold Dd;rw [if_neg hne]
     rw [hsv];have hch:=h.QX.app (ns:=vfr) A G;have hpw:=Om (TB:=TB) hch hls (w:=wi++[l]) (by simp;omega) (by simp [h.wlen]);generalize hst3:c++[⟨(i:Int),l,vfr⟩]=st3 at *;(repeat first|refine tM rfl ?_|(refine Av rfl ?_;refine gA rfl ?_;first| refine gQ (Fs rfl rfl ((.cons (.o (.full rfl (by simp [bC]) (by simp))) .nil)) (hpw) rfl) rfl ?_) |refine aU rfl ?_ |refine Aa ?_);refine aR ⟨_,rfl,rfl⟩
    ·have T:=h.visit S A hl I hR hv rfl
     have P:i < (Dd c i l vfr).length:=by unfold Dd;split<;>(try simp)<;>omega
     refine aK ?_;(repeat first|(refine sM rfl ?_ ?_;first|exact tI|omega) |refine aU rfl ?_ |refine Aa ?_);refine⟨⟨(j+1,vse,Dd c i l vfr,ZS u (wi++[l]) vfr),hjl,T,P⟩,by dsimp only;omega,[0,1,2,3,4],?_⟩;simp[cX,zC,b,DC,f,p]
  ·obtain rfl:j=g.ls.length:=by (simp only[oZ] at *;omega)
   have T:=h.XX hi;refine aE ?_;(repeat first|(refine sM rfl ?_ ?_;first|exact tI|omega) |refine aU rfl ?_ |refine Aa ?_);refine⟨⟨(i+1,d,c,u),T⟩,by dsimp only;omega,[0,1,2,3,4],?_⟩;simp[cX,zC,b,DC,f,p]
 ·have hle:=h.le
  obtain rfl:i=steps.length:=by (simp only[oZ] at *;omega)
  have H:=BE.aO S h;have F:=BE.unique hr H;subst F;refine aE ?_;(repeat first|refine tM rfl ?_ |refine aU rfl ?_ |refine Aa ?_);refine aR ⟨_,rfl,rfl⟩
theorem Ih{a:A5}{q:Nat}(h:q < a.nx.length):(Fw a)[q]? = some (PE λl=>CE a q l):=CB (g:=λq=>PE λl=>CE a q l) h
theorem Gp{h:Nat->Int}{l:Int}(d:0<=l)(c:l < 6):((PE h).drop (l.toNat*1))[0]? = some (iD (h l.toNat)):=by
 rw [bX]
 have b:l.toNat*1+0=l.toNat:=by omega
 have a:l.toNat < 6:=by omega
 rw [b];simp [PE,a]
end Go.Am
namespace Go.Am
open Go
theorem Eu{g g':Gr}(d:FM g)(c:g.ls=g'.ls)(e:∀x:Int,0<=x/\x < g.N->∀l∈g.ls,g.succ x l=g'.succ x l):∀ {w:List Int} {a x:Int},over g w->(0<=a/\a < g.N)->(reach g w a x↔reach g' w a x)
 | [],a,x,_,_=>Iff.rfl
 | l :: w,a,x,f,ha=>by
  have j:=f l (by simp);simp only [reach,<-e a ha l j];constructor
  ·rintro⟨y,b,h⟩
   exact⟨y,b,(Eu d c e (λm i=>f m (by simp [i])) (d.inn a ha l j y b)).1 h⟩
  ·rintro⟨y,b,h⟩
   exact⟨y,b,(Eu d c e (λm i=>f m (by simp [i])) (d.inn a ha l j y b)).2 h⟩
theorem BE.congr{g g':Gr}(c:FM g)(d:g.ls=g'.ls)(q:g.s0=g'.s0)(m:∀x:Int,0<=x/\x < g.N->∀l∈g.ls,g.succ x l=g'.succ x l)(i:∀x:Int,0<=x/\x < g.N->g.goal x=g'.goal x){r:Option (List Int)}(h:BE g r):BE g' r:=by
 have b:∀w,over g' w↔over g w:=λw=>by unfold over;rw [d]
 have k:∀w,over g w->(RY g' w↔RY g w):=λw j=>by
  unfold RY;rw [<-q];constructor
  ·rintro⟨x,a,e⟩
   have a:=(Eu c d m j c.s0).2 a;exact⟨x,a,by rw [i x (Cw c j c.s0 a)];exact e⟩
  ·rintro⟨x,a,e⟩
   exact⟨x,(Eu c d m j c.s0).1 a,by rw [<-i x (Cw c j c.s0 a)];exact e⟩
 cases r with
 | none=>exact λu f a=>h u ((b u).1 f) ((k u ((b u).1 f)).1 a)
 | some w=>
  obtain⟨n,p,o⟩:=h;exact⟨(b w).2 n,(k w n).2 p,λu f a=>o u ((b u).1 f) ((k u ((b u).1 f)).1 a)⟩
theorem SW{zs ws:List Int}{cs ds:List (List Int)}(h:Ev zs cs):Iz (zs++ws) (cs++ds)=(Iz zs cs).flatMap λo=>(Iz ws ds).map λr=>o*AE ws+r:=by
 induction h with
 | nil=>simp [Iz]
 | @cons z c zs cs _ _ _ a=>
  simp only [cQ,Iz,a];rw [List.flatMap_assoc];congr 1;funext q;rw [List.map_flatMap,List.flatMap_map];congr 1;funext o;rw [c6];congr 1;funext r;simp only [bC,IE];rw [dQ,dO];omega
theorem OD(l:List Sys)(aus:List A5)(st:List Int)(ls kd gl:Int):Ae ⟨l,aus,st,ls,kd,gl⟩=l.map (·.st)++aus.map (λa=>(a.nx.length:Int)):=rfl
theorem MY{l:List Sys}{aus:List A5}{st:List Int}{ls kd gl:Int}(b:Dm ⟨l,aus,st,ls,kd,gl⟩){node letter:Int}(f:0<=letter)(d:letter < 6) :
 Ef ⟨l,aus,st,ls,kd,gl⟩ (Ae ⟨l,aus,st,ls,kd,gl⟩) (Bs (Ae ⟨l,aus,st,ls,kd,gl⟩) node) letter =
  (Iz (l.map (·.st)) (Xf l (node / AE (aus.map λa=>(a.nx.length:Int))) letter)).flatMap λo=>(Iz (aus.map λa=>(a.nx.length:Int)) (aus.zipWith (λa q=>[CE a q.toNat letter]) (Bs (aus.map λa=>(a.nx.length:Int)) node))).map λr=>o*AE (aus.map λa=>(a.nx.length:Int))+r:=by
 have h:∀w∈aus.map (λa=>(a.nx.length:Int)),0 < w:=λw g=>by
  obtain⟨a,ha,rfl⟩:=bB.1 g;have:=Au (b.au a ha);omega
 unfold Ef;rw [RD (Hv b (Hy b node) f d),OD,NG _ _ _ h];have c:=VN b.ps b.np f d (node / AE (aus.map λa=>(a.nx.length:Int)))
 have e:Jm ⟨l,aus,st,ls,kd,gl⟩ (Bs (l.map (·.st)) (node / AE (aus.map λa=>(a.nx.length:Int)))++Bs (aus.map λa=>(a.nx.length:Int)) node) letter=Xf l (node / AE (aus.map λa=>(a.nx.length:Int))) letter++aus.zipWith (λa q=>[CE a q.toNat letter]) (Bs (aus.map λa=>(a.nx.length:Int)) node):=by
  unfold Jm Xf
  have i:(Bs (l.map (·.st)) (node / AE (aus.map λa=>(a.nx.length:Int)))).length=l.length:=by rw [JX];simp
  simp only;rw [List.drop_append_of_le_length (by omega),List.drop_of_length_le (by omega),dk];congr 1;rw [Fx,List.take_append_of_le_length (by omega),bI (by omega)]
 rw [e,SW c]
theorem LQ:∀(zs:List Int) (k:Nat),Fc zs (List.replicate k 0) 0=0
 | [],k=>by simp [Fc]
 | z::zs,0=>by simp [Fc]
 | z::zs,k+1=>by
  rw [da];simp only [Fc,Int.zero_mul,Int.add_zero];exact LQ zs k
end Go.Am
namespace Go.Am
open Go Go.Proofs
set_option maxHeartbeats 1000000
set_option maxRecDepth 4000
attribute [local irreducible] AP BH Lex A4 Al Spec
variable {TB:Bg}
def QU(n:Nat)(left:Int):Int:=if left - n < 0 then -1 else left - n
def DF:List (List Int)->Int->Int
 | [],left=>left
 | r::l,left=>if QU r.length left < 0 then -1 else DF l (QU r.length left)
def Jr(l:List (List Int))(left:Int):Int:=if left - l.length < 0 then -1 else DF l (left - l.length)
def WV(a:A5)(left:Int):Int:=if Jr a.nx left < 0 then -1 else if QU a.ac.length (Jr a.nx left) < 0 then -1 else QU a.ac.length (Jr a.nx left)
theorem PR{n:Nat}{left:Int}(h:0<=left) : -1<=QU n left/\QU n left<=left/\(0<=QU n left->(n:Int)<=left):=by unfold QU;split<;>omega
theorem Mo:∀(l:List (List Int)) {left:Int},0<=left->-1<=DF l left/\DF l left<=left/\(0<=DF l left->∀r∈l,(r.length:Int)<=left)
 | [],left,h=>⟨by simp [DF];omega,by simp [DF],λ_ r c=>by cases c⟩
 | r :: l,left,h=>by
  have e:=PR (n:=r.length) h;unfold DF;split
  ·exact⟨by omega,by omega,λb=>by omega⟩
  ·have b:=Mo l (left:=QU r.length left) (by omega)
   refine⟨b.1,by omega,λd x a=>?_⟩
   rcases cm.1 a with rfl|a
   ·exact e.2.2 (by omega)
   ·have:=b.2.2 d x a;omega
theorem QT{l:List (List Int)}{left:Int}(h:0<=left) : -1<=Jr l left/\Jr l left<=left/\(0<=Jr l left->(l.length:Int)<=left/\∀r∈l,(r.length:Int)<=left):=by
 unfold Jr;split
 ·omega
 ·have a:=Mo l (left:=left - l.length) (by omega)
  exact⟨a.1,by omega,λc=>⟨by omega,λr b=>by have:=a.2.2 c r b;omega⟩⟩
theorem WW{a:A5}{left:Int}(h:0<=left) : -1<=WV a left/\WV a left<=left/\(0<=WV a left->(a.nx.length:Int)<=left/\(a.ac.length:Int)<=left/\∀r∈a.nx,(r.length:Int)<=left):=by
 have c:=QT (l:=a.nx) h;unfold WV;split
 ·omega
 ·have b:=PR (n:=a.ac.length) (left:=Jr a.nx left) (by omega)
  split
  ·omega
  ·exact⟨b.1,by omega,λd=>⟨(c.2.2 (by omega)).1,by have:=b.2.2 d;omega,(c.2.2 (by omega)).2⟩⟩
theorem RV(l:List Int)(left:Int)(f:0<=left)(e:left<=1048576):Pure Tryz.prog TB 161 [Ag l,eI .i64 left] (eI .i64 (QU l.length left)):=by
 refine eN Tryz.func161 rfl (by kernel_rfl) rfl ?_;intro Z b;refine Al.bound 0 rfl λa=>?_;have d:=a (l.map Bp) .refl;(repeat' first |refine sN rfl ?_ |((first|refine sA rfl ?_ ?_|refine s4 rfl ‹_› rfl ?_ ?_);first|exact tI|omega|simp only[oZ] at *;omega) |refine s2 rfl λ_ c=>?_ |refine s3 rfl ?_ ?_<;>rintro rfl |refine aU rfl ?_ |refine Aa ?_ |refine rE (by kernel_rfl) ?_|(refine aC rfl ?_ ?_<;>rintro⟨⟩)|refine aK ?_|refine aE ?_|refine aB ?_|refine aR ⟨_,rfl,?_⟩)
 all_goals (show E.o _=E.o _;congr;unfold QU;simp only [bK] at *;grind)
theorem PO(l:List Bool)(left:Int)(f:0<=left)(e:left<=1048576):Pure Tryz.prog TB 84 [Dp l,eI .i64 left] (eI .i64 (QU l.length left)):=by
 refine eN Tryz.func84 rfl (by kernel_rfl) rfl ?_;intro Z b;refine Al.bound 0 rfl λa=>?_;have d:=a (l.map Fa) .refl;(repeat' first |refine sN rfl ?_ |((first|refine sA rfl ?_ ?_|refine s4 rfl ‹_› rfl ?_ ?_);first|exact tI|omega|simp only[oZ] at *;omega) |refine s2 rfl λ_ c=>?_ |refine s3 rfl ?_ ?_<;>rintro rfl |refine aU rfl ?_ |refine Aa ?_ |refine rE (by kernel_rfl) ?_|(refine aC rfl ?_ ?_<;>rintro⟨⟩)|refine aK ?_|refine aE ?_|refine aB ?_|refine aR ⟨_,rfl,?_⟩)
 all_goals (show E.o _=E.o _;congr;unfold QU;simp only [bK] at *;grind)
theorem PQ(l:List (List Int))(left:Int)(t:0<=left)(s:left<=1048576):Pure Tryz.prog TB 83 [Bu l,eI .i64 left] (eI .i64 (Jr l left)):=by
 refine eN Tryz.func83 rfl (by kernel_rfl) rfl ?_;intro Z a;refine Al.bound 0 rfl λh=>?_;have q:=h (l.map CK) .refl;(repeat' first |refine sN rfl ?_ |((first|refine sA rfl ?_ ?_|refine s4 rfl ‹_› rfl ?_ ?_);first|exact tI|omega|simp only[oZ] at *;omega) |refine s2 rfl λ_ d=>?_ |refine s3 rfl ?_ ?_<;>rintro rfl |refine aU rfl ?_ |refine Aa ?_ |refine rE (by kernel_rfl) ?_|(refine aC rfl ?_ ?_<;>rintro⟨⟩)|refine aK ?_|refine aE ?_|refine aB ?_|refine aR ⟨_,rfl,?_⟩)
 ·show E.o _=E.o _;congr;unfold Jr;rw [if_pos (by first|omega|simp only[oZ] at *;omega)]
 have m:0<=left - l.length:=by first|omega|simp only[oZ] at *;omega
 refine Al.AS (α:={x:Nat×Int // x.1<=l.length/\0<=x.2/\x.2<=1048576/\DF l (left - l.length)=DF (l.drop x.1) x.2}) (λ⟨⟨k,c⟩,f⟩=>[(0,Bu l),(1,eI .i64 c),(5,eI .i64 k)]) (λ⟨⟨k,c⟩,f⟩=>[]) 0 (λ⟨⟨k,c⟩,f⟩=>l.length - k) (⟨(0,left - l.length),by simp;omega⟩) [] (Dn a rfl rfl) (by ((repeat' first|exact tI|rfl|refine And.intro ?_ ?_)<;>(simp[cX,zC,a]))) ?_;rintro⟨⟨k,c⟩,f⟩;(try dsimp only);obtain⟨p,b,e,ha⟩:=f;simp only at p b e ha;(repeat first |refine sN rfl ?_ |((first|refine sA rfl ?_ ?_|refine s4 rfl ‹_› rfl ?_ ?_);first|exact tI|omega|simp only[oZ] at *;omega) |refine s2 rfl λ_ d=>?_ |refine s3 rfl ?_ ?_<;>rintro rfl |refine aU rfl ?_ |refine Aa ?_ |refine rE (by kernel_rfl) ?_);(refine aC rfl ?_ ?_<;>rintro⟨⟩)
 ·obtain⟨x,i⟩:=get_some (l:=l) (k:=k) (by first|omega|simp only[oZ] at *;omega)
  have j:=get_map (g:=CK) i;have r:=PR (n:=x.length) b;rw [CU i,DF] at ha;(repeat' first |refine sN rfl ?_ |((first|refine sA rfl ?_ ?_|refine s4 rfl ‹_› rfl ?_ ?_);first|exact tI|omega|simp only[oZ] at *;omega) |refine s2 rfl λ_ d=>?_ |refine sP rfl (RV x c b e) rfl ?_ |refine s3 rfl ?_ ?_<;>rintro rfl |refine aU rfl ?_ |refine Aa ?_ |refine rE (by kernel_rfl) ?_|(refine aC rfl ?_ ?_<;>rintro⟨⟩)|refine aK ?_|refine aE ?_|refine aB ?_|refine aR ⟨_,rfl,?_⟩)
  ·rw [if_pos (by first|omega|simp only[oZ] at *;omega)] at ha
   show E.o _=E.o _;congr;unfold Jr;rw [if_neg (by omega),ha]
  ·rw [if_neg (by first|omega|simp only[oZ] at *;omega)] at ha
   refine⟨⟨(k+1,QU x.length c),by first|omega|simp only[oZ] at *;omega,by first|omega|simp only[oZ] at *;omega,by omega,ha⟩,by dsimp only;first|omega|simp only[oZ] at *;omega,[],?_⟩;simp[cX,zC,a]
 ·(repeat' first |refine sN rfl ?_ |((first|refine sA rfl ?_ ?_|refine s4 rfl ‹_› rfl ?_ ?_);first|exact tI|omega|simp only[oZ] at *;omega) |refine s2 rfl λ_ d=>?_ |refine s3 rfl ?_ ?_<;>rintro rfl |refine aU rfl ?_ |refine Aa ?_ |refine rE (by kernel_rfl) ?_|(refine aC rfl ?_ ?_<;>rintro⟨⟩)|refine aK ?_|refine aE ?_|refine aB ?_|refine aR ⟨_,rfl,?_⟩)
  rw [List.drop_of_length_le (by first|omega|simp only[oZ] at *;omega),DF] at ha
  show E.o _=E.o _;congr;unfold Jr;rw [if_neg (by omega),ha]
theorem KZ(a:A5)(left:Int)(b:0<=left)(d:left<=1048576):Pure Tryz.prog TB 28 [A9 a,eI .i64 left] (eI .i64 (WV a left)):=by
 have f:=QT (l:=a.nx) b;refine eN Tryz.func28 rfl (by kernel_rfl) rfl ?_;intro Z c;(repeat' first |refine sN rfl ?_ |((first|refine sA rfl ?_ ?_|refine s4 rfl ‹_› rfl ?_ ?_);first|exact tI|omega|simp only[oZ] at *;omega) |refine s2 rfl λ_ e=>?_ |refine sP rfl (PQ a.nx left b d) rfl ?_|refine sP rfl (PO a.ac _ (by first|omega|simp only[oZ] at *;omega) (by first|omega|simp only[oZ] at *;omega)) rfl ?_ |refine s3 rfl ?_ ?_<;>rintro rfl |refine aU rfl ?_ |refine Aa ?_ |refine rE (by kernel_rfl) ?_|(refine aC rfl ?_ ?_<;>rintro⟨⟩)|refine aK ?_|refine aE ?_|refine aB ?_|refine aR ⟨_,rfl,?_⟩)
 all_goals (show E.o _=E.o _;congr;unfold WV;grind)
def CL{α:Type}(l:List α)(z:α)(k:Nat):List α:=l.take k++List.replicate (l.length - k) z
theorem Ko{α:Type}(l:List α)(z:α):CL l z 0=List.replicate l.length z:=by simp [CL]
theorem Gh{α:Type}(l:List α)(z:α):CL l z l.length=l:=by simp [CL]
theorem Gi{α:Type}{l:List α}{z:α}{k:Nat}(h:k < l.length):(CL l z k)[0+((k:Nat):Int).toNat]? = some z:=by
 rw [bW,bL];unfold CL;rw [bz (by simp;omega)]
 have:0 < l.length - k:=by omega
 have e:k - (l.take k).length=0:=by simp;omega
 rw [e,List.getElem?_replicate,if_pos this]
theorem Gk{α:Type}{l:List α}{z x:α}{k:Nat}(h:l[k]? = some x):(CL l z k).set (0+((k:Nat):Int).toNat) x=CL l z (k+1):=by
 have c:=(am.1 h).1;rw [bW,bL];unfold CL;rw [dH _ _ (by simp;omega)]
 have b:k - (l.take k).length=0:=by simp;omega
 have a:l.length - k=(l.length - (k+1))+1:=by omega
 rw [b,a,da,List.set_cons_zero,bF,h];simp
theorem Gj{l:List (List C)}{z:List C}{k:Nat}{r:Nat->Nat}(c:∀x∈l,C.Bh r x=x)(a:C.Bh r z=z):(CL l z k).map (C.Bh r)=CL l z k:=by
 unfold CL;rw [cO,List.map_replicate,a];congr 1;refine(db λx b=>?_).trans (List.map_id _);exact c x (ce b)
theorem RX(l:List Int)(h:l.length<=1048576):Pure Tryz.prog TB 162 [Ag l] (Ag l):=by
 have b:∀(r:Nat->Nat) k,(CL (l.map Az) (Az 0) k).map (C.Bh r)=CL (l.map Az) (Az 0) k:=λr k=>Gj (λx d=>by obtain⟨y,_,rfl⟩:=bB.1 d;rfl) rfl
 have f:(l.map Az).length=l.length:=by simp
 refine eN Tryz.func162 rfl (by kernel_rfl) rfl ?_;intro Z c;(repeat first |refine sN rfl ?_ |((first|refine sM rfl ?_ ?_|refine s4 rfl ‹_› rfl ?_ ?_);first|exact tI|omega|simp only[oZ] at *;omega) |refine s2 rfl λ_ a=>?_ |refine s3 rfl ?_ ?_<;>rintro rfl |refine aU rfl ?_ |refine Aa ?_ |refine rE (by kernel_rfl) ?_);(refine Av rfl ?_;refine BU (λ_ _=>Bw rfl) rfl ?_);(repeat first |refine sN rfl ?_ |((first|refine sM rfl ?_ ?_|refine s4 rfl ‹_› rfl ?_ ?_);first|exact tI|omega|simp only[oZ] at *;omega) |refine s2 rfl λ_ a=>?_ |refine s3 rfl ?_ ?_<;>rintro rfl |refine aU rfl ?_ |refine Aa ?_ |refine rE (by kernel_rfl) ?_);(refine pW rfl ?_ rfl (by rfl);refine Ee rfl rfl (by rfl) (by rfl) (bn rfl) (by omega) (by omega) (by omega) ?_);(repeat first |refine sN rfl ?_ |((first|refine sM rfl ?_ ?_|refine s4 rfl ‹_› rfl ?_ ?_);first|exact tI|omega|simp only[oZ] at *;omega) |refine s2 rfl λ_ a=>?_ |refine s3 rfl ?_ ?_<;>rintro rfl |refine aU rfl ?_ |refine Aa ?_ |refine rE (by kernel_rfl) ?_);refine aB ?_;refine Al.AS (α:={k:Nat // k<=l.length}) (λ⟨k,i⟩=>[(0,Ag l),(3,.o (.arr 0 1 0 l.length)),(4,eI .i64 k)]) (λ⟨k,i⟩=>[(0,.cells 3 1 (CL (l.map Az) (Az 0) k))]) 1 (λ⟨k,i⟩=>l.length - k) (⟨0,by omega⟩) [0] (Dn c rfl rfl) (by ((repeat' first|exact tI|rfl|refine And.intro ?_ ?_)<;>(simp[cX,zC,c,Ko,b]))) ?_;rintro⟨k,i⟩;(try dsimp only);(repeat first |refine sN rfl ?_ |((first|refine sM rfl ?_ ?_|refine s4 rfl ‹_› rfl ?_ ?_);first|exact tI|omega|simp only[oZ] at *;omega) |refine s2 rfl λ_ a=>?_ |refine s3 rfl ?_ ?_<;>rintro rfl |refine aU rfl ?_ |refine Aa ?_ |refine rE (by kernel_rfl) ?_);(refine aC rfl ?_ ?_<;>rintro⟨⟩)
 ·obtain⟨x,d⟩:=get_some (l:=l) (k:=k) (by first|omega|simp only[oZ] at *;omega)
  have j:=get_map (g:=Bp) d;have p:=Gi (l:=l.map Az) (z:=Az 0) (k:=k) (by first|omega|simp only[oZ] at *;omega);have m:=Gk (l:=l.map Az) (z:=Az 0) (k:=k) (x:=Az x) (by simp [d]);refine aK ?_;refine aS (aB ?_);(repeat first |refine sN rfl ?_ |((first|refine sM rfl ?_ ?_|refine s4 rfl ‹_› rfl ?_ ?_);first|exact tI|omega|simp only[oZ] at *;omega) |refine s2 rfl λ_ a=>?_ |refine s3 rfl ?_ ?_<;>rintro rfl |refine aU rfl ?_ |refine Aa ?_ |refine rE (by kernel_rfl) ?_);refine⟨⟨k+1,by first|omega|simp only[oZ] at *;omega⟩,by dsimp only;(first|omega|simp only[oZ] at *;omega),[0],?_⟩;have e:Aj (Az 0) 0 (eC (eI .i64 x))=Az x:=rfl;rw [e,m];simp[cX,zC,c,b]
 ·obtain rfl:k=l.length:=by first|omega|simp only[oZ] at *;omega
  have n:CL (l.map Az) (Az 0) l.length=l.map Az:=by
   have:=Gh (l.map Az) (Az 0);rwa [f] at this
  rw [n];refine aE ?_;(repeat first |refine sN rfl ?_ |((first|refine sM rfl ?_ ?_|refine s4 rfl ‹_› rfl ?_ ?_);first|exact tI|omega|simp only[oZ] at *;omega) |refine s2 rfl λ_ a=>?_ |refine s3 rfl ?_ ?_<;>rintro rfl |refine aU rfl ?_ |refine Aa ?_ |refine rE (by kernel_rfl) ?_);refine Al.freeze [0] [(2,Ag l)] ⟨⟨_,rfl,.o (.full (by simp) rfl (by simp [bC]) (by simp))⟩,trivial⟩ ?_;refine aR ⟨_,rfl,rfl⟩
theorem PU(l:List Bool)(h:l.length<=1048576):Pure Tryz.prog TB 87 [Dp l] (Dp l):=by
 have b:∀(r:Nat->Nat) k,(CL (l.map AB) ((AB false)) k).map (C.Bh r)=CL (l.map AB) ((AB false)) k:=λr k=>Gj (λx d=>by obtain⟨y,_,rfl⟩:=bB.1 d;rfl) rfl
 have f:(l.map AB).length=l.length:=by simp
 refine eN Tryz.func87 rfl (by kernel_rfl) rfl ?_;intro Z c;(repeat first |refine sN rfl ?_ |((first|refine sM rfl ?_ ?_|refine s4 rfl ‹_› rfl ?_ ?_);first|exact tI|omega|simp only[oZ] at *;omega) |refine s2 rfl λ_ a=>?_ |refine s3 rfl ?_ ?_<;>rintro rfl |refine aU rfl ?_ |refine Aa ?_ |refine rE (by kernel_rfl) ?_);(refine Av rfl ?_;refine BU (λ_ _=>Bw rfl) rfl ?_);(repeat first |refine sN rfl ?_ |((first|refine sM rfl ?_ ?_|refine s4 rfl ‹_› rfl ?_ ?_);first|exact tI|omega|simp only[oZ] at *;omega) |refine s2 rfl λ_ a=>?_ |refine s3 rfl ?_ ?_<;>rintro rfl |refine aU rfl ?_ |refine Aa ?_ |refine rE (by kernel_rfl) ?_);(refine pW rfl ?_ rfl (by rfl);refine Ee rfl rfl (by rfl) (by rfl) (bn rfl) (by omega) (by omega) (by omega) ?_);(repeat first |refine sN rfl ?_ |((first|refine sM rfl ?_ ?_|refine s4 rfl ‹_› rfl ?_ ?_);first|exact tI|omega|simp only[oZ] at *;omega) |refine s2 rfl λ_ a=>?_ |refine s3 rfl ?_ ?_<;>rintro rfl |refine aU rfl ?_ |refine Aa ?_ |refine rE (by kernel_rfl) ?_);refine aB ?_;refine Al.AS (α:={k:Nat // k<=l.length}) (λ⟨k,i⟩=>[(0,Dp l),(3,.o (.arr 0 1 0 l.length)),(4,eI .i64 k)]) (λ⟨k,i⟩=>[(0,.cells 4 1 (CL (l.map AB) ((AB false)) k))]) 1 (λ⟨k,i⟩=>l.length - k) (⟨0,by omega⟩) [0] (Dn c rfl rfl) (by ((repeat' first|exact tI|rfl|refine And.intro ?_ ?_)<;>(simp[cX,zC,c,Ko,b]))) ?_;rintro⟨k,i⟩;(try dsimp only);(repeat first |refine sN rfl ?_ |((first|refine sM rfl ?_ ?_|refine s4 rfl ‹_› rfl ?_ ?_);first|exact tI|omega|simp only[oZ] at *;omega) |refine s2 rfl λ_ a=>?_ |refine s3 rfl ?_ ?_<;>rintro rfl |refine aU rfl ?_ |refine Aa ?_ |refine rE (by kernel_rfl) ?_);(refine aC rfl ?_ ?_<;>rintro⟨⟩)
 ·obtain⟨x,d⟩:=get_some (l:=l) (k:=k) (by first|omega|simp only[oZ] at *;omega)
  have j:=get_map (g:=Fa) d;have p:=Gi (l:=l.map AB) (z:=(AB false)) (k:=k) (by first|omega|simp only[oZ] at *;omega);have m:=Gk (l:=l.map AB) (z:=(AB false)) (k:=k) (x:=AB x) (by simp [d]);refine aK ?_;refine aS (aB ?_);(repeat first |refine sN rfl ?_ |((first|refine sM rfl ?_ ?_|refine s4 rfl ‹_› rfl ?_ ?_);first|exact tI|omega|simp only[oZ] at *;omega) |refine s2 rfl λ_ a=>?_ |refine s3 rfl ?_ ?_<;>rintro rfl |refine aU rfl ?_ |refine Aa ?_ |refine rE (by kernel_rfl) ?_);refine⟨⟨k+1,by first|omega|simp only[oZ] at *;omega⟩,by dsimp only;(first|omega|simp only[oZ] at *;omega),[0],?_⟩;have e:Aj ((AB false)) 0 (eC (eB x))=AB x:=rfl;rw [e,m];simp[cX,zC,c,b]
 ·obtain rfl:k=l.length:=by first|omega|simp only[oZ] at *;omega
  have n:CL (l.map AB) ((AB false)) l.length=l.map AB:=by
   have:=Gh (l.map AB) ((AB false));rwa [f] at this
  rw [n];refine aE ?_;(repeat first |refine sN rfl ?_ |((first|refine sM rfl ?_ ?_|refine s4 rfl ‹_› rfl ?_ ?_);first|exact tI|omega|simp only[oZ] at *;omega) |refine s2 rfl λ_ a=>?_ |refine s3 rfl ?_ ?_<;>rintro rfl |refine aU rfl ?_ |refine Aa ?_ |refine rE (by kernel_rfl) ?_);refine Al.freeze [0] [(2,Dp l)] ⟨⟨_,rfl,.o (.full (by simp) rfl (by simp [bC]) (by simp))⟩,trivial⟩ ?_;refine aR ⟨_,rfl,rfl⟩
theorem PW(l:List (List Int))(h:l.length<=1048576)(p:∀r∈l,r.length<=1048576):Pure Tryz.prog TB 86 [Bu l] (Bu l):=by
 have b:∀(r:Nat->Nat) k,(CL (l.map DD) ((Dt [])) k).map (C.Bh r)=CL (l.map DD) ((Dt [])) k:=λr k=>Gj (λx d=>by obtain⟨y,_,rfl⟩:=bB.1 d;rfl) rfl
 have i:(l.map DD).length=l.length:=by simp
 refine eN Tryz.func86 rfl (by kernel_rfl) rfl ?_;intro Z c;(repeat first |refine sN rfl ?_ |((first|refine sM rfl ?_ ?_|refine s4 rfl ‹_› rfl ?_ ?_);first|exact tI|omega|simp only[oZ] at *;omega) |refine s2 rfl λ_ a=>?_ |refine s3 rfl ?_ ?_<;>rintro rfl |refine aU rfl ?_ |refine Aa ?_ |refine rE (by kernel_rfl) ?_);(refine Av rfl ?_;refine BU (λ_ _=>Bw rfl) rfl ?_);(repeat first |refine sN rfl ?_ |((first|refine sM rfl ?_ ?_|refine s4 rfl ‹_› rfl ?_ ?_);first|exact tI|omega|simp only[oZ] at *;omega) |refine s2 rfl λ_ a=>?_ |refine s3 rfl ?_ ?_<;>rintro rfl |refine aU rfl ?_ |refine Aa ?_ |refine rE (by kernel_rfl) ?_);(refine pW rfl ?_ rfl (by rfl);refine Ee rfl rfl (by rfl) (by rfl) (bn rfl) (by omega) (by omega) (by omega) ?_);(repeat first |refine sN rfl ?_ |((first|refine sM rfl ?_ ?_|refine s4 rfl ‹_› rfl ?_ ?_);first|exact tI|omega|simp only[oZ] at *;omega) |refine s2 rfl λ_ a=>?_ |refine s3 rfl ?_ ?_<;>rintro rfl |refine aU rfl ?_ |refine Aa ?_ |refine rE (by kernel_rfl) ?_);refine aB ?_;refine Al.AS (α:={k:Nat // k<=l.length}) (λ⟨k,j⟩=>[(0,Bu l),(3,.o (.arr 0 1 0 l.length)),(4,eI .i64 k)]) (λ⟨k,j⟩=>[(0,.cells 53 1 (CL (l.map DD) ((Dt [])) k))]) 1 (λ⟨k,j⟩=>l.length - k) (⟨0,by omega⟩) [0] (Dn c rfl rfl) (by ((repeat' first|exact tI|rfl|refine And.intro ?_ ?_)<;>(simp[cX,zC,c,Ko,b]))) ?_;rintro⟨k,j⟩;(try dsimp only);(repeat first |refine sN rfl ?_ |((first|refine sM rfl ?_ ?_|refine s4 rfl ‹_› rfl ?_ ?_);first|exact tI|omega|simp only[oZ] at *;omega) |refine s2 rfl λ_ a=>?_ |refine s3 rfl ?_ ?_<;>rintro rfl |refine aU rfl ?_ |refine Aa ?_ |refine rE (by kernel_rfl) ?_);(refine aC rfl ?_ ?_<;>rintro⟨⟩)
 ·obtain⟨x,d⟩:=get_some (l:=l) (k:=k) (by first|omega|simp only[oZ] at *;omega)
  have m:=get_map (g:=CK) d;have s:=Gi (l:=l.map DD) (z:=(Dt [])) (k:=k) (by first|omega|simp only[oZ] at *;omega);have n:=Gk (l:=l.map DD) (z:=(Dt [])) (k:=k) (x:=DD x) (by simp [d]);refine aK ?_;refine aS (aB ?_);have e:=p x (bm d);(repeat first |refine sN rfl ?_ |((first|refine sM rfl ?_ ?_|refine s4 rfl ‹_› rfl ?_ ?_);first|exact tI|omega|simp only[oZ] at *;omega) |refine s2 rfl λ_ a=>?_ |refine sP rfl (RX x e) rfl ?_ |refine s3 rfl ?_ ?_<;>rintro rfl |refine aU rfl ?_ |refine Aa ?_ |refine rE (by kernel_rfl) ?_);refine⟨⟨k+1,by first|omega|simp only[oZ] at *;omega⟩,by dsimp only;(first|omega|simp only[oZ] at *;omega),[0],?_⟩;have f:Aj ((Dt [])) 0 (eC (Ag x))=DD x:=rfl;rw [f,n];simp[cX,zC,c,b]
 ·obtain rfl:k=l.length:=by first|omega|simp only[oZ] at *;omega
  have q:CL (l.map DD) ((Dt [])) l.length=l.map DD:=by
   have:=Gh (l.map DD) ((Dt []));rwa [i] at this
  rw [q];refine aE ?_;(repeat first |refine sN rfl ?_ |((first|refine sM rfl ?_ ?_|refine s4 rfl ‹_› rfl ?_ ?_);first|exact tI|omega|simp only[oZ] at *;omega) |refine s2 rfl λ_ a=>?_ |refine s3 rfl ?_ ?_<;>rintro rfl |refine aU rfl ?_ |refine Aa ?_ |refine rE (by kernel_rfl) ?_);refine Al.freeze [0] [(2,Bu l)] ⟨⟨_,rfl,.o (.full (by simp) rfl (by simp [bC]) (by simp))⟩,trivial⟩ ?_;refine aR ⟨_,rfl,rfl⟩
theorem Lc(a:A5)(f:a.nx.length<=1048576)(e:a.ac.length<=1048576)(c:∀r∈a.nx,r.length<=1048576):Pure Tryz.prog TB 30 [A9 a] (A9 a):=by
 refine Spec.aW 2 29 3 [] Tryz.func30 rfl (by kernel_rfl) rfl (bn rfl) ?_;intro Z b;(repeat first |refine sN rfl ?_ |((first|refine sA rfl ?_ ?_|refine s4 rfl ‹_› rfl ?_ ?_);first|exact tI|omega|simp only[oZ] at *;omega) |refine s2 rfl λ_ g=>?_ |refine sP rfl (PW a.nx f c) rfl ?_|refine sP rfl (PU a.ac e) rfl ?_ |refine s3 rfl ?_ ?_<;>rintro rfl |refine aU rfl ?_ |refine Aa ?_);refine aR ⟨⟨0,3,0,29,_,[.d (iD a.al),.d (CG a.nx),.d (EJ a.ac)],_,rfl,rfl,rfl,.AU,rfl⟩,?_⟩;intro id k i h
 injection h with h;injection h with h;injection h with _ h;exact h.symm
theorem Rp(l:List Int):Pure Tryz.prog TB 163 [Ag l,Ag l] (eB true):=by
 refine eN Tryz.func163 rfl (by kernel_rfl) rfl ?_;intro Z b;refine Al.bound 0 rfl λd=>?_;have h:=d (l.map Bp) .refl;(repeat' first |refine sN rfl ?_ |((first|refine sA rfl ?_ ?_|refine s4 rfl ‹_› rfl ?_ ?_);first|exact tI|omega|simp only[oZ] at *;omega) |refine s2 rfl λ_ a=>?_ |refine s3 rfl ?_ ?_<;>rintro rfl |refine aU rfl ?_ |refine Aa ?_ |refine rE (by kernel_rfl) ?_|(refine aC rfl ?_ ?_<;>rintro⟨⟩)|refine aK ?_|refine aE ?_|refine aB ?_|refine aR ⟨_,rfl,?_⟩)
 all_goals try (exfalso;first|omega|simp only[oZ] at *;omega;done)
 refine Al.AS (α:={k:Nat // k<=l.length}) (λ⟨k,c⟩=>[(0,Ag l),(1,Ag l),(5,eI .i64 k)]) (λ⟨k,c⟩=>[]) 0 (λ⟨k,c⟩=>l.length - k) (⟨0,by omega⟩) [] (Dn b rfl rfl) (by ((repeat' first|exact tI|rfl|refine And.intro ?_ ?_)<;>(simp[cX,zC,b]))) ?_;rintro⟨k,c⟩;(try dsimp only);(repeat first |refine sN rfl ?_ |((first|refine sA rfl ?_ ?_|refine s4 rfl ‹_› rfl ?_ ?_);first|exact tI|omega|simp only[oZ] at *;omega) |refine s2 rfl λ_ a=>?_ |refine s3 rfl ?_ ?_<;>rintro rfl |refine aU rfl ?_ |refine Aa ?_ |refine rE (by kernel_rfl) ?_);(refine aC rfl ?_ ?_<;>rintro⟨⟩)
 ·obtain⟨x,f⟩:=get_some (l:=l) (k:=k) (by first|omega|simp only[oZ] at *;omega)
  have e:=get_map (g:=Bp) f;(repeat' first |refine sN rfl ?_ |((first|refine sA rfl ?_ ?_|refine s4 rfl ‹_› rfl ?_ ?_);first|exact tI|omega|simp only[oZ] at *;omega) |refine s2 rfl λ_ a=>?_ |refine s3 rfl ?_ ?_<;>rintro rfl |refine aU rfl ?_ |refine Aa ?_ |refine rE (by kernel_rfl) ?_|(refine aC rfl ?_ ?_<;>rintro⟨⟩)|refine aK ?_|refine aE ?_|refine aB ?_|refine aR ⟨_,rfl,?_⟩)
  all_goals first
   | (exfalso;revert a;simp;done)
   | (exfalso;first|omega|simp only[oZ] at *;omega;done)
   | (refine⟨⟨k+1,by first|omega|simp only[oZ] at *;omega⟩,by dsimp only;(first|omega|simp only[oZ] at *;omega),[],?_⟩;simp[cX,zC,b];done)
 ·(repeat' first |refine sN rfl ?_ |((first|refine sA rfl ?_ ?_|refine s4 rfl ‹_› rfl ?_ ?_);first|exact tI|omega|simp only[oZ] at *;omega) |refine s2 rfl λ_ a=>?_ |refine s3 rfl ?_ ?_<;>rintro rfl |refine aU rfl ?_ |refine Aa ?_ |refine rE (by kernel_rfl) ?_|(refine aC rfl ?_ ?_<;>rintro⟨⟩)|refine aK ?_|refine aE ?_|refine aB ?_|refine aR ⟨_,rfl,?_⟩)
  all_goals rfl
theorem Pb(l:List Bool):Pure Tryz.prog TB 91 [Dp l,Dp l] (eB true):=by
 refine eN Tryz.func91 rfl (by kernel_rfl) rfl ?_;intro Z b;refine Al.bound 0 rfl λd=>?_;have h:=d (l.map Fa) .refl;(repeat' first |refine sN rfl ?_ |((first|refine sA rfl ?_ ?_|refine s4 rfl ‹_› rfl ?_ ?_);first|exact tI|omega|simp only[oZ] at *;omega) |refine s2 rfl λ_ a=>?_ |refine s3 rfl ?_ ?_<;>rintro rfl |refine aU rfl ?_ |refine Aa ?_ |refine rE (by kernel_rfl) ?_|(refine aC rfl ?_ ?_<;>rintro⟨⟩)|refine aK ?_|refine aE ?_|refine aB ?_|refine aR ⟨_,rfl,?_⟩)
 all_goals try (exfalso;first|omega|simp only[oZ] at *;omega;done)
 refine Al.AS (α:={k:Nat // k<=l.length}) (λ⟨k,c⟩=>[(0,Dp l),(1,Dp l),(5,eI .i64 k)]) (λ⟨k,c⟩=>[]) 0 (λ⟨k,c⟩=>l.length - k) (⟨0,by omega⟩) [] (Dn b rfl rfl) (by ((repeat' first|exact tI|rfl|refine And.intro ?_ ?_)<;>(simp[cX,zC,b]))) ?_;rintro⟨k,c⟩;(try dsimp only);(repeat first |refine sN rfl ?_ |((first|refine sA rfl ?_ ?_|refine s4 rfl ‹_› rfl ?_ ?_);first|exact tI|omega|simp only[oZ] at *;omega) |refine s2 rfl λ_ a=>?_ |refine s3 rfl ?_ ?_<;>rintro rfl |refine aU rfl ?_ |refine Aa ?_ |refine rE (by kernel_rfl) ?_);(refine aC rfl ?_ ?_<;>rintro⟨⟩)
 ·obtain⟨x,f⟩:=get_some (l:=l) (k:=k) (by first|omega|simp only[oZ] at *;omega)
  have e:=get_map (g:=Fa) f;(repeat' first |refine sN rfl ?_ |((first|refine sA rfl ?_ ?_|refine s4 rfl ‹_› rfl ?_ ?_);first|exact tI|omega|simp only[oZ] at *;omega) |refine s2 rfl λ_ a=>?_ |refine s3 rfl ?_ ?_<;>rintro rfl |refine aU rfl ?_ |refine Aa ?_ |refine rE (by kernel_rfl) ?_|(refine aC rfl ?_ ?_<;>rintro⟨⟩)|refine aK ?_|refine aE ?_|refine aB ?_|refine aR ⟨_,rfl,?_⟩)
  all_goals first
   | (exfalso;revert a;simp;done)
   | (exfalso;first|omega|simp only[oZ] at *;omega;done)
   | (refine⟨⟨k+1,by first|omega|simp only[oZ] at *;omega⟩,by dsimp only;(first|omega|simp only[oZ] at *;omega),[],?_⟩;simp[cX,zC,b];done)
 ·(repeat' first |refine sN rfl ?_ |((first|refine sA rfl ?_ ?_|refine s4 rfl ‹_› rfl ?_ ?_);first|exact tI|omega|simp only[oZ] at *;omega) |refine s2 rfl λ_ a=>?_ |refine s3 rfl ?_ ?_<;>rintro rfl |refine aU rfl ?_ |refine Aa ?_ |refine rE (by kernel_rfl) ?_|(refine aC rfl ?_ ?_<;>rintro⟨⟩)|refine aK ?_|refine aE ?_|refine aB ?_|refine aR ⟨_,rfl,?_⟩)
  all_goals rfl
theorem Pc(l:List (List Int)):Pure Tryz.prog TB 90 [Bu l,Bu l] (eB true):=by
 refine eN Tryz.func90 rfl (by kernel_rfl) rfl ?_;intro Z b;refine Al.bound 0 rfl λd=>?_;have h:=d (l.map CK) .refl;(repeat' first |refine sN rfl ?_ |((first|refine sA rfl ?_ ?_|refine s4 rfl ‹_› rfl ?_ ?_);first|exact tI|omega|simp only[oZ] at *;omega) |refine s2 rfl λ_ a=>?_ |refine s3 rfl ?_ ?_<;>rintro rfl |refine aU rfl ?_ |refine Aa ?_ |refine rE (by kernel_rfl) ?_|(refine aC rfl ?_ ?_<;>rintro⟨⟩)|refine aK ?_|refine aE ?_|refine aB ?_|refine aR ⟨_,rfl,?_⟩)
 all_goals try (exfalso;first|omega|simp only[oZ] at *;omega;done)
 refine Al.AS (α:={k:Nat // k<=l.length}) (λ⟨k,c⟩=>[(0,Bu l),(1,Bu l),(5,eI .i64 k)]) (λ⟨k,c⟩=>[]) 0 (λ⟨k,c⟩=>l.length - k) (⟨0,by omega⟩) [] (Dn b rfl rfl) (by ((repeat' first|exact tI|rfl|refine And.intro ?_ ?_)<;>(simp[cX,zC,b]))) ?_;rintro⟨k,c⟩;(try dsimp only);(repeat first |refine sN rfl ?_ |((first|refine sA rfl ?_ ?_|refine s4 rfl ‹_› rfl ?_ ?_);first|exact tI|omega|simp only[oZ] at *;omega) |refine s2 rfl λ_ a=>?_ |refine s3 rfl ?_ ?_<;>rintro rfl |refine aU rfl ?_ |refine Aa ?_ |refine rE (by kernel_rfl) ?_);(refine aC rfl ?_ ?_<;>rintro⟨⟩)
 ·obtain⟨x,f⟩:=get_some (l:=l) (k:=k) (by first|omega|simp only[oZ] at *;omega)
  have e:=get_map (g:=CK) f;(repeat' first |refine sN rfl ?_ |((first|refine sA rfl ?_ ?_|refine s4 rfl ‹_› rfl ?_ ?_);first|exact tI|omega|simp only[oZ] at *;omega) |refine s2 rfl λ_ a=>?_ |refine sP rfl (Rp x) rfl ?_ |refine s3 rfl ?_ ?_<;>rintro rfl |refine aU rfl ?_ |refine Aa ?_ |refine rE (by kernel_rfl) ?_|(refine aC rfl ?_ ?_<;>rintro⟨⟩)|refine aK ?_|refine aE ?_|refine aB ?_|refine aR ⟨_,rfl,?_⟩)
  all_goals first
   | (exfalso;revert a;simp;done)
   | (exfalso;first|omega|simp only[oZ] at *;omega;done)
   | (refine⟨⟨k+1,by first|omega|simp only[oZ] at *;omega⟩,by dsimp only;(first|omega|simp only[oZ] at *;omega),[],?_⟩;simp[cX,zC,b];done)
 ·(repeat' first |refine sN rfl ?_ |((first|refine sA rfl ?_ ?_|refine s4 rfl ‹_› rfl ?_ ?_);first|exact tI|omega|simp only[oZ] at *;omega) |refine s2 rfl λ_ a=>?_ |refine s3 rfl ?_ ?_<;>rintro rfl |refine aU rfl ?_ |refine Aa ?_ |refine rE (by kernel_rfl) ?_|(refine aC rfl ?_ ?_<;>rintro⟨⟩)|refine aK ?_|refine aE ?_|refine aB ?_|refine aR ⟨_,rfl,?_⟩)
  all_goals rfl
theorem DZ(a:A5):Pure Tryz.prog TB 32 [A9 a,A9 a] (eB true):=by
 refine eN Tryz.func32 rfl (by kernel_rfl) rfl ?_;intro Z c;(repeat' first |refine sN rfl ?_ |((first|refine sA rfl ?_ ?_|refine s4 rfl ‹_› rfl ?_ ?_);first|exact tI|omega|simp only[oZ] at *;omega) |refine s2 rfl λ_ b=>?_ |refine sP rfl (Pc a.nx) rfl ?_|refine sP rfl (Pb a.ac) rfl ?_ |refine s3 rfl ?_ ?_<;>rintro rfl |refine aU rfl ?_ |refine Aa ?_ |refine rE (by kernel_rfl) ?_|(refine aC rfl ?_ ?_<;>rintro⟨⟩)|refine aK ?_|refine aE ?_|refine aB ?_|refine aR ⟨_,rfl,?_⟩)
 all_goals first
  | rfl
  | (exfalso;first|omega|simp only[oZ] at *;omega;done)
  | (exfalso;revert b;simp;done)
end Go.Am
namespace Go.Am
open Go
set_option linter.unusedVariables false
theorem NS{a b:Nat}(ha:a < 2 ^ 62)(hb:b < 2 ^ 62):Pf .i64 a b=((a &&& b:Nat):Int):=by
 have d:a &&& b<=a:=Nat.and_le_left;unfold Pf
 have c:(BitVec.ofInt IntKind.i64.bits (a:Int) &&& BitVec.ofInt IntKind.i64.bits (b:Int)).toNat=a &&& b:=by
  have e:IntKind.i64.bits=64:=rfl;rw [e];simp only [BitVec.toNat_and,BitVec.ofInt_natCast,BitVec.toNat_ofNat];rw [de (by omega),de (by omega)]
 rw [c];exact IntWalk.i64_in _ (by omega)
theorem SB(s n:Nat):((s:Nat):Int).fdiv (2 ^ n)=((s / 2 ^ n:Nat):Int):=by
 have h:(0:Int)<=2 ^ n:=Int.le_of_lt (Int.pow_pos (by omega));rw [Int.fdiv_eq_ediv_of_nonneg _ h]
 push_cast
 rfl
theorem NC{s n:Nat}(d:s < 2 ^ 62)(f:n < 64):En (s:Nat) n=s.testBit n:=by
 unfold En
 have e:min n 64=n:=by omega
 rw [e,SB];have g:s / 2 ^ n<=s:=Nat.div_le_self _ _;have c:=NS (a:=s / 2 ^ n) (b:=1) (by omega) (by omega);rw [show ((1:Nat):Int)=1 from rfl] at c;rw [c,Nat.testBit_eq_decide_div_mod_eq,Nat.and_one_is_mod];congr 1;rw [eq_iff_iff];omega
theorem Vj{s a:Nat}:s &&& a=s↔∀n,s.testBit n=true->a.testBit n=true:=by
 constructor
 ·intro h n c
  have:=congrArg (·.testBit n) h;simp only [Nat.testBit_and,c,Bool.true_and] at this;exact this
 ·intro h
  apply Nat.eq_of_testBit_eq;intro n;rw [Nat.testBit_and];cases b:s.testBit n
  ·rfl
  ·rw [h n b];rfl
abbrev Wd:=List UInt8
def GF(c:UInt8):Bool:=decide (97<=c.toNat/\c.toNat < 103)
def El(w:Wd):Bool:=decide (w.length<=50000) && w.all GF
def Hn(w:Wd):Nat:=w.foldl (λs c=>s ||| 2 ^ (c.toNat - 97)) 0
def ML(al:Int)(c:UInt8):Bool:=GF c && En al (c.toNat - 97)
def within(w:Wd)(al:Int):Bool:=decide (w.length<=50000) && (BP al && w.all (ML al))
theorem NL(n:Nat):∀(w:Wd) (s:Nat),(w.foldl (λs c=>s ||| 2 ^ (c.toNat - 97)) s).testBit n=(s.testBit n || w.any λc=>decide (c.toNat - 97=n))
 | [],s=>by simp
 | c::w,s=>by
  rw [cY,NL n w,Nat.testBit_or,Nat.testBit_two_pow,List.any_cons,Bool.or_assoc]
theorem OB(w:Wd)(n:Nat):(Hn w).testBit n=w.any λc=>decide (c.toNat - 97=n):=by
 unfold Hn;rw [NL];simp
theorem Nh:∀ {w:Wd} {s:Nat},w.all GF=true->s < 64->w.foldl (λs c=>s ||| 2 ^ (c.toNat - 97)) s < 64
 | [],s,_,a=>a
 | c::w,s,h,a=>by
  simp only [List.all_cons,bu] at h;rw [cY];refine Nh h.2 ?_;have b:=h.1;unfold GF at b;simp only [decide_eq_true_eq] at b;have d:2 ^ (c.toNat - 97) < 2 ^ 6:=eo (by omega) (by omega);exact Nat.or_lt_two_pow (n:=6) a d
theorem U7{w:Wd}{al:Int}(f:w.all GF=true)(ha:BP al=true):decide (Pf .i64 (Hn w:Nat) al=(Hn w:Nat))=w.all (ML al):=by
 have k:Hn w < 64:=Nh f (by omega);unfold BP at ha;simp only [decide_eq_true_eq] at ha
 obtain⟨a,rfl⟩:∃a:Nat,al=a:=⟨al.toNat,by omega⟩
 rw [NS (by omega) (by omega)];rw [dT,decide_eq_true_eq,bH]
 have j:((Hn w &&& a:Nat):Int)=(Hn w:Nat)↔Hn w &&& a=Hn w:=by omega
 rw [j,Vj];rw [bH] at f;constructor
 ·intro h c e
  have b:=f c e;unfold ML;rw [b,Bool.true_and];unfold GF at b;simp only [decide_eq_true_eq] at b;rw [NC (by omega) (by omega)];refine h _ ?_;rw [OB,dM];exact⟨c,e,by simp⟩
 ·intro h n i
  rw [OB,dM] at i;obtain⟨c,e,d⟩:=i;simp only [decide_eq_true_eq] at d;have b:=f c e;have g:=h c e;unfold ML at g;rw [b,Bool.true_and] at g;unfold GF at b;simp only [decide_eq_true_eq] at b;rw [NC (by omega) (by omega),d] at g;exact g
theorem P0{w:Wd}{al:Int}(h:w.all (ML al)=true):w.all GF=true:=by
 rw [bH] at *;intro c a;have:=h c a;unfold ML at this;simp only [bu] at this;exact this.1
end Go.Am
namespace Go.Am
open Go Go.Proofs
set_option maxHeartbeats 1000000
set_option maxRecDepth 4000
attribute [local irreducible] AP BH Lex A4 Al Spec
variable {TB:Bg}
end Go.Am
