/-
  The program's search, the walk.
-/
import Derived.Test.YtbfgijpfhgmepaaGreatDoorPart13
import Derived.Test.YtbfgijpfhgmepaaGreatDoorPart9
set_option linter.constructorNameAsVariable false
set_option linter.unusedSectionVars false
set_option linter.unusedSimpArgs false
set_option linter.unusedVariables false
namespace Go.Am
open Go Go.Proofs
set_option maxHeartbeats 1000000
attribute [local irreducible] AX Cb Lex Bh Aj Spec
variable {TB:Bz}
theorem bZ{P:Program}{Z:Ctx}{d:Option Tmp}{ty:TypeId}{pos:String}{af:Array Edge}{g:Option (Nat×Bool)}{f:Env}{σ:Ab}{nx:Nat}{K:E->Ab->Nat->Prop}{T:TypeId}(k e:Nat)[r:BM P T [.slice none 0 0]]
 (u:K (.o (.ptr (nx+1) 1 0 0)) ((nx+1,.cells T 1 [[.arr nx k 0 0]])::(nx,.cells e k [])::σ) (nx+2)):Cb P TB Z ⟨d,.alloc T,ty,pos,af,g⟩ f σ nx K:=
 DA λV ρ z y x=>by
  subst x;obtain⟨i,zv,hi,b,a⟩:=Hp r.out
  have h:zv.cells = #[.slice none 0 0]:=by have:=congrArg List.toArray a;simpa using this
  obtain⟨m,p⟩:=y.alloc (c:=0) (nl:=True) (w:=V.w) (ob:=.cells e k []) rfl rfl rfl rfl (jp _) (λ_ _=>rfl) (.inl ⟨by simp [Ax],rfl⟩)
  have t:C8 (Ax V V.w.heap.size 0 True V.w) [.arr V.nx k 0 0] zv.cells:=by
   rw [h];refine⟨rfl,λj c v l q=>?_⟩
   match j with
   | 0=>simp at l q;subst l q;exact AG.nil (by simp [Ax]) (by simp [Ax])
   | j+1=>simp at l
  obtain⟨n,s⟩:=RN m (T:=T) t;refine⟨.pointer (some ⟨V.w.heap.size,0,none⟩),_,_,_,?_,p.trans s,n,?_,u⟩
  ·simp [execOp,Instr.alloc,zeroValue,typeInfo,hi,b,newVar,newRow,Ax,go_sem]
  ·exact Od
theorem Rp(r:Nat->Nat):∀(l m:List E),EP r (l++m)=EP r l++EP r m
 | [],m=>rfl
 | e::l,m=>by simp [EP,Rp r l m]
theorem Pj(r:Nat->Nat):∀(l:List C),EP r (l.map .o)=(C.Cv r l).map .o
 | []=>rfl
 | c::l=>by simp [EP,C.Cv,E.Be,Pj r l]
def gF(P:Program)(TB:Bz)(T:TypeId)(g:Gr)(gN:FuncId)(capsN:List C):Prop:=
 ∀(node l:Int) (outs:List Int),0<=node/\node < g.N->l∈g.ls->outs.length<=1099511627776->
  Spec P TB gN [(0,.cells T 1 (outs.map AD))] 1 ([eI .i64 node,eI .i64 l,.o (.arr 0 1 0 outs.length)]++capsN.map .o) (λx σ nx=>x=.o (.arr 1 1 0 (outs++g.succ node l).length)/\nx=2/\σ=[(1,.cells T 1 ((outs++g.succ node l).map AD))])
theorem KZ{g:Gr}(Q:IM g)(hN:g.N<=1048576)(X:∀l∈g.ls,0<=l/\l < 6)(hll:g.ls.length<=6)(hsl:∀(node l:Int),0<=node/\node < g.N->l∈g.ls->(g.succ node l).length<=g.N)
 {gN gG:FuncId} {capsN capsG:List C} (hNx:gF Tryz.prog TB 3 g gN capsN) (hG:∀n:Int,0<=n/\n < g.N->Pure Tryz.prog TB gG ([eI .i64 n]++capsG.map .o) (eB (g.goal n)))
 (hcG:C.Dg capsG=true) (d:∀r,C.Cv r capsG=capsG) (h:∀r,C.Cv r capsN=capsN) {r:Option (List Int)} (hr:Cy g r) :
 Pure Tryz.prog TB 79 [eI .i64 g.N,Ak [g.s0],Ak g.ls,.o (.fn gN capsN),.o (.fn gG capsG)] (KX r):=by
 refine eN Tryz.func79 rfl (by kernel_rfl) rfl ?_;intro Z b;(repeat first|refine aU rfl ?_);(refine pW rfl ?_ rfl (by rfl);refine C5 rfl rfl ?_);(repeat first|refine tM rfl ?_ |refine aU rfl ?_ |refine Aa ?_);(refine pW rfl ?_ rfl (by rfl);refine Kt rfl rfl (by rfl) (by rfl) (am rfl) (by omega) (by omega) (by omega) ?_)
 iterate 4 (first|refine tM rfl ?_ |refine aU rfl ?_ |refine Aa ?_)
 (refine pW rfl ?_ rfl (by rfl);refine bZ 3 175 ?_);(repeat first|refine tM rfl ?_ |refine aU rfl ?_ |refine Aa ?_);have K:=Xb (goal:=g.goal) (N:=g.N) (seen:=List.replicate g.N false) (nodes:=[g.s0]) (by simp) (by intro n u;simp at u;subst u;exact Q.s0);have A:=Vj (TB:=TB) hG hcG d (List.replicate g.N false) [] (-1) 0 [g.s0] (by simp) hN (by simp) (by intro n u;simp at u;subst u;exact Q.s0);(refine pW rfl ?_ rfl (by rfl);refine Ai [2,1,0,4,3] rfl rfl A ⟨rfl,by decide,by decide⟩ rfl (by simp[cX,zC,b,FQ,d,Ae,eC]) ?_;rintro x0 T U ⟨rfl,q,L,rfl⟩ _);generalize hV:SY g.goal (List.replicate g.N false) [g.s0]=v at *;obtain⟨vse,vfr,vfd⟩:=v;simp only;refine Aa ?_;refine Aj.names [2,1,0,4,if q=4 then 3 else 5] [(2,Ak g.ls),(3,.o (.fn gN capsN)),(12,.o (.ptr 0 1 0 0)),(13,.o (.ptr 3 1 0 0)),(14,.o (.fn 135 [.ptr 0 1 0 0,.ptr 2 1 0 0,.ptr 3 1 0 0])),(26,eB vfd)] (FQ g.N gG capsG vse 4 (EU [] (-1) 0 vfr)) (by simp [b]) (by rcases L with ⟨rfl,rfl⟩|⟨rfl,rfl⟩<;>decide)
  (by rcases L with ⟨rfl,rfl⟩|⟨rfl,rfl⟩<;>simp[cX,zC,b,h,eC]) (by rcases L with ⟨rfl,rfl⟩|⟨rfl,rfl⟩<;>simp[cX,zC,b,FQ,d,Ab.Be,BU,IA,eC]) ?_
 (refine aC rfl ?_ ?_<;>rintro⟨⟩)
 ·-- the start is a goal
  have hgs:g.goal g.s0=true:=by
   have h1:vfr.any g.goal=true:=K.fd.symm;obtain⟨x,J,P⟩:=o9.1 h1;have h2:=((K.fr x).1 J).1;simp at h2;subst h2;exact P
  have B:=Cy.unique hr (Cy.start hgs);subst B;(repeat first|refine tM rfl ?_ |refine aU rfl ?_ |refine Aa ?_);refine aR ⟨_,rfl,rfl⟩
 refine aK ?_;obtain⟨hfr,hF0⟩:=FI.init Q K rfl;simp only at hfr hF0;rw [hfr];(repeat first|refine tM rfl ?_ |refine aU rfl ?_ |refine Aa ?_);refine aB ?_;refine Aj.A2 (α:={x:Nat×List Bool×List NT×List (List Int) // FI g x.2.1 x.2.2.1 x.2.2.2 x.1 0}) (λ⟨⟨i,seen,steps,ws⟩,f⟩=>[(2,Ak g.ls),(3,.o (.fn gN capsN)),(12,.o (.ptr 0 1 0 0)),(13,.o (.ptr 3 1 0 0)),(14,.o (.fn 135 [.ptr 0 1 0 0,.ptr 2 1 0 0,.ptr 3 1 0 0])),(15,eI .i64 i)]) (λ⟨⟨i,seen,steps,ws⟩,f⟩=>FQ g.N gG capsG seen 4 steps) 5 (λ⟨⟨i,seen,steps,ws⟩,f⟩=>g.N - i) (⟨(0,vse,[⟨-1,0,[g.s0]⟩],[[]]),hF0⟩) [0,1,2,3,4] (DV b rfl rfl) (by (simp[cX,zC,b,FQ,d,h,EU])) ?_;rintro⟨⟨i,seen,steps,ws⟩,f⟩;(try dsimp only);simp only at f;have Y:=f.jW;(repeat first|refine tM rfl ?_ |refine s2 rfl λ_ _hb=>?_ |refine aU rfl ?_ |refine Aa ?_);(refine aC rfl ?_ ?_<;>rintro⟨⟩)
 ·have hi : i < steps.length:=by (simp only[oZ] at *;omega)
  obtain⟨s,H⟩:=get_some hi;have V:(steps.map Pv)[0+((i:Nat):Int).toNat]? = some (Pv s):=HA H;obtain⟨wi,z⟩:∃wi,ws[i]? = some wi:=get_some (by rw [f.wlen];exact hi);refine aK ?_;refine aS (aB ?_);(repeat first|refine sN rfl ?_ |refine tM rfl ?_ |refine aU rfl ?_ |refine Aa ?_);refine aB ?_;refine Aj.A2 (α:={x:Nat×List Bool×List NT×List (List Int) // x.1<=g.ls.length/\FI g x.2.1 x.2.2.1 x.2.2.2 i x.1/\i < x.2.2.1.length}) (λ⟨⟨j,c,st2,t⟩,hP⟩=>[(2,Ak g.ls),(3,.o (.fn gN capsN)),(12,.o (.ptr 0 1 0 0)),(13,.o (.ptr 3 1 0 0)),(14,.o (.fn 135 [.ptr 0 1 0 0,.ptr 2 1 0 0,.ptr 3 1 0 0])),(15,eI .i64 i),(33,Ak g.ls),(34,eI .i64 g.ls.length),(35,eI .i64 j)]) (λ⟨⟨j,c,st2,t⟩,hP⟩=>FQ g.N gG capsG c 4 st2) 5 (λ⟨⟨j,c,st2,t⟩,hP⟩=>g.ls.length - j) (⟨(0,seen,steps,ws),by simp,f,hi⟩) [0,1,2,3,4] (DV b rfl rfl) (by (simp[cX,zC,b,FQ,d,h])) ?_;rintro⟨⟨j,c,st2,t⟩,hP⟩;(try dsimp only);clear H V z f Y hi;obtain⟨hj,f,hi⟩:=hP;simp only at hj f hi;have Y:=f.jW;(repeat first|refine s2 rfl λ_ _hb=>?_ |refine aU rfl ?_ |refine Aa ?_);(refine aC rfl ?_ ?_<;>rintro⟨⟩)
  ·have hjl:j < g.ls.length:=by (simp only[oZ] at *;omega)
   obtain⟨l,hl⟩:=get_some (l:=g.ls) (k:=j) hjl;have hl':=get_map (g:=Bq) hl;have F:=co hl;have hlb:=X l F;obtain⟨s,H⟩:=get_some hi;have V:(st2.map Pv)[0+((i:Nat):Int).toNat]? = some (Pv s):=HA H;obtain⟨wi,z⟩:∃wi,t[i]? = some wi:=get_some (by rw [f.wlen];exact hi);have p:=f.inn s (co H);have hsnd:=Gl _ _ (f.nd s (co H)) p;refine aK ?_;refine aS (aB ?_);(repeat first|refine tM rfl ?_ |(refine s4 rfl ‹_› rfl ?_ ?_;omega) |refine aU rfl ?_ |refine Aa ?_);(refine pW rfl ?_ rfl (by rfl);refine Hc 1 3 ?_);(repeat first|refine sN rfl ?_ |(refine sM rfl ?_ ?_;first|exact tI|omega) |refine t4 rfl ‹_› rfl ?_ |refine aU rfl ?_ |refine Aa ?_);refine aB ?_;refine Aj.A2 (α:={m:Nat // m<=s.ns.length}) (λ⟨m,hm⟩=>[(2,Ak g.ls),(3,.o (.fn gN capsN)),(12,.o (.ptr 0 1 0 0)),(13,.o (.ptr 3 1 0 0)),(14,.o (.fn 135 [.ptr 0 1 0 0,.ptr 2 1 0 0,.ptr 3 1 0 0])),(15,eI .i64 i),(33,Ak g.ls),(34,eI .i64 g.ls.length),(35,eI .i64 j),(17,eI .i64 l),(18,.o (.arr 5 1 0 ((s.ns.take m).flatMap λn=>g.succ n l).length)),(43,Ak s.ns),(44,eI .i64 s.ns.length),(45,eI .i64 m)]) (λ⟨m,hm⟩=>FQ g.N gG capsG c 4 st2++[(5,.cells 3 1 (((s.ns.take m).flatMap λn=>g.succ n l).map AD))]) 6 (λ⟨m,hm⟩=>s.ns.length - m) (⟨0,by omega⟩) [0,1,2,3,4,5] (DV b rfl rfl) (by (simp[cX,zC,b,FQ,d,h])) ?_;rintro⟨m,hm⟩;(try dsimp only);(repeat first|refine s2 rfl λ_ _hb=>?_ |refine aU rfl ?_ |refine Aa ?_);(refine aC rfl ?_ ?_<;>rintro⟨⟩)
   ·obtain⟨n,u⟩:=get_some (l:=s.ns) (k:=m) (by (simp only[oZ] at *;omega))
    have hn':=get_map (g:=Bq) u;have hnb:=p n (co u)
    have hfm:(s.ns.take (m+1)).flatMap (λn=>g.succ n l)=(s.ns.take m).flatMap (λn=>g.succ n l)++g.succ n l:=by
     rw [d8,u];simp
    have hol:((s.ns.take m).flatMap λn=>g.succ n l).length<=1099511627776:=by
     have h2:=K1 (s.ns.take m) (λn=>g.succ n l) 1048576 (λx J=>by have:=hsl x l (p x (nt J)) F;omega)
     have h3:(s.ns.take m).length<=1048576:=by simp;omega
     omega
    have hnx:=hNx n l _ hnb F hol;generalize (s.ns.take m).flatMap (λn=>g.succ n l)=pre at *;refine aK ?_;refine aS (aB ?_);(repeat first|refine tM rfl ?_ |(refine s4 rfl ‹_› rfl ?_ ?_;omega) |refine aU rfl ?_ |refine Aa ?_);(refine pW rfl ?_ rfl (by rfl);refine Ai [5] rfl rfl hnx ⟨rfl,by decide,by decide⟩ (by rw [Rp,Pj,h];rfl) (by simp[cX,zC,b]) ?_;rintro x0 T U ⟨rfl,rfl,rfl⟩ _);(repeat first|(refine sM rfl ?_ ?_;first|exact tI|omega) |refine aU rfl ?_ |refine Aa ?_);refine⟨⟨m+1,by (simp only[oZ] at *;omega)⟩,by dsimp only;((simp only[oZ] at *;omega)),[0,1,2,3,4,6],?_⟩;simp[cX,zC,b,FQ,d,h,Ab.Be,BU,IA,hfm]
   ·obtain rfl:m=s.ns.length:=by (simp only[oZ] at *;omega)
    rw [io];have hR:∀y,y∈s.ns.flatMap (λn=>g.succ n l)↔∃n∈s.ns,y∈g.succ n l:=λy=>ow;generalize s.ns.flatMap (λn=>g.succ n l)=R at *
    have I:∀y∈R,0<=y/\y < g.N:=λy hy=>by
     obtain⟨n,u,hy⟩:=(hR y).1 hy;exact Q.inn n (p n u) l F y hy
    have hv:=Xb (goal:=g.goal) f.slen I;have A:=Vj (TB:=TB) hG hcG d c st2 i l R f.slen hN (by omega) I;generalize hV2:SY g.goal c R=v2 at *;refine aE ?_;refine Aj.freeze [5] [(2,Ak g.ls),(3,.o (.fn gN capsN)),(12,.o (.ptr 0 1 0 0)),(13,.o (.ptr 3 1 0 0)),(14,.o (.fn 135 [.ptr 0 1 0 0,.ptr 2 1 0 0,.ptr 3 1 0 0])),(15,eI .i64 i),(33,Ak g.ls),(34,eI .i64 g.ls.length),(35,eI .i64 j),(17,eI .i64 l),(18,Ak R)] ⟨⟨_,rfl,.AQ⟩,⟨_,rfl,.AQ⟩,⟨_,rfl,.AQ⟩,⟨_,rfl,.AQ⟩,⟨_,rfl,.AQ⟩,⟨_,rfl,.AQ⟩,⟨_,rfl,.AQ⟩,⟨_,rfl,.AQ⟩,⟨_,rfl,.AQ⟩,⟨_,rfl,.AQ⟩,⟨_,rfl,.o (.full (by simp) rfl (by simp [d5]) (by simp))⟩,trivial⟩ ?_;(repeat first|refine tM rfl ?_ |refine aU rfl ?_);(refine pW rfl ?_ rfl (by rfl);refine Ai [0,1,2,3,4] rfl rfl A ⟨rfl,by decide,by decide⟩ rfl (by simp[cX,zC,b,FQ,d,BU]) ?_;rintro x0 T U ⟨rfl,q,L,rfl⟩ _);obtain⟨vse,vfr,vfd⟩:=v2;simp only;refine Aa ?_;refine Aj.names [0,1,2,3,if q=4 then 4 else 6] [(2,Ak g.ls),(3,.o (.fn gN capsN)),(12,.o (.ptr 0 1 0 0)),(13,.o (.ptr 3 1 0 0)),(14,.o (.fn 135 [.ptr 0 1 0 0,.ptr 2 1 0 0,.ptr 3 1 0 0])),(15,eI .i64 i),(33,Ak g.ls),(34,eI .i64 g.ls.length),(35,eI .i64 j),(59,eB vfd)] (FQ g.N gG capsG vse 4 (EU st2 i l vfr)) (by simp [b]) (by rcases L with ⟨rfl,rfl⟩|⟨rfl,rfl⟩<;>decide)
     (by rcases L with ⟨rfl,rfl⟩|⟨rfl,rfl⟩<;>simp[cX,zC,b,h]) (by rcases L with ⟨rfl,rfl⟩|⟨rfl,rfl⟩<;>simp[cX,zC,b,FQ,d,Ab.Be,BU,IA]) ?_
    (refine aC rfl ?_ ?_<;>rintro⟨⟩)
    ·obtain⟨x,J,P⟩:∃x∈vfr,g.goal x=true:=by
      have h1:vfr.any g.goal=true:=hv.fd.symm;exact o9.1 h1
     have hxR:=((hv.fr x).1 J).1;obtain⟨n,u,hxn⟩:=(hR x).1 hxR;have G:=Cy.found Q f z hl H u hxn P;have B:=Cy.unique hr G;subst B
     have hne:vfr≠[]:=λe=>by rw [e] at J;cases J
     have hsv:EU st2 i l vfr=st2++[⟨i,l,vfr⟩]:=by unfold EU;rw [if_neg hne]
     rw [hsv];have hch:=f.YN.app (ns:=vfr) z F;have hpw:=Uo (TB:=TB) hch X (w:=wi++[l]) (by simp;omega) (by simp [f.wlen]);generalize hst3:st2++[⟨(i:Int),l,vfr⟩]=st3 at *;(repeat first|refine tM rfl ?_|(refine Ag rfl ?_;refine gA rfl ?_;first| refine gQ (Io rfl rfl ((.cons (.o (.full rfl (by simp [d5]) (by simp))) .nil)) (hpw) rfl) rfl ?_) |refine aU rfl ?_ |refine Aa ?_);refine aR ⟨_,rfl,rfl⟩
    ·have S:=f.visit Q z hl H hR hv rfl
     have M:i < (EU st2 i l vfr).length:=by unfold EU;split<;>(try simp)<;>omega
     refine aK ?_;(repeat first|(refine sM rfl ?_ ?_;first|exact tI|omega) |refine aU rfl ?_ |refine Aa ?_);refine⟨⟨(j+1,vse,EU st2 i l vfr,l4 t (wi++[l]) vfr),hjl,S,M⟩,by dsimp only;omega,[0,1,2,3,4],?_⟩;simp[cX,zC,b,FQ,d,h]
  ·obtain rfl:j=g.ls.length:=by (simp only[oZ] at *;omega)
   have S:=f.kc hi;refine aE ?_;(repeat first|(refine sM rfl ?_ ?_;first|exact tI|omega) |refine aU rfl ?_ |refine Aa ?_);refine⟨⟨(i+1,c,st2,t),S⟩,by dsimp only;omega,[0,1,2,3,4],?_⟩;simp[cX,zC,b,FQ,d,h]
 ·have hle:=f.le
  obtain rfl:i=steps.length:=by (simp only[oZ] at *;omega)
  have G:=Cy.mM Q f;have B:=Cy.unique hr G;subst B;refine aE ?_;(repeat first|refine tM rfl ?_ |refine aU rfl ?_ |refine Aa ?_);refine aR ⟨_,rfl,rfl⟩
def FO(a p:AZ)(node letter:Int):Int:=CA a (node / p.nx.length % a.nx.length).toNat letter*p.nx.length+CA p (node % p.nx.length).toNat letter
def Ji(l:List Sys)(a p:AZ)(node letter:Int):List Int:=(Et (l.map (·.st)) (Y3 l (node / p.nx.length / a.nx.length) letter)).map λo=>o*a.nx.length*p.nx.length+FO a p node letter
def Nf(a p:AZ)(node:Int):Bool:=a.ac.getD (node / p.nx.length % a.nx.length).toNat false && !p.ac.getD (node % p.nx.length).toNat false
def gI(l:List Sys)(a p:AZ)(ls:List Int):Gr:=⟨(Aw (l.map (·.st))*a.nx.length*p.nx.length).toNat,Ji l a p,Nf a p,ls,0⟩
theorem LG{a:AZ}{q:Nat}(h:q < a.nx.length):(GS a)[q]? = some (WI λl=>CA a q l):=DK (g:=λq=>WI λl=>CA a q l) h
theorem Je{h:Nat->Int}{l:Int}(d:0<=l)(c:l < 6):((WI h).drop (l.toNat*1))[0]? = some (iD (h l.toNat)):=by
 rw [nA]
 have b:l.toNat*1+0=l.toNat:=by omega
 have a:l.toNat < 6:=by omega
 rw [b];simp [WI,a]
theorem dq{outs low:List Int}{h:Int->Int}{k:Nat}{x:Int}(a:low[k]? = some x):(outs++((low.take k).map h++low.drop k)).set (outs.length+k) (h x)=outs++((low.take (k+1)).map h++low.drop (k+1)):=by
 have hk:=(ce.1 a).1;rw [pO _ _ (by omega),pO _ _ (by simp;omega)];congr 1
 have e:outs.length+k - outs.length - ((low.take k).map h).length=0:=by simp;omega
 rw [e,BA a,d8,a];simp
theorem Cm{a:AZ}(h:AP a=true):1<=a.nx.length/\a.nx.length<=12:=by have:=AH h;omega
theorem Jc{l:List Sys}(h:∀s∈l,AU s=true)(d:l.length<=3):1<=Aw (l.map (·.st))/\Aw (l.map (·.st))<=4096:=by
 have a:∀z∈l.map (·.st),1<=z/\z<=16:=by
  intro z b;obtain⟨s,c,rfl⟩:=d9.1 b;have:=AN (h s c);omega
 have f:=HL _ a
 have e:(16:Int) ^ (l.map (·.st)).length<=4096:=by
  have:(l.map (·.st)).length<=3:=by simp;omega
  generalize (l.map (·.st)).length=n at this
  have:n=0\/n=1\/n=2\/n=3:=by omega
  rcases this with rfl|rfl|rfl|rfl<;>decide
 omega
theorem UA{a p:AZ}(ha:AP a=true)(b:AP p=true){node letter:Int}(g:0<=node)(d:0<=letter)(c:letter < 6):0<=FO a p node letter/\FO a p node letter < a.nx.length*p.nx.length:=by
 have o:=Cm ha;have l:=Cm b
 have k:0<=node / p.nx.length % a.nx.length/\node / p.nx.length % a.nx.length < a.nx.length:=⟨oa _ (by omega),nW _ (by omega)⟩
 have j:0<=node % p.nx.length/\node % p.nx.length < p.nx.length:=⟨oa _ (by omega),nW _ (by omega)⟩
 have f:=Dl ha (q:=(node / p.nx.length % a.nx.length).toNat) (by omega) d c;have i:=Dl b (q:=(node % p.nx.length).toNat) (by omega) d c;unfold FO;generalize CA a _ letter=x at *;generalize CA p _ letter=y at *;generalize (a.nx.length:Int)=n at *;generalize (p.nx.length:Int)=m at *;have h:0<=x*m:=nQ f.1 (by omega);have e:(x+1)*m<=n*m:=oz (by omega) (by omega);rw [pm] at e;omega
theorem Ui[Dt TB]{l:List Sys}{a p:AZ}(h:∀s∈l,AU s=true)(M:l.length<=3)(ha:AP a=true)(I:AP p=true)(node letter:Int)(d:0<=node)(hn1:node<=1048576)(j:0<=letter)(f:letter < 6)(outs:List Int)(J:outs.length<=1099511627776) :
 Spec Tryz.prog TB 161 [(0,.cells 3 1 (outs.map AD))] 1 [eI .i64 node,eI .i64 letter,.o (.arr 0 1 0 outs.length),.o (.ip [.l (GS a)]),.o (.ip [iD p.nx.length]),.o (.ip [iD a.nx.length]),.o (.ip [.l (GS p)]),.o (.ip (GM l))]
  (λx σ nx=>x=.o (.arr 1 1 0 (outs++Ji l a p node letter).length)/\nx=2/\σ=[(1,.cells 3 1 ((outs++Ji l a p node letter).map AD))]):=by
 have han:=Cm ha;have hpn:=Cm I;have F:=UA ha I d j f;have u:0<=node / p.nx.length:=pg d (by omega);have X:node / p.nx.length<=node:=o7 _ d;have H:0<=node / p.nx.length / a.nx.length:=pg u (by omega);have V:node / p.nx.length / a.nx.length<=node / p.nx.length:=o7 _ u
 have h4:0<=node / p.nx.length % a.nx.length/\node / p.nx.length % a.nx.length < a.nx.length:=⟨oa _ (by omega),nW _ (by omega)⟩
 have h5:0<=node % p.nx.length/\node % p.nx.length < p.nx.length:=⟨oa _ (by omega),nW _ (by omega)⟩
 have h6:=Dl ha (q:=(node / p.nx.length % a.nx.length).toNat) (by omega) j f;have h7:=Dl I (q:=(node % p.nx.length).toNat) (by omega) j f;have U:=LG (a:=a) (q:=(node / p.nx.length % a.nx.length).toNat) (by omega);have T:=LG (a:=p) (q:=(node % p.nx.length).toNat) (by omega);have t:=Je (h:=λl=>CA a (node / p.nx.length % a.nx.length).toNat l) j f;have r:=Je (h:=λl=>CA p (node % p.nx.length).toNat l) j f
 have el:((letter.toNat:Nat):Int)=letter:=by omega
 have h8:0<=CA a (node / p.nx.length % a.nx.length).toNat letter*p.nx.length/\CA a (node / p.nx.length % a.nx.length).toNat letter*p.nx.length<=144:=⟨nQ h6.1 (by omega),by
  have:CA a (node / p.nx.length % a.nx.length).toNat letter*p.nx.length<=12*12:=nN (by omega) (by omega) (by omega) (by omega)
  omega⟩
 simp only [el] at t r;have K:=fh (TB:=TB) l h M (node / p.nx.length / a.nx.length) letter H (by omega) j f outs J;have w:=Sg (RR h M j f (node / p.nx.length / a.nx.length));have Y:=Jc h M;have G:CA a (node / p.nx.length % a.nx.length).toNat letter*p.nx.length+CA p (node % p.nx.length).toNat letter=FO a p node letter:=rfl;unfold Ji;generalize Et (l.map (·.st)) (Y3 l (node / p.nx.length / a.nx.length) letter)=low at *;refine eN Tryz.func161 rfl (by kernel_rfl) rfl ?_;intro Z b;(repeat first |refine sN rfl ?_ |((first|refine sA rfl ?_ ?_|refine s4 rfl ‹_› rfl ?_ ?_);first|exact tI|omega|simp only[oZ] at *;omega) |refine s2 rfl λ_ c=>?_ |refine s3 rfl ?_ ?_<;>rintro rfl |refine aU rfl ?_ |refine Aa ?_);refine rG (Gj []) (by kernel_rfl) ?_;(repeat first |refine sN rfl ?_ |((first|refine sA rfl ?_ ?_|refine s4 rfl ‹_› rfl ?_ ?_);first|exact tI|omega|simp only[oZ] at *;omega) |refine s2 rfl λ_ c=>?_|(refine Ag rfl ?_;refine gA rfl ?_;first|refine gS (λ_ _=>EB rfl t) ?_|refine gS (λ_ _=>EB rfl r) ?_) |refine s3 rfl ?_ ?_<;>rintro rfl |refine aU rfl ?_ |refine Aa ?_);rw [G];refine rG (Gj [8]) (by kernel_rfl) ?_;(repeat first |refine sN rfl ?_ |((first|refine sA rfl ?_ ?_|refine s4 rfl ‹_› rfl ?_ ?_);first|exact tI|omega|simp only[oZ] at *;omega) |refine s2 rfl λ_ c=>?_ |refine s3 rfl ?_ ?_<;>rintro rfl |refine aU rfl ?_ |refine Aa ?_);(refine pW rfl ?_ rfl (by rfl);refine Ai [0] rfl rfl K ⟨rfl,by decide,by decide⟩ rfl (by simp[cX,zC,b]) ?_;rintro x0 R S ⟨rfl,rfl,rfl⟩ _);(repeat first |refine sN rfl ?_ |((first|refine sA rfl ?_ ?_|refine s4 rfl ‹_› rfl ?_ ?_);first|exact tI|omega|simp only[oZ] at *;omega) |refine s2 rfl λ_ c=>?_ |refine s3 rfl ?_ ?_<;>rintro rfl |refine aU rfl ?_ |refine Aa ?_);refine aB ?_
 have L:∀k,((outs++((low.take k).map (λo=>o*a.nx.length*p.nx.length+FO a p node letter)++low.drop k)).length)=outs.length+low.length:=by intro k;simp;omega
 refine Aj.A2 (α:={k:Nat // k<=low.length}) (λ⟨k,hk⟩=>[(2,.o (.arr 1 1 0 (outs.length+low.length))),(4,.o (.ip [iD p.nx.length])),(5,.o (.ip [iD a.nx.length])),(12,eI .i64 (FO a p node letter)),(14,eI .i64 ((outs.length+k:Nat):Int))]) (λ⟨k,hk⟩=>[(1,.cells 3 1 ((outs++((low.take k).map (λo=>o*a.nx.length*p.nx.length+FO a p node letter)++low.drop k)).map AD))]) 2 (λ⟨k,hk⟩=>low.length - k) (⟨0,by omega⟩) [0,1] (DV b rfl rfl) (by ((repeat' first|exact tI|rfl|refine And.intro ?_ ?_)<;>(simp[cX,zC,b,Ab.Be,BU,IA]))) ?_;rintro⟨k,hk⟩;(try dsimp only);(repeat first |refine sN rfl ?_ |((first|refine sM rfl ?_ ?_|refine s4 rfl ‹_› rfl ?_ ?_);first|exact tI|omega|simp only[oZ] at *;omega) |refine s2 rfl λ_ c=>?_ |refine s3 rfl ?_ ?_<;>rintro rfl |refine aU rfl ?_ |refine Aa ?_ |refine rE (by kernel_rfl) ?_);(refine aC rfl ?_ ?_<;>rintro⟨⟩)
 ·have z:k < low.length:=by first|omega|simp only[oZ] at *;omega
  obtain⟨x,B⟩:=get_some (l:=low) (k:=k) z;have A:=w.1 x (co B);have n:=dq (outs:=outs) (h:=λo=>o*a.nx.length*p.nx.length+FO a p node letter) B
  have P:(outs++((low.take k).map (λo=>o*a.nx.length*p.nx.length+FO a p node letter)++low.drop k))[outs.length+k]? = some x:=by
   rw [gc (by omega),gc (by simp;omega),BA B]
   have e:outs.length+k - outs.length - ((low.take k).map (λo=>o*a.nx.length*p.nx.length+FO a p node letter)).length=0:=by simp;omega
   rw [e];rfl
  have Q:=HA (g:=AD) P
  have v:0<=x*a.nx.length/\x*a.nx.length<=49152:=⟨nQ A.1 (by omega),by
   have:x*a.nx.length<=4096*12:=nN (by omega) (by omega) (by omega) (by omega)
   omega⟩
  have hm2:0<=x*a.nx.length*p.nx.length/\x*a.nx.length*p.nx.length<=589824:=⟨nQ v.1 (by omega),by
   have:x*a.nx.length*p.nx.length<=49152*12:=nN v.2 (by omega) (by omega) (by omega)
   omega⟩
  have hm3:(a.nx.length:Int)*p.nx.length<=144:=by
   have:(a.nx.length:Int)*p.nx.length<=12*12:=nN (by omega) (by omega) (by omega) (by omega);omega
  have hlk:=L k
  have N:((outs.length+k:Nat):Int)+1=((outs.length+(k+1):Nat):Int):=by omega
  have m:=HP (l:=outs++((low.take k).map (λo=>o*a.nx.length*p.nx.length+FO a p node letter)++low.drop k)) (k:=outs.length+k) (x:=x) (y:=x*a.nx.length*p.nx.length+FO a p node letter);rw [n] at m;generalize outs++((low.take k).map (λo=>o*a.nx.length*p.nx.length+FO a p node letter)++low.drop k)=cur at *;refine aK ?_;refine aS (aB ?_);refine rG (Gj [13]) (by kernel_rfl) ?_;(repeat first |refine sN rfl ?_ |((first|refine sM rfl ?_ ?_|refine s4 rfl ‹_› rfl ?_ ?_);first|exact tI|omega|simp only[oZ] at *;omega) |refine s2 rfl λ_ c=>?_ |refine s3 rfl ?_ ?_<;>rintro rfl |refine aU rfl ?_ |refine Aa ?_ |refine rE (by kernel_rfl) ?_);refine⟨⟨k+1,z⟩,by dsimp only;omega,[0,1],?_⟩;rw [m,N];simp[cX,zC,b]
 ·obtain rfl:k=low.length:=by first|omega|simp only[oZ] at *;omega
  rw [io,pB,nO];refine aE ?_;(repeat first |refine sN rfl ?_ |((first|refine sM rfl ?_ ?_|refine s4 rfl ‹_› rfl ?_ ?_);first|exact tI|omega|simp only[oZ] at *;omega) |refine s2 rfl λ_ c=>?_ |refine s3 rfl ?_ ?_<;>rintro rfl |refine aU rfl ?_ |refine Aa ?_ |refine rE (by kernel_rfl) ?_);refine Aj.names [0,1] [(11,.o (.arr 1 1 0 (outs.length+low.length)))] [(1,.cells 3 1 ((outs++low.map λo=>o*a.nx.length*p.nx.length+FO a p node letter).map AD))] (by intro i hi;rw [b] at hi;obtain rfl:i=0:=(by omega);rfl) (by simp) (by simp[cX,zC,b]) (by simp[cX,zC,b]) ?_;refine aR ⟨_,rfl,by simp,rfl,rfl⟩
theorem RK(s:Sys):Pure Tryz.prog TB 166 [Bv s] (eB (!AU s)):=by
 refine eN Tryz.func166 rfl (by kernel_rfl) rfl ?_;intro Z b;(repeat' first |refine sN rfl ?_ |((first|refine sA rfl ?_ ?_|refine s4 rfl ‹_› rfl ?_ ?_);first|exact tI|omega|simp only[oZ] at *;omega) |refine s2 rfl λ_ a=>?_ |(refine sC rfl (BY s) ?_;intro _ a) |refine s3 rfl ?_ ?_<;>rintro rfl |refine aU rfl ?_ |refine Aa ?_ |refine rE (by kernel_rfl) ?_|(refine aC rfl ?_ ?_<;>rintro⟨⟩)|refine aK ?_|refine aE ?_|refine aB ?_|refine aR ⟨_,rfl,?_⟩)
 all_goals (show E.o _=E.o _;congr;grind)
def VA:List Sys->Int->Int
 | [],_=>-1
 | s::l,k=>if AU s then VA l (k+1) else k
theorem Tt:∀(l:List Sys) (k:Int),0<=k->(decide (0<=VA l k) = !l.all AU)
 | [],_,_=>rfl
 | s::l,k,h=>by
  unfold VA;by_cases a:AU s=true
  ·rw [if_pos a,Tt l (k+1) (by omega)];simp [a]
  ·rw [if_neg a];simp [a,h]
theorem Sb(l:List Sys):Pure Tryz.prog TB 208 [GC l,.o (.fn 166 [])] (eI .i64 (VA l 0)):=by
 refine eN Tryz.func208 rfl (by kernel_rfl) rfl ?_;intro Z b;refine Aj.bound 0 rfl λc=>?_;have f:=c (l.map AI) .refl;(repeat' first |refine sN rfl ?_ |((first|refine sA rfl ?_ ?_|refine s4 rfl ‹_› rfl ?_ ?_);first|exact tI|omega|simp only[oZ] at *;omega) |refine s2 rfl λ_ a=>?_ |refine s3 rfl ?_ ?_<;>rintro rfl |refine aU rfl ?_ |refine Aa ?_ |refine rE (by kernel_rfl) ?_|(refine aC rfl ?_ ?_<;>rintro⟨⟩)|refine aK ?_|refine aE ?_|refine aB ?_|refine aR ⟨_,rfl,?_⟩);refine Aj.A2 (α:={k:Nat // k<=l.length/\VA l 0=VA (l.drop k) k}) (λ⟨k,hk,ha⟩=>[(0,GC l),(1,.o (.fn 166 [])),(7,eI .i64 l.length),(8,eI .i64 k)]) (λ⟨k,hk,ha⟩=>[]) 0 (λ⟨k,hk,ha⟩=>l.length - k) (⟨0,by omega,rfl⟩) [] (DV b rfl rfl) (by ((repeat' first|exact tI|rfl|refine And.intro ?_ ?_)<;>(simp[cX,zC,b]))) ?_;rintro⟨k,hk,ha⟩;(try dsimp only);(repeat first |refine sN rfl ?_ |((first|refine sA rfl ?_ ?_|refine s4 rfl ‹_› rfl ?_ ?_);first|exact tI|omega|simp only[oZ] at *;omega) |refine s2 rfl λ_ a=>?_ |refine s3 rfl ?_ ?_<;>rintro rfl |refine aU rfl ?_ |refine Aa ?_ |refine rE (by kernel_rfl) ?_);(refine aC rfl ?_ ?_<;>rintro⟨⟩)
 ·obtain⟨x,d⟩:=get_some (l:=l) (k:=k) (by first|omega|simp only[oZ] at *;omega)
  have e:=get_map (g:=AI) d;rw [BA d,VA] at ha;(repeat' first |refine sN rfl ?_ |((first|refine sA rfl ?_ ?_|refine s4 rfl ‹_› rfl ?_ ?_);first|exact tI|omega|simp only[oZ] at *;omega) |refine s2 rfl λ_ a=>?_ |(refine sC rfl (RK x) ?_;intro _ a) |refine s3 rfl ?_ ?_<;>rintro rfl |refine aU rfl ?_ |refine Aa ?_ |refine rE (by kernel_rfl) ?_|(refine aC rfl ?_ ?_<;>rintro⟨⟩)|refine aK ?_|refine aE ?_|refine aB ?_|refine aR ⟨_,rfl,?_⟩)
  ·rw [if_neg (by grind)] at ha
   show E.o _=E.o _;rw [ha]
  ·rw [if_pos (by grind)] at ha
   refine⟨⟨k+1,by first|omega|simp only[oZ] at *;omega,by rw [ha];rfl⟩,by dsimp only;(first|omega|simp only[oZ] at *;omega),[],?_⟩;simp[cX,zC,b]
 ·(repeat' first |refine sN rfl ?_ |((first|refine sA rfl ?_ ?_|refine s4 rfl ‹_› rfl ?_ ?_);first|exact tI|omega|simp only[oZ] at *;omega) |refine s2 rfl λ_ a=>?_ |refine s3 rfl ?_ ?_<;>rintro rfl |refine aU rfl ?_ |refine Aa ?_ |refine rE (by kernel_rfl) ?_|(refine aC rfl ?_ ?_<;>rintro⟨⟩)|refine aK ?_|refine aE ?_|refine aB ?_|refine aR ⟨_,rfl,?_⟩)
  rw [ox (by first|omega|simp only[oZ] at *;omega)] at ha
  show E.o _=E.o _;rw [ha];rfl
theorem NK(l:List Sys):Pure Tryz.prog TB 165 [GC l,.o (.fn 166 [])] (eB (!l.all AU)):=by
 have hb:=Tt l 0 (by omega);refine eN Tryz.func165 rfl (by kernel_rfl) rfl ?_;intro Z a;(repeat' first |refine sN rfl ?_ |((first|refine sA rfl ?_ ?_|refine s4 rfl ‹_› rfl ?_ ?_);first|exact tI|omega|simp only[oZ] at *;omega) |refine s2 rfl λ_ b=>?_ |refine sP rfl (Sb l) rfl ?_ |refine s3 rfl ?_ ?_<;>rintro rfl |refine aU rfl ?_ |refine Aa ?_ |refine rE (by kernel_rfl) ?_|(refine aC rfl ?_ ?_<;>rintro⟨⟩)|refine aK ?_|refine aE ?_|refine aB ?_|refine aR ⟨_,rfl,?_⟩)
 all_goals (show E.o _=E.o _;congr;grind)
theorem IP(l:List Sys):Pure Tryz.prog TB 112 [GC l] (eB (A1 l)):=by
 refine eN Tryz.func112 rfl (by kernel_rfl) rfl ?_;intro Z b;(repeat' first |refine sN rfl ?_ |((first|refine sA rfl ?_ ?_|refine s4 rfl ‹_› rfl ?_ ?_);first|exact tI|omega|simp only[oZ] at *;omega) |refine s2 rfl λ_ a=>?_ |(refine sC rfl (NK l) ?_;intro _ a) |refine s3 rfl ?_ ?_<;>rintro rfl |refine aU rfl ?_ |refine Aa ?_ |refine rE (by kernel_rfl) ?_|(refine aC rfl ?_ ?_<;>rintro⟨⟩)|refine aK ?_|refine aE ?_|refine aB ?_|refine aR ⟨_,rfl,?_⟩)
 all_goals (show E.o _=E.o _;congr;unfold A1;grind)
theorem FF(l:List Sys):Pure Tryz.prog TB 160 [GC l] (eI .i64 (Bx l)):=by
 refine eN Tryz.func160 rfl (by kernel_rfl) rfl ?_;intro Z b;refine Aj.bound 0 rfl λe=>?_;have i:=e (l.map AI) .refl;(repeat' first |refine sN rfl ?_ |((first|refine sA rfl ?_ ?_|refine s4 rfl ‹_› rfl ?_ ?_);first|exact tI|omega|simp only[oZ] at *;omega) |refine s2 rfl λ_ a=>?_ |(refine sC rfl (IP l) ?_;intro _ a) |refine s3 rfl ?_ ?_<;>rintro rfl |refine aU rfl ?_ |refine Aa ?_ |refine rE (by kernel_rfl) ?_|(refine aC rfl ?_ ?_<;>rintro⟨⟩)|refine aK ?_|refine aE ?_|refine aB ?_|refine aR ⟨_,rfl,?_⟩)
 all_goals try (show E.o _=E.o _;congr;unfold Bx;rw [if_neg (by grind)])
 have d:A1 l=true:=by grind
 refine Aj.A2 (α:={k:Nat // k<=l.length}) (λ⟨k,hk⟩=>[(3,eI .i64 (Hm (l.take k) 0)),(9,GC l),(10,eI .i64 l.length),(11,eI .i64 k)]) (λ⟨k,hk⟩=>[]) 0 (λ⟨k,hk⟩=>l.length - k) (⟨0,by omega⟩) [] (DV b rfl rfl) (by ((repeat' first|exact tI|rfl|refine And.intro ?_ ?_)<;>(simp[cX,zC,b]))) ?_;rintro⟨k,hk⟩;(try dsimp only);(repeat first |refine sN rfl ?_ |((first|refine sA rfl ?_ ?_|refine s4 rfl ‹_› rfl ?_ ?_);first|exact tI|omega|simp only[oZ] at *;omega) |refine s2 rfl λ_ a=>?_ |refine s3 rfl ?_ ?_<;>rintro rfl |refine aU rfl ?_ |refine Aa ?_ |refine rE (by kernel_rfl) ?_);(refine aC rfl ?_ ?_<;>rintro⟨⟩)
 ·obtain⟨x,f⟩:=get_some (l:=l) (k:=k) (by first|omega|simp only[oZ] at *;omega)
  have h:=get_map (g:=AI) f
  have c:Hm (l.take (k+1)) 0=Gk .i64 (Hm (l.take k) 0) x.al:=by unfold Hm;rw [GF f]
  (repeat' first |refine sN rfl ?_ |((first|refine sA rfl ?_ ?_|refine s4 rfl ‹_› rfl ?_ ?_);first|exact tI|omega|simp only[oZ] at *;omega) |refine s2 rfl λ_ a=>?_ |refine s3 rfl ?_ ?_<;>rintro rfl |refine aU rfl ?_ |refine Aa ?_ |refine rE (by kernel_rfl) ?_|(refine aC rfl ?_ ?_<;>rintro⟨⟩)|refine aK ?_|refine aE ?_|refine aB ?_|refine aR ⟨_,rfl,?_⟩);refine⟨⟨k+1,by first|omega|simp only[oZ] at *;omega⟩,by dsimp only;(first|omega|simp only[oZ] at *;omega),[],?_⟩;simp[cX,zC,b,c]
 ·(repeat' first |refine sN rfl ?_ |((first|refine sA rfl ?_ ?_|refine s4 rfl ‹_› rfl ?_ ?_);first|exact tI|omega|simp only[oZ] at *;omega) |refine s2 rfl λ_ a=>?_ |refine s3 rfl ?_ ?_<;>rintro rfl |refine aU rfl ?_ |refine Aa ?_ |refine rE (by kernel_rfl) ?_|(refine aC rfl ?_ ?_<;>rintro⟨⟩)|refine aK ?_|refine aE ?_|refine aB ?_|refine aR ⟨_,rfl,?_⟩)
  rw [ge (by first|omega|simp only[oZ] at *;omega)]
  show E.o _=E.o _;congr;unfold Bx;rw [if_pos d]
theorem TN{a p:AZ}(ha:AP a=true)(e:AP p=true)(node:Int)(d:0<=node)(n:node<=1048576):Pure Tryz.prog TB 163 [eI .i64 node,.o (.ip [.p (AL a)]),.o (.ip [iD p.nx.length]),.o (.ip [iD a.nx.length]),.o (.ip (AL p))] (eB (Nf a p node)):=by
 have t:=Cm ha;have j:=Cm e;have u:=AH ha;have m:=AH e;have i:0<=node / p.nx.length:=pg d (by omega);have h:node / p.nx.length<=node:=o7 _ d
 have x:0<=node / p.nx.length % a.nx.length/\node / p.nx.length % a.nx.length < a.nx.length:=⟨oa _ (by omega),nW _ (by omega)⟩
 have w:0<=node % p.nx.length/\node % p.nx.length < p.nx.length:=⟨oa _ (by omega),nW _ (by omega)⟩
 obtain⟨b,hb⟩:=get_some (l:=a.ac) (k:=(node / p.nx.length % a.nx.length).toNat) (by omega);obtain⟨c,f⟩:=get_some (l:=p.ac) (k:=(node % p.nx.length).toNat) (by omega)
 have s:(a.ac.map IQ)[(node / p.nx.length % a.nx.length).toNat]? = some (IQ b):=by simp [hb]
 have r:(p.ac.map IQ)[(node % p.nx.length).toNat]? = some (IQ c):=by simp [f]
 have q:Nf a p node=(b && !c):=by simp [Nf,List.getD,hb,f]
 rw [q];refine eN Tryz.func163 rfl (by kernel_rfl) rfl ?_;intro Z g;(repeat' first |refine sN rfl ?_ |((first|refine sA rfl ?_ ?_|refine s4 rfl ‹_› rfl ?_ ?_);first|exact tI|omega|simp only[oZ] at *;omega) |refine s2 rfl λ_ v=>?_ |refine s3 rfl ?_ ?_<;>rintro rfl |refine aU rfl ?_ |refine Aa ?_ |refine rE (by kernel_rfl) ?_|(refine aC rfl ?_ ?_<;>rintro⟨⟩)|refine aK ?_|refine aE ?_|refine aB ?_|refine aR ⟨_,rfl,?_⟩)
 all_goals (show E.o _=E.o _;first|rfl|(congr;grind))
theorem UY(a:AZ):(GS a).length=a.nx.length:=by simp [GS,BG]
def NI:AZ:=⟨0,[[]],[true]⟩
theorem eb:AP NI=true:=by decide
theorem ij{l:List Sys}{a p:AZ}{ls:List Int}(h:∀s∈l,AU s=true)(d:l.length<=3)(ha:AP a=true)(c:AP p=true):((gI l a p ls).N:Int)=Aw (l.map (·.st))*a.nx.length*p.nx.length/\1<=(gI l a p ls).N/\(gI l a p ls).N<=1048576:=by
 have b:=Jc h d;have m:=Cm ha;have k:=Cm c;have j:(gI l a p ls).N=(Aw (l.map (·.st))*a.nx.length*p.nx.length).toNat:=rfl;have i:Aw (l.map (·.st))*a.nx.length<=4096*12:=nN b.2 (by omega) (by omega) (by omega);have g:1*1<=Aw (l.map (·.st))*a.nx.length:=nN b.1 (by omega) (by omega) (by omega);have f:Aw (l.map (·.st))*a.nx.length*p.nx.length<=49152*12:=nN (by omega) (by omega) (by omega) (by omega);have e:1*1<=Aw (l.map (·.st))*a.nx.length*p.nx.length:=nN (by omega) (by omega) (by omega) (by omega);omega
theorem Px{l:List Sys}{a p:AZ}(h:∀s∈l,AU s=true)(d:l.length<=3)(ha:AP a=true)(c:AP p=true){node letter:Int}(m:0<=node)(i:0<=letter)(g:letter < 6):(∀y∈Ji l a p node letter,0<=y/\y < Aw (l.map (·.st))*a.nx.length*p.nx.length)/\((Ji l a p node letter).length:Int)<=Aw (l.map (·.st)):=by
 have r:=Sg (RR h d i g (node / p.nx.length / a.nx.length));have x:=Jc h d;have w:=Cm ha;have v:=Cm c;have u:=UA ha c m i g;refine⟨λy j=>?_,by unfold Ji;simp;omega⟩;obtain⟨o,k,rfl⟩:=d9.1 j;have n:=r.1 o k;have e:∀o:Int,o*a.nx.length*p.nx.length=o*(a.nx.length*p.nx.length):=λo=>o5 _ _ _;rw [e,e];have f:0<=(a.nx.length:Int)*p.nx.length:=nQ (by omega) (by omega);generalize (a.nx.length:Int)*p.nx.length=q at *;have t:0<=o*q:=nQ n.1 f;have b:(o+1)*q<=Aw (l.map (·.st))*q:=oz (by omega) f;rw [pm] at b;omega
theorem gn{l:List Sys}{a p:AZ}{x:Int}(h:∀s∈l,AU s=true)(c:l.length<=3)(ha:AP a=true)(b:AP p=true):IM (gI l a p (Ac x)):=by
 have i:=ij (ls:=Ac x) h c ha b;refine⟨?_,λy e m f z d=>?_,EM _ _⟩
 ·show 0<=(0:Int)/\(0:Int) < _
  omega
 ·have g:=Au f
  have j:=(Px h c ha b e.1 g.1 (by omega)).1 z d;omega
theorem OI[Dt TB](l:List Sys)(a p:AZ)(h:A1 l=true)(ha:AP a=true)(d:AP p=true) :
 Pure Tryz.prog TB 111 [GC l,.o (.ip (AL a)),Bi p] (KX (Dw (gI l a p (Ac (Gk .i64 (Bx l) a.al))))):=by
 have c:=h;unfold A1 at c;simp only [d4,decide_eq_true_eq,f9] at c;obtain⟨⟨v,e⟩,b⟩:=c;have m:=ij (ls:=Ac (Gk .i64 (Bx l) a.al)) b e ha d;have w:=gn (x:=Gk .i64 (Bx l) a.al) b e ha d;have i:=Jc b e;have y:=Cm ha;have s:=Cm d;have j:Pure Tryz.prog TB 79 [eI .i64 (Aw (l.map (·.st))*a.nx.length*p.nx.length),Ak [0],Ak (Ac (Gk .i64 (Bx l) a.al)),.o (.fn 161 [.ip [.l (GS a)],.ip [iD p.nx.length],.ip [iD a.nx.length],.ip [.l (GS p)],.ip (GM l)]),.o (.fn 163 [.ip [.p (AL a)],.ip [iD p.nx.length],.ip [iD a.nx.length],.ip (AL p)])]
  (KX (Dw (gI l a p (Ac (Gk .i64 (Bx l) a.al))))):=by
  rw [<-m.1];refine KZ w m.2.2 (λx f=>by have:=Au f;omega) (AK _ 6) (λnode x g f=>?_) (λnode x outs g f t=>?_) (λn g=>?_) rfl (λr=>rfl) (λr=>rfl) (Dx _)
  ·have k:=Au f
   have z:=(Px b e ha d g.1 k.1 (by omega)).2;have F:Aw (l.map (·.st))*1<=Aw (l.map (·.st))*a.nx.length:=nK (by omega) (by omega);have B:Aw (l.map (·.st))*a.nx.length*1<=Aw (l.map (·.st))*a.nx.length*p.nx.length:=nK (by omega) (by omega);have A:(((gI l a p (Ac (Gk .i64 (Bx l) a.al))).succ node x).length:Int)<=Aw (l.map (·.st)):=z;omega
  ·have k:=Au f
   exact Ui b e ha d node x g.1 (by omega) k.1 (by omega) outs t
  ·exact TN ha d n g.1 (by omega)
 have u:0<=Aw (l.map (·.st))*a.nx.length/\Aw (l.map (·.st))*a.nx.length<=49152:=⟨nQ (by omega) (by omega),by
  have:Aw (l.map (·.st))*a.nx.length<=4096*12:=nN i.2 (by omega) (by omega) (by omega)
  omega⟩
 refine eN Tryz.func111 rfl (by kernel_rfl) rfl ?_;intro Z q;(repeat first|refine aU rfl ?_);(refine Ag rfl ?_;refine CB (λ_ _=>C4 rfl rfl rfl) rfl ?_);(refine Ag rfl ?_;refine CB (λ_ _=>C4 rfl rfl rfl) rfl ?_);(repeat first|refine tM rfl ?_ |refine sP rfl (Nn l b e) rfl ?_|refine sP rfl (FF l) rfl ?_ |refine aU rfl ?_ |refine Aa ?_);(refine aC rfl ?_ ?_<;>rintro⟨⟩);refine aK ?_;refine aS ?_;refine R.Qj [(0,2),(1,2),(2,2),(3,2),(4,2),(5,2),(6,3),(7,3),(8,5),(9,5)] mixed (by kernel_rfl) rfl (by kernel_rfl) ?_;(repeat ((refine R.Ag rfl ?_;first|(refine R.yQ (md:=false) rfl rfl rfl ?_ ?_;exact tI) |refine R.yP rfl rfl rfl rfl ?_ |refine R.yA rfl rfl rfl rfl ?_|refine R.CB (λ_ _ _=>Bt rfl rfl rfl (Fp a ha) rfl) rfl rfl ?_|refine R.CB (λ_ _ _=>Bt rfl rfl rfl (Fp p d) rfl) rfl rfl ?_ )));refine R.Qe ?_;refine aS ?_;refine Aj.freeze [0,1,2] [(4,.o (.ip [.p (AL a)])),(5,.o (.ip (AL p))),(8,.o (.ip (GM l))),(9,eI .i64 (Bx l)),(10,.o (.ip [.l (GS a)])),(11,.o (.ip [.l (GS p)]))] ⟨⟨_,rfl,.AQ⟩,⟨_,rfl,.AQ⟩,⟨_,rfl,.o (.ptr (by simp) rfl rfl rfl)⟩,⟨_,rfl,.AQ⟩,⟨_,rfl,.o (.ptr (by simp) rfl rfl rfl)⟩,⟨_,rfl,.o (.ptr (by simp) rfl rfl rfl)⟩,trivial⟩ ?_;refine R.Qj [(0,2),(1,2),(2,2),(3,2),(4,3),(5,3),(6,5),(7,5)] mixed (by kernel_rfl) rfl (by kernel_rfl) ?_;(repeat ((refine R.Ag rfl ?_;first|(refine R.yQ (md:=false) rfl rfl rfl ?_ ?_;exact tI) |refine R.yP rfl rfl rfl rfl ?_ |refine R.yA rfl rfl rfl rfl ?_ )));refine R.Qe ?_;refine aS ?_;simp only [UY];refine Aj.freeze [3,4] [(4,.o (.ip [.p (AL a)])),(5,.o (.ip (AL p))),(8,.o (.ip (GM l))),(9,eI .i64 (Bx l)),(10,.o (.ip [.l (GS a)])),(11,.o (.ip [.l (GS p)])),(12,.o (.ip [iD a.nx.length])),(13,.o (.ip [iD p.nx.length]))] ⟨⟨_,rfl,.AQ⟩,⟨_,rfl,.AQ⟩,⟨_,rfl,.AQ⟩,⟨_,rfl,.AQ⟩,⟨_,rfl,.AQ⟩,⟨_,rfl,.AQ⟩,⟨_,rfl,.o (.ptr (by simp) rfl rfl rfl)⟩,⟨_,rfl,.o (.ptr (by simp) rfl rfl rfl)⟩,trivial⟩ ?_;(repeat first|refine tA rfl ?_ |refine aU rfl ?_ |refine Aa ?_);refine rG (Gj []) (by kernel_rfl) ?_;(repeat first|(refine sA rfl ?_ ?_;first|exact tI|omega) |refine sP rfl (YD l b e) rfl ?_|refine sP rfl (CR _) rfl ?_|refine sP rfl (j) rfl ?_ |refine Aa ?_);refine aR ⟨_,rfl,rfl⟩
theorem NL[Dt TB](l:List Sys)(p:AZ)(h:A1 l=true)(e:AP p=true) :
 Pure Tryz.prog TB 111 [GC l,.o (.d (.v (.pointer none))),Bi p] (KX (Dw (gI l NI p (Ac (Gk .i64 (Bx l) NI.al))))):=by
 obtain⟨a,g⟩:∃a,a=NI:=⟨_,rfl⟩
 have ha:AP a=true:=by rw [g];exact eb
 rw [<-g];have c:=h;unfold A1 at c;simp only [d4,decide_eq_true_eq,f9] at c;obtain⟨⟨z,f⟩,b⟩:=c;have s:=ij (ls:=Ac (Gk .i64 (Bx l) a.al)) b f ha e;have A:=gn (x:=Gk .i64 (Bx l) a.al) b f ha e;have k:=Jc b f;have B:=Cm ha;have u:=Cm e;have m:Pure Tryz.prog TB 79 [eI .i64 (Aw (l.map (·.st))*a.nx.length*p.nx.length),Ak [0],Ak (Ac (Gk .i64 (Bx l) a.al)),.o (.fn 161 [.ip [.l (GS a)],.ip [iD p.nx.length],.ip [iD a.nx.length],.ip [.l (GS p)],.ip (GM l)]),.o (.fn 163 [.ip [.p (AL a)],.ip [iD p.nx.length],.ip [iD a.nx.length],.ip (AL p)])]
  (KX (Dw (gI l a p (Ac (Gk .i64 (Bx l) a.al))))):=by
  rw [<-s.1];refine KZ A s.2.2 (λx i=>by have:=Au i;omega) (AK _ 6) (λnode x j i=>?_) (λnode x outs j i w=>?_) (λn j=>?_) rfl (λr=>rfl) (λr=>rfl) (Dx _)
  ·have q:=Au i
   have F:=(Px b f ha e j.1 q.1 (by omega)).2;have I:Aw (l.map (·.st))*1<=Aw (l.map (·.st))*a.nx.length:=nK (by omega) (by omega);have H:Aw (l.map (·.st))*a.nx.length*1<=Aw (l.map (·.st))*a.nx.length*p.nx.length:=nK (by omega) (by omega);have G:(((gI l a p (Ac (Gk .i64 (Bx l) a.al))).succ node x).length:Int)<=Aw (l.map (·.st)):=F;omega
  ·have q:=Au i
   exact Ui b f ha e node x j.1 (by omega) q.1 (by omega) outs w
  ·exact TN ha e n j.1 (by omega)
 have y:0<=Aw (l.map (·.st))*a.nx.length/\Aw (l.map (·.st))*a.nx.length<=49152:=⟨nQ (by omega) (by omega),by
  have:Aw (l.map (·.st))*a.nx.length<=4096*12:=nN k.2 (by omega) (by omega) (by omega)
  omega⟩
 refine eN Tryz.func111 rfl (by kernel_rfl) rfl ?_;intro Z t;(repeat first|refine aU rfl ?_);(refine pW rfl ?_ rfl (by rfl);refine C5 rfl rfl ?_);(refine Ag rfl ?_;refine CB (λ_ _=>C4 rfl rfl rfl) rfl ?_);(repeat first|refine tM rfl ?_ |refine sP rfl (Nn l b f) rfl ?_|refine sP rfl (FF l) rfl ?_ |refine aU rfl ?_ |refine Aa ?_);(refine aC rfl ?_ ?_<;>rintro⟨⟩);(repeat first|refine tA rfl ?_|(refine Ag rfl ?_;refine gA rfl ?_;first| refine gS (λ_ _=>AF rfl rfl (by rfl) (by rfl)) ?_) |refine aU rfl ?_ |refine Aa ?_);refine Aj.freeze [0,1] [(4,.o (.ip [.p (AL a)])),(5,.o (.ip (AL p))),(8,.o (.ip (GM l))),(9,eI .i64 (Bx l))] ⟨⟨_,rfl,.o (.ptr (by simp) rfl rfl (by rw [g];rfl))⟩,⟨_,rfl,.AQ⟩,⟨_,rfl,.o (.ptr (by simp) rfl rfl rfl)⟩,⟨_,rfl,.AQ⟩,trivial⟩ ?_;refine R.Qj [(0,2),(1,2),(2,2),(3,2),(4,2),(5,2),(6,3),(7,3),(8,5),(9,5)] mixed (by kernel_rfl) rfl (by kernel_rfl) ?_;(repeat ((refine R.Ag rfl ?_;first|(refine R.yQ (md:=false) rfl rfl rfl ?_ ?_;exact tI) |refine R.yP rfl rfl rfl rfl ?_ |refine R.yA rfl rfl rfl rfl ?_|refine R.CB (λ_ _ _=>Bt rfl rfl rfl (Fp a ha) rfl) rfl rfl ?_|refine R.CB (λ_ _ _=>Bt rfl rfl rfl (Fp p e) rfl) rfl rfl ?_ )));refine R.Qe ?_;refine aS ?_;refine Aj.freeze [2,3] [(4,.o (.ip [.p (AL a)])),(5,.o (.ip (AL p))),(8,.o (.ip (GM l))),(9,eI .i64 (Bx l)),(10,.o (.ip [.l (GS a)])),(11,.o (.ip [.l (GS p)]))] ⟨⟨_,rfl,.AQ⟩,⟨_,rfl,.AQ⟩,⟨_,rfl,.AQ⟩,⟨_,rfl,.AQ⟩,⟨_,rfl,.o (.ptr (by simp) rfl rfl rfl)⟩,⟨_,rfl,.o (.ptr (by simp) rfl rfl rfl)⟩,trivial⟩ ?_;refine R.Qj [(0,2),(1,2),(2,2),(3,2),(4,3),(5,3),(6,5),(7,5)] mixed (by kernel_rfl) rfl (by kernel_rfl) ?_;(repeat ((refine R.Ag rfl ?_;first|(refine R.yQ (md:=false) rfl rfl rfl ?_ ?_;exact tI) |refine R.yP rfl rfl rfl rfl ?_ |refine R.yA rfl rfl rfl rfl ?_ )));refine R.Qe ?_;refine aS ?_;simp only [UY];refine Aj.freeze [4,5] [(4,.o (.ip [.p (AL a)])),(5,.o (.ip (AL p))),(8,.o (.ip (GM l))),(9,eI .i64 (Bx l)),(10,.o (.ip [.l (GS a)])),(11,.o (.ip [.l (GS p)])),(12,.o (.ip [iD a.nx.length])),(13,.o (.ip [iD p.nx.length]))] ⟨⟨_,rfl,.AQ⟩,⟨_,rfl,.AQ⟩,⟨_,rfl,.AQ⟩,⟨_,rfl,.AQ⟩,⟨_,rfl,.AQ⟩,⟨_,rfl,.AQ⟩,⟨_,rfl,.o (.ptr (by simp) rfl rfl rfl)⟩,⟨_,rfl,.o (.ptr (by simp) rfl rfl rfl)⟩,trivial⟩ ?_;(repeat first|refine tA rfl ?_ |refine aU rfl ?_ |refine Aa ?_);refine rG (Gj []) (by kernel_rfl) ?_;(repeat first|(refine sA rfl ?_ ?_;first|exact tI|omega) |refine sP rfl (YD l b f) rfl ?_|refine sP rfl (CR _) rfl ?_|refine sP rfl (m) rfl ?_ |refine Aa ?_);refine aR ⟨_,rfl,rfl⟩
end Go.Am
namespace Go.Am
open Go
theorem Hf{g g':Gr}(d:IM g)(c:g.ls=g'.ls)(e:∀x:Int,0<=x/\x < g.N->∀l∈g.ls,g.succ x l=g'.succ x l):∀ {w:List Int} {a x:Int},over g w->(0<=a/\a < g.N)->(reach g w a x↔reach g' w a x)
 | [],a,x,_,_=>Iff.rfl
 | l :: w,a,x,f,ha=>by
  have j:=f l (by simp);simp only [reach,<-e a ha l j];constructor
  ·rintro⟨y,b,h⟩
   exact⟨y,b,(Hf d c e (λm i=>f m (by simp [i])) (d.inn a ha l j y b)).1 h⟩
  ·rintro⟨y,b,h⟩
   exact⟨y,b,(Hf d c e (λm i=>f m (by simp [i])) (d.inn a ha l j y b)).2 h⟩
theorem Cy.congr{g g':Gr}(c:IM g)(d:g.ls=g'.ls)(q:g.s0=g'.s0)(m:∀x:Int,0<=x/\x < g.N->∀l∈g.ls,g.succ x l=g'.succ x l)(i:∀x:Int,0<=x/\x < g.N->g.goal x=g'.goal x){r:Option (List Int)}(h:Cy g r):Cy g' r:=by
 have b:∀w,over g' w↔over g w:=λw=>by unfold over;rw [d]
 have k:∀w,over g w->(Sa g' w↔Sa g w):=λw j=>by
  unfold Sa;rw [<-q];constructor
  ·rintro⟨x,a,e⟩
   have a:=(Hf c d m j c.s0).2 a;exact⟨x,a,by rw [i x (DB c j c.s0 a)];exact e⟩
  ·rintro⟨x,a,e⟩
   exact⟨x,(Hf c d m j c.s0).1 a,by rw [<-i x (DB c j c.s0 a)];exact e⟩
 cases r with
 | none=>exact λu f a=>h u ((b u).1 f) ((k u ((b u).1 f)).1 a)
 | some w=>
  obtain⟨n,p,o⟩:=h;exact⟨(b w).2 n,(k w n).2 p,λu f a=>o u ((b u).1 f) ((k u ((b u).1 f)).1 a)⟩
theorem bO{zs ws:List Int}{cs ds:List (List Int)}(h:Fx zs cs):Et (zs++ws) (cs++ds)=(Et zs cs).flatMap λo=>(Et ws ds).map λr=>o*Aw ws+r:=by
 induction h with
 | nil=>simp [Et]
 | @cons z c zs cs _ _ _ a=>
  simp only [ou,Et,a];rw [List.flatMap_assoc];congr 1;funext q;rw [List.map_flatMap,List.flatMap_map];congr 1;funext o;rw [n7];congr 1;funext r;simp only [d5,MF];rw [pm,o5];omega
theorem UM(l:List Sys)(aus:List AZ)(st:List Int)(ls kd gl:Int):Af ⟨l,aus,st,ls,kd,gl⟩=l.map (·.st)++aus.map (λa=>(a.nx.length:Int)):=rfl
theorem Lm{l:List Sys}{aus:List AZ}{st:List Int}{ls kd gl:Int}(b:DM ⟨l,aus,st,ls,kd,gl⟩){node letter:Int}(f:0<=letter)(d:letter < 6) :
 Fj ⟨l,aus,st,ls,kd,gl⟩ (Af ⟨l,aus,st,ls,kd,gl⟩) (BE (Af ⟨l,aus,st,ls,kd,gl⟩) node) letter =
  (Et (l.map (·.st)) (Y3 l (node / Aw (aus.map λa=>(a.nx.length:Int))) letter)).flatMap λo=>(Et (aus.map λa=>(a.nx.length:Int)) (aus.zipWith (λa q=>[CA a q.toNat letter]) (BE (aus.map λa=>(a.nx.length:Int)) node))).map λr=>o*Aw (aus.map λa=>(a.nx.length:Int))+r:=by
 have h:∀w∈aus.map (λa=>(a.nx.length:Int)),0 < w:=λw g=>by
  obtain⟨a,ha,rfl⟩:=d9.1 g;have:=AH (b.au a ha);omega
 unfold Fj;rw [QP (HZ b (KV b node) f d),UM,OD _ _ _ h];have c:=RR b.ps b.np f d (node / Aw (aus.map λa=>(a.nx.length:Int)))
 have e:Ke ⟨l,aus,st,ls,kd,gl⟩ (BE (l.map (·.st)) (node / Aw (aus.map λa=>(a.nx.length:Int)))++BE (aus.map λa=>(a.nx.length:Int)) node) letter=Y3 l (node / Aw (aus.map λa=>(a.nx.length:Int))) letter++aus.zipWith (λa q=>[CA a q.toNat letter]) (BE (aus.map λa=>(a.nx.length:Int)) node):=by
  unfold Ke Y3
  have i:(BE (l.map (·.st)) (node / Aw (aus.map λa=>(a.nx.length:Int)))).length=l.length:=by rw [KU];simp
  simp only;rw [List.drop_append_of_le_length (by omega),ox (by omega),pY];congr 1;rw [Gi,List.take_append_of_le_length (by omega),ge (by omega)]
 rw [e,bO c]
theorem Mm:∀(zs:List Int) (k:Nat),Du zs (List.replicate k 0) 0=0
 | [],k=>by simp [Du]
 | z::zs,0=>by simp [Du]
 | z::zs,k+1=>by
  rw [pU];simp only [Du,Int.zero_mul,Int.add_zero];exact Mm zs k
theorem TQ{a:Int}(ha:A7 a=true):Gk .i64 0 a=a/\Gk .i64 a 0=a:=by
 unfold A7 at ha;simp only [decide_eq_true_eq] at ha;have d:=K6 (a:=0) (b:=a.toNat) (by omega) (by omega);have c:=K6 (a:=a.toNat) (b:=0) (by omega) (by omega)
 have e:((a.toNat:Nat):Int)=a:=by omega
 rw [e] at d c;have f:(((0:Nat)):Int)=0:=rfl;rw [f] at d c;rw [Nat.zero_or] at d;rw [Nat.or_zero] at c;exact⟨by rw [d.1];exact e,by rw [c.1];exact e⟩
theorem WA{l:List Sys}(h:A1 l=true):A7 (Bx l)=true:=by
 unfold Bx;rw [if_pos h];unfold A1 at h;rw [d4] at h;exact Jb h.2 rfl
theorem cf{s:Sys}{a p:AZ}(h:CY s a p=true):Dw (gI [s] a p (Ac (Gk .i64 (Bx [s]) a.al)))=Dw (Eh (DT s a p)):=by
 obtain⟨j,hk,d⟩:=N8 h;have c:=h;unfold CY at c;simp only [d4] at c;obtain⟨⟨i,ha⟩,n⟩:=c;have q:=Cm ha;have m:=Cm n
 have b:Bx [s]=s.al:=by
  have:A1 [s]=true:=by simp [A1,i]
  unfold Bx;rw [if_pos this];exact(TQ (AN i).1).1
 refine Tm (Cy.congr (OL j d) ?_ ?_ (λx k l f=>?_) (λx k=>?_) (Dx _))
 ·show Ac (Gk .i64 s.al a.al)=Ac (Gk .i64 (Bx [s]) a.al)
  rw [b]
 ·exact Mm (Af (DT s a p)) 3
 ·have f:=Au (show l∈AM (Gk .i64 s.al a.al) 6 from f)
  show Fj (DT s a p) (Af (DT s a p)) (BE (Af (DT s a p)) x) l=Ji [s] a p x l
  have e:=Lm (l:=[s]) (aus:=[a,p]) (st:=[0,0,0]) (ls:=Gk .i64 s.al a.al) (kd:=2) (gl:=0) j (node:=x) f.1 (by omega);refine Eq.trans e ?_;unfold Ji FO;simp only [oH,qP,Aw,Int.mul_one,BE,List.zipWith_cons_cons,List.zipWith_nil_left,Et,pJ,List.flatMap_nil,nO,Int.ediv_one,Int.add_zero]
  have g:x / p.nx.length / a.nx.length=x / (a.nx.length*p.nx.length):=by rw [pD (by omega),px]
  rw [g,List.map_eq_flatMap];congr 1;funext o;rw [o5]
 ·show CL (DT s a p) (BE (Af (DT s a p)) x) (Fk (DT s a p) x.toNat)=Nf a p x
  unfold CL ZB Nf;simp [DT,Af,BE,Aw,List.getD]
theorem cd{l:List Sys}{p:AZ}(h:(A1 l && AP p)=true):Dw (gI l NI p (Ac (Gk .i64 (Bx l) NI.al)))=Dw (Eh (CX l p)):=by
 obtain⟨g,hk,c⟩:=N7 h;rw [d4] at h;obtain⟨s,r⟩:=h;have n:=Cm r;refine Tm (Cy.congr (OL g c) ?_ ?_ (λx j m d=>?_) (λx j=>?_) (Dx _))
 ·show Ac (Bx l)=Ac (Gk .i64 (Bx l) 0)
  rw [(TQ (WA s)).2]
 ·exact Mm (Af (CX l p)) (l.length+1)
 ·have d:=Au (show m∈AM (Bx l) 6 from d)
  show Fj (CX l p) (Af (CX l p)) (BE (Af (CX l p)) x) m=Ji l NI p x m
  have e:=Lm (l:=l) (aus:=[p]) (st:=List.replicate (l.length+1) 0) (ls:=Bx l) (kd:=3) (gl:=0) g (node:=x) d.1 (by omega);refine Eq.trans e ?_
  have f:∀q:Nat,CA NI q m=q:=λq=>by
   have:AV 0 m.toNat=false:=by
    have v:m=0\/m=1\/m=2\/m=3\/m=4\/m=5:=by omega
    rcases v with rfl|rfl|rfl|rfl|rfl|rfl<;>decide
   unfold CA;rw [if_neg]
   show ¬AV 0 m.toNat=true
   rw [this];simp
  have b:((NI.nx.length:Nat):Int)=1:=rfl;unfold Ji FO;rw [f,b];simp only [oH,qP,Aw,Int.mul_one,BE,List.zipWith_cons_cons,List.zipWith_nil_left,Et,pJ,List.flatMap_nil,nO,Int.ediv_one,Int.add_zero,Int.emod_one];generalize Et (l.map (·.st)) (Y3 l (x / p.nx.length) m)=LL;rw [List.map_eq_flatMap];congr 1;funext o;simp
 ·show CL (CX l p) (BE (Af (CX l p)) x) (Fk (CX l p) x.toNat)=Nf NI p x
  have b:((NI.nx.length:Nat):Int)=1:=rfl;have u:=OD (l.map (·.st)) [(p.nx.length:Int)] x (by intro w k;simp at k;omega);have i:Af (CX l p)=l.map (·.st)++[(p.nx.length:Int)]:=rfl
  have a:(BE (l.map (·.st)) (x / Aw [(p.nx.length:Int)])).length=l.length:=by rw [KU];simp
  rw [i,u];generalize BE (l.map (·.st)) (x / Aw [(p.nx.length:Int)])=dd at a
  have t:(dd++BE [(p.nx.length:Int)] x).getD (l.length+0) 0=x % p.nx.length:=by
   rw [List.getD,pN,gc (by omega),a];simp [BE,Aw]
  unfold CL ZB Nf;rw [b];have A:(CX l p).kd=3:=rfl;have z:(CX l p).ps=l:=rfl;have y:(CX l p).au=[p]:=rfl;rw [A,z,y,t];simp [NI,List.getD]
end Go.Am
namespace Go.Am
open Go Go.Proofs
set_option maxHeartbeats 1000000
attribute [local irreducible] AX Cb Lex Bh Aj Spec
variable {TB:Bz}
theorem E8[Dt TB](l:List Sys)(p:AZ):Pure Tryz.prog TB 65 [GC l,Bi p] (KX (BQ l p)):=by
 by_cases c:(A1 l && AP p)=true
 ·have b:BQ l p=Dw (Eh (CX l p)):=by unfold BQ;rw [if_pos c]
  rw [b,<-cd c];rw [d4] at c;have e:=NL (TB:=TB) l p c.1 c.2;refine eN Tryz.func65 rfl (by kernel_rfl) rfl ?_;intro Z d;(repeat' first |refine sN rfl ?_ |((first|refine sA rfl ?_ ?_|refine s4 rfl ‹_› rfl ?_ ?_);first|exact tI|omega|simp only[oZ] at *;omega) |refine s2 rfl λ_ a=>?_ |(refine sC rfl (IP l) ?_;intro _ a)|(refine sC rfl (Bj p) ?_;intro _ a)|refine sP rfl (e) rfl ?_ |refine s3 rfl ?_ ?_<;>rintro rfl |refine aU rfl ?_ |refine Aa ?_ |refine rE (by kernel_rfl) ?_|(refine aC rfl ?_ ?_<;>rintro⟨⟩)|refine aK ?_|refine aE ?_|refine aB ?_|refine aR ⟨_,rfl,?_⟩)
  all_goals first
   | rfl
   | (exfalso;grind;done)
 ·have b:BQ l p=none:=by unfold BQ;rw [if_neg c]
  rw [b];refine eN Tryz.func65 rfl (by kernel_rfl) rfl ?_;intro Z d;(repeat' first |refine sN rfl ?_ |((first|refine sA rfl ?_ ?_|refine s4 rfl ‹_› rfl ?_ ?_);first|exact tI|omega|simp only[oZ] at *;omega) |refine s2 rfl λ_ a=>?_ |(refine sC rfl (IP l) ?_;intro _ a)|(refine sC rfl (Bj p) ?_;intro _ a) |refine s3 rfl ?_ ?_<;>rintro rfl |refine aU rfl ?_ |refine Aa ?_ |refine rE (by kernel_rfl) ?_|(refine aC rfl ?_ ?_<;>rintro⟨⟩)|refine aK ?_|refine aE ?_|refine aB ?_|refine aR ⟨_,rfl,?_⟩)
  all_goals first
   | rfl
   | (exfalso;grind;done)
theorem IG[Dt TB](s:Sys)(a p:AZ):Pure Tryz.prog TB 62 [Bv s,Bi a,Bi p] (KX (DD s a p)):=by
 by_cases c:CY s a p=true
 ·have d:DD s a p=Dw (Eh (DT s a p)):=by unfold DD;rw [if_pos c]
  rw [d,<-cf c];unfold CY at c;simp only [d4] at c;have f:=OI (TB:=TB) [s] a p (by simp [A1,c.1.1]) c.1.2 c.2;refine eN Tryz.func62 rfl (by kernel_rfl) rfl ?_;intro Z e;(repeat' first |refine sN rfl ?_ |((first|refine sA rfl ?_ ?_|refine s4 rfl ‹_› rfl ?_ ?_);first|exact tI|omega|simp only[oZ] at *;omega) |refine s2 rfl λ_ b=>?_ |(refine sC rfl (BY s) ?_;intro _ b)|(refine sC rfl (Bj a) ?_;intro _ b)|(refine sC rfl (Bj p) ?_;intro _ b)|refine sP rfl (f) rfl ?_ |refine s3 rfl ?_ ?_<;>rintro rfl |refine aU rfl ?_ |refine Aa ?_ |refine rE (by kernel_rfl) ?_|(refine aC rfl ?_ ?_<;>rintro⟨⟩)|refine aK ?_|refine aE ?_|refine aB ?_|refine aR ⟨_,rfl,?_⟩)
  all_goals first
   | rfl
   | (exfalso;grind;done)
 ·have d:DD s a p=none:=by unfold DD;rw [if_neg c]
  rw [d];refine eN Tryz.func62 rfl (by kernel_rfl) rfl ?_;intro Z e;(repeat' first |refine sN rfl ?_ |((first|refine sA rfl ?_ ?_|refine s4 rfl ‹_› rfl ?_ ?_);first|exact tI|omega|simp only[oZ] at *;omega) |refine s2 rfl λ_ b=>?_ |(refine sC rfl (BY s) ?_;intro _ b)|(refine sC rfl (Bj a) ?_;intro _ b)|(refine sC rfl (Bj p) ?_;intro _ b) |refine s3 rfl ?_ ?_<;>rintro rfl |refine aU rfl ?_ |refine Aa ?_ |refine rE (by kernel_rfl) ?_|(refine aC rfl ?_ ?_<;>rintro⟨⟩)|refine aK ?_|refine aE ?_|refine aB ?_|refine aR ⟨_,rfl,?_⟩)
  all_goals first
   | rfl
   | (exfalso;unfold CY at c;grind;done)
theorem Ki(s:Sys)(p:AZ)(t:Sys):Pure Tryz.prog TB 13 [Bv s,Bi p,Bv t] (eI .i64 (Br s p t)):=by
 refine eN Tryz.func13 rfl (by kernel_rfl) rfl ?_;intro Z b;(repeat' first |refine sN rfl ?_ |((first|refine sA rfl ?_ ?_|refine s4 rfl ‹_› rfl ?_ ?_);first|exact tI|omega|simp only[oZ] at *;omega) |refine s2 rfl λ_ a=>?_ |(refine sC rfl (BY s) ?_;intro _ a)|(refine sC rfl (Bj p) ?_;intro _ a)|(refine sC rfl (BY t) ?_;intro _ a) |refine s3 rfl ?_ ?_<;>rintro rfl |refine aU rfl ?_ |refine Aa ?_ |refine rE (by kernel_rfl) ?_|(refine aC rfl ?_ ?_<;>rintro⟨⟩)|refine aK ?_|refine aE ?_|refine aB ?_|refine aR ⟨_,rfl,?_⟩)
 all_goals (show E.o _=E.o _;congr;unfold Br;grind)
end Go.Am
namespace Go.Proofs.YtbfgijpfhgmepaaGreatDoor
open Go Go.Am Go.ChangeShapes Go.WideShapes Go.ChangeAt Go.RowKit
def aj(l:List Value):List Int:=l.map λv=>match v with|.int _ n=>n|_=>0
theorem YJ{P:Program}{W:World}{name:String}{g:Nat}{t e:TypeId}{n:Nat}{zs:List Int}{fuel:Nat}{cs:Array Value}{p:List MemPlace}(i:P.globalNamed name=some g)(ht:P.underlying t=some (.array n e))(j:P.underlying e=some (.int .u8))(d:P.cellsOf e=1)(b:P.cellsOf t=n)
 (a:W.var? P name=some cs) (k:DataW.trod (λ_=>()) P W 0 (λ_=>true) false fuel t cs.toList=some (Lib.tabData .u8 zs,p)):∃T fr,W.heap[g]? = some (.cells (zs.map λz=>Value.int .u8 z).toArray T fr):=by
 have h:=Lib.cells_of_tab ht j d b k;unfold World.var? at a;rw [i] at a;simp only [pu] at a;split at a
 ·rename_i c T fr f
  injection a with a
  subst a;refine⟨T,fr,?_⟩;rw [f,<-h]
 ·cases a
theorem tables {W:World} {rest:List (String×DataW Unit)} (h:laidMet Tryz.prog (("math/bits.deBruijn32tab",Rows.laid_math_bits_deBruijn32tab)::("math/bits.deBruijn64tab",Rows.laid_math_bits_deBruijn64tab)::rest) W):∃tabs:List (Nat×Obj),Dt ⟨tabs,none⟩/\∀x∈(⟨tabs,none⟩:Bz),below W x.1/\W.heap[x.1]? = some x.2:=by
 obtain⟨ps,⟨I,y,u,K,G,B,j,f,c,l,⟨H,w,t,J,F,A,g,e,b,k,_,_⟩,_⟩,_,_⟩:=h
 have p:Tryz.prog.globalNamed "math/bits.deBruijn32tab" = some 0:=by kernel_rfl
 have o:Tryz.prog.globalNamed "math/bits.deBruijn64tab" = some 1:=by kernel_rfl
 obtain rfl:=Option.some.inj (p.symm.trans j);obtain rfl:=Option.some.inj (o.symm.trans g)
 have s:(Tryz.prog.globals[0]?).map (·.type)=some 255:=by kernel_rfl
 have l1:(Tryz.prog.globals[1]?).map (·.type)=some 256:=by kernel_rfl
 obtain rfl:=Option.some.inj (s.symm.trans f);obtain rfl:=Option.some.inj (l1.symm.trans e);obtain⟨T0,n,r⟩:=YJ (zs:=aj CC) p Tryz.underlying255 Tryz.underlying5 (by kernel_rfl) (by kernel_rfl) c l;obtain⟨T1,m,q⟩:=YJ (zs:=aj BC) o Tryz.underlying256 Tryz.underlying5 (by kernel_rfl) (by kernel_rfl) b k;refine⟨[(0,.cells ((aj CC).map λz=>Value.int .u8 z).toArray T0 n),(1,.cells ((aj BC).map λz=>Value.int .u8 z).toArray T1 m)],⟨⟨⟨_,_,_,pc,λi v d=>?_⟩,by decide⟩,⟨⟨_,_,_,ny _ pc,λi v d=>?_⟩,by decide⟩⟩,?_⟩
 ·have:CC=(aj CC).map λz=>Value.int .u8 z:=rfl
  rw [od,<-this];exact d
 ·have:BC=(aj BC).map λz=>Value.int .u8 z:=rfl
  rw [od,<-this];exact d
 ·intro x a
  have a:x∈[_,_]:=a;simp only [ng,qk,or_false] at a
  rcases a with rfl|rfl
  ·exact⟨(nu.1 r).1,r⟩
  ·exact⟨(nu.1 q).1,q⟩
end Go.Proofs.YtbfgijpfhgmepaaGreatDoor
namespace Go.Am
open Go
def bI:Option TypeDesc->Bool
 | some (.func ..)=>true
 | _=>false
class gb (P:Program) (t:TypeId):Prop where
 out:bI (P.underlying t)=true
theorem fF{P:Program}{t:TypeId}(h:bI (P.underlying t)=true)(w:World):(Op.equal t .nilFunc .nilFunc).run P w=.ok true w/\∀(g:Fn) (a b:Array Value),(Op.equal t (.func g a b) .nilFunc).run P w=.ok false w:=by
 unfold bI at h;split at h
 ·rename_i c
  unfold Op.equal Op.maxDepth;rw [show 10000=9999+1 from rfl,Op.equalIn];refine⟨by simp [run_underlying c,go_sem],λg a b=>?_⟩;rw [Op.equalIn];simp [run_underlying c,go_sem]
 ·cases h
section
variable {P:Program}{TB:Bz}{Z:Ctx}{d:Option Tmp}{ty:TypeId}{pos:String}{af:Array Edge}{g:Option (Nat×Bool)}{f:Env}{σ:Ab}{nx:Nat}
theorem fw{t yt:TypeId}{x y:Operand}[c:gb P t](b:ev f x=some (.o (.d (.v .nilFunc))))(a:ev f y=some (.o (.d (.v .nilFunc)))):AX P TB Z ⟨d,.binOp .neq t x y yt,ty,pos,af,g⟩ f σ nx (eB false):=
 BK b a rfl λw=>by
  have h:binOp .neq t .nilFunc .nilFunc=(do pure (.bool (!(<-Op.equal t .nilFunc .nilFunc)))):=rfl;have e:eqGuard .neq t x y .nilFunc .nilFunc=pure ():=rfl;rw [h,e];simp [(fF c.out w).1,go_sem]
end
def OQ(L:List (Nat×E)):List Nat->Option (List (Nat×E))
 | []=>some []
 | k::r=>match look L k,OQ L r with
  | some e,some l=>some ((k,e)::l)
  | _,_=>none
def XI(σ:Ab):List Nat->Option Ab
 | []=>some []
 | k::r=>match look σ k,XI σ r with
  | some e,some l=>some ((k,e)::l)
  | _,_=>none
section
variable {P:Program}{TB:Bz}{Z:Ctx}{N:Nat}
theorem Aj.jZ{c:Code}{Q:Exit->Env->Ab->Nat->Prop}{L0 Lk:List (Nat×E)}{σ Sk:Ab}{nx:Nat}{α:Type}(ks is:List Nat)(hk:OQ L0 ks=some Lk)(hi:XI σ is=some Sk)(v:α->List (Nat×E))(s:α->Ab)(n:Nat)(μ:α->Nat)
 (x:α) (a:List Nat) (b:(∀i,i < Z.V.nx->a[i]? = some i)/\a.Nodup/\a.length=n) (d:DO (nm a nx) (look L0) (v x++Lk)/\A8 (nm a nx) σ (s x++Sk))
 (round:∀x,Aj P TB Z N c (LJ (λf σ nx=>∃y,μ y < μ x/\∃l:List Nat,(∀i,i < Z.V.nx->l[i]? = some i)/\l.Nodup/\l.length=n/\DO (nm l nx) f (v y++Lk)/\A8 (nm l nx) σ (s y++Sk)) Q) (look (v x++Lk)) (s x++Sk) n) :
 Aj P TB Z N (.loop c) Q (look L0) σ nx:=Aj.A2 (λx=>v x++Lk) (λx=>s x++Sk) n μ x a b d round
theorem aL{c:Code}{Q:Exit->Env->Ab->Nat->Prop}{L0 Lk:List (Nat×E)}{σ Sk:Ab}{nx:Nat}{α:Type}(ks is:List Nat)(hk:OQ L0 ks=some Lk)(hi:XI σ is=some Sk)(v:α->List (Nat×E))(s:α->Ab)(n:Nat)(μ:α->Nat)
 (x:α) {m:Nat} (a:Z.V.nx=m) (b:Nat.ble m n=true) (d:DO (nm (List.range n) nx) (look L0) (v x++Lk)/\A8 (nm (List.range n) nx) σ (s x++Sk))
 (round:∀x,Aj P TB Z N c (LJ (λf σ nx=>∃y,μ y < μ x/\∃l:List Nat,(∀i,i < Z.V.nx->l[i]? = some i)/\l.Nodup/\l.length=n/\DO (nm l nx) f (v y++Lk)/\A8 (nm l nx) σ (s y++Sk)) Q) (look (v x++Lk)) (s x++Sk) n) :
 Aj P TB Z N (.loop c) Q (look L0) σ nx:=Aj.jZ ks is hk hi v s n μ x (List.range n) (rg a b) d round
end
end Go.Am
