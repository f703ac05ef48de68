/-
  The program's search, the walk.
-/
import Derived.Test.YtgpbfllcjdfelaaGreatDoorPart26
import Derived.Test.YtgpbfllcjdfelaaGreatDoorPart17
set_option linter.all false
namespace Go.Am
open Go Go.Proofs
set_option maxHeartbeats 1000000
set_option maxRecDepth 4000
attribute [local irreducible] AW BQ Lex A9 Aj Spec
variable {TB:Bp}
theorem ZO{P:Program}{Z:Ctx}{d:Option Tmp}{ty:TypeId}{pos:String}{af:Array Edge}{g:Option (Nat×Bool)}{f:Env}{σ:Ab}{nx:Nat}{K:E->Ab->Nat->Prop}{T:TypeId}(k e:Nat)[r:BJ P T [.slice none 0 0]]
 (u:K (.o (.ptr (nx+1) 1 0 0)) ((nx+1,.cells T 1 [[.arr nx k 0 0]])::(nx,.cells e k [])::σ) (nx+2)):BQ P TB Z ⟨d,.alloc T,ty,pos,af,g⟩ f σ nx K:=
 Dr λV ρ z y x=>by
  subst x;obtain⟨i,zv,hi,b,a⟩:=HM r.out
  have h:zv.cells = #[.slice none 0 0]:=by have:=congrArg List.toArray a;simpa using this
  obtain⟨m,p⟩:=y.alloc (c:=0) (nl:=True) (w:=V.w) (ob:=.cells e k []) rfl rfl rfl rfl (io _) (λ_ _=>rfl) (.inl ⟨by simp [Ax],rfl⟩)
  have t:CY (Ax V V.w.heap.size 0 True V.w) [.arr V.nx k 0 0] zv.cells:=by
   rw [h];refine⟨rfl,λj c v l q=>?_⟩
   match j with
   | 0=>simp at l q;subst l q;exact AF.nil (by simp [Ax]) (by simp [Ax])
   | j+1=>simp at l
  obtain⟨n,s⟩:=Qu m (T:=T) t;refine⟨.pointer (some ⟨V.w.heap.size,0,none⟩),_,_,_,?_,p.trans s,n,?_,u⟩
  ·simp [execOp,Instr.alloc,zeroValue,typeInfo,hi,b,newVar,newRow,Ax,go_sem]
  ·exact Nn
theorem PZ(r:Nat->Nat):∀(l m:List E),Es r (l++m)=Es r l++Es r m
 | [],m=>rfl
 | e::l,m=>by simp [Es,PZ r l m]
theorem Om(r:Nat->Nat):∀(l:List C),Es r (l.map .o)=(C.Cj r l).map .o
 | []=>rfl
 | c::l=>by simp [Es,C.Cj,E.A7,Om r l]
def YQ(P:Program)(TB:Bp)(T:TypeId)(g:Gr)(gN:FuncId)(capsN:List C):Prop:=
 ∀(node l:Int) (outs:List Int),0<=node/\node < g.N->l∈g.ls->outs.length<=1099511627776->
  Spec P TB gN [(0,.cells T 1 (outs.map AP))] 1 ([eI .i64 node,eI .i64 l,.o (.arr 0 1 0 outs.length)]++capsN.map .o) (λx σ nx=>x=.o (.arr 1 1 0 (outs++g.succ node l).length)/\nx=2/\σ=[(1,.cells T 1 ((outs++g.succ node l).map AP))])
theorem Hw{g:Gr}(Q:HU g)(hN:g.N<=1048576)(X:∀l∈g.ls,0<=l/\l < 6)(hll:g.ls.length<=6)(hsl:∀(node l:Int),0<=node/\node < g.N->l∈g.ls->(g.succ node l).length<=g.N)
 {gN gG:FuncId} {capsN capsG:List C} (hNx:YQ Tryz.prog TB 3 g gN capsN) (hG:∀n:Int,0<=n/\n < g.N->Pure Tryz.prog TB gG ([eI .i64 n]++capsG.map .o) (eB (g.goal n)))
 (hcG:C.C6 capsG=true) (d:∀r,C.Cj r capsG=capsG) (h:∀r,C.Cj r capsN=capsN) {r:Option (List Int)} (hr:Ch g r) :
 Pure Tryz.prog TB 135 [eI .i64 g.N,Av [g.s0],Av g.ls,.o (.fn gN capsN),.o (.fn gG capsG)] (Je r):=by
 refine eN Tryz.func135 rfl (by kernel_rfl) rfl ?_;intro Z b;(repeat first|refine aU rfl ?_);(refine pW rfl ?_ rfl (by rfl);refine CT rfl rfl ?_);(repeat first|refine tM rfl ?_ |refine aU rfl ?_ |refine Aa ?_);(refine pW rfl ?_ rfl (by rfl);refine N8 rfl rfl (by rfl) (by rfl) (am rfl) (by omega) (by omega) (by omega) ?_)
 iterate 4 (first|refine tM rfl ?_ |refine aU rfl ?_ |refine Aa ?_)
 (refine pW rfl ?_ rfl (by rfl);refine ZO 3 218 ?_);(repeat first|refine tM rfl ?_ |refine aU rfl ?_ |refine Aa ?_);have K:=Vi (goal:=g.goal) (N:=g.N) (seen:=List.replicate g.N false) (nodes:=[g.s0]) (by simp) (by intro n u;simp at u;subst u;exact Q.s0);have A:=TF (TB:=TB) hG hcG d (List.replicate g.N false) [] (-1) 0 [g.s0] (by simp) hN (by simp) (by intro n u;simp at u;subst u;exact Q.s0);(refine pW rfl ?_ rfl (by rfl);refine Ae [2,1,0,4,3] rfl rfl A ⟨rfl,by decide,by decide⟩ rfl (by simp[cX,zC,b,Ff,d,Af,eC]) ?_;rintro x0 T U ⟨rfl,q,L,rfl⟩ _);generalize hV:RF g.goal (List.replicate g.N false) [g.s0]=v at *;obtain⟨vse,vfr,vfd⟩:=v;simp only;refine Aa ?_;refine Aj.names [2,1,0,4,if q=4 then 3 else 5] [(2,Av g.ls),(3,.o (.fn gN capsN)),(12,.o (.ptr 0 1 0 0)),(13,.o (.ptr 3 1 0 0)),(14,.o (.fn 214 [.ptr 0 1 0 0,.ptr 2 1 0 0,.ptr 3 1 0 0])),(26,eB vfd)] (Ff g.N gG capsG vse 4 (Ex [] (-1) 0 vfr)) (by simp [b]) (by rcases L with ⟨rfl,rfl⟩|⟨rfl,rfl⟩<;>decide)
  (by rcases L with ⟨rfl,rfl⟩|⟨rfl,rfl⟩<;>simp[cX,zC,b,h,eC]) (by rcases L with ⟨rfl,rfl⟩|⟨rfl,rfl⟩<;>simp[cX,zC,b,Ff,d,Ab.A7,BP,HR,eC]) ?_
 (refine aC rfl ?_ ?_<;>rintro⟨⟩)
 ·-- the start is a goal
  have hgs:g.goal g.s0=true:=by
   have h1:vfr.any g.goal=true:=K.fd.symm;obtain⟨x,J,P⟩:=oL.1 h1;have h2:=((K.fr x).1 J).1;simp at h2;subst h2;exact P
  have B:=Ch.unique hr (Ch.start hgs);subst B;(repeat first|refine tM rfl ?_ |refine aU rfl ?_ |refine Aa ?_);refine aR ⟨_,rfl,rfl⟩
 refine aK ?_;obtain⟨hfr,hF0⟩:=FI.init Q K rfl;simp only at hfr hF0;rw [hfr];(repeat first|refine tM rfl ?_ |refine aU rfl ?_ |refine Aa ?_);refine aB ?_;refine Aj.A6 (α:={x:Nat×List Bool×List MZ×List (List Int) // FI g x.2.1 x.2.2.1 x.2.2.2 x.1 0}) (λ⟨⟨i,seen,steps,ws⟩,f⟩=>[(2,Av g.ls),(3,.o (.fn gN capsN)),(12,.o (.ptr 0 1 0 0)),(13,.o (.ptr 3 1 0 0)),(14,.o (.fn 214 [.ptr 0 1 0 0,.ptr 2 1 0 0,.ptr 3 1 0 0])),(15,eI .i64 i)]) (λ⟨⟨i,seen,steps,ws⟩,f⟩=>Ff g.N gG capsG seen 4 steps) 5 (λ⟨⟨i,seen,steps,ws⟩,f⟩=>g.N - i) (⟨(0,vse,[⟨-1,0,[g.s0]⟩],[[]]),hF0⟩) [0,1,2,3,4] (Ea b rfl rfl) (by (simp[cX,zC,b,Ff,d,h,Ex])) ?_;rintro⟨⟨i,seen,steps,ws⟩,f⟩;(try dsimp only);simp only at f;have Y:=f.iq;(repeat first|refine tM rfl ?_ |refine s2 rfl λ_ _hb=>?_ |refine aU rfl ?_ |refine Aa ?_);(refine aC rfl ?_ ?_<;>rintro⟨⟩)
 ·have hi : i < steps.length:=by (simp only[oZ] at *;omega)
  obtain⟨s,H⟩:=get_some hi;have V:(steps.map OD)[0+((i:Nat):Int).toNat]? = some (OD s):=GW H;obtain⟨wi,z⟩:∃wi,ws[i]? = some wi:=get_some (by rw [f.wlen];exact hi);refine aK ?_;refine aS (aB ?_);(repeat first|refine sN rfl ?_ |refine tM rfl ?_ |refine aU rfl ?_ |refine Aa ?_);refine aB ?_;refine Aj.A6 (α:={x:Nat×List Bool×List MZ×List (List Int) // x.1<=g.ls.length/\FI g x.2.1 x.2.2.1 x.2.2.2 i x.1/\i < x.2.2.1.length}) (λ⟨⟨j,c,st2,t⟩,hP⟩=>[(2,Av g.ls),(3,.o (.fn gN capsN)),(12,.o (.ptr 0 1 0 0)),(13,.o (.ptr 3 1 0 0)),(14,.o (.fn 214 [.ptr 0 1 0 0,.ptr 2 1 0 0,.ptr 3 1 0 0])),(15,eI .i64 i),(33,Av g.ls),(34,eI .i64 g.ls.length),(35,eI .i64 j)]) (λ⟨⟨j,c,st2,t⟩,hP⟩=>Ff g.N gG capsG c 4 st2) 5 (λ⟨⟨j,c,st2,t⟩,hP⟩=>g.ls.length - j) (⟨(0,seen,steps,ws),by simp,f,hi⟩) [0,1,2,3,4] (Ea b rfl rfl) (by (simp[cX,zC,b,Ff,d,h])) ?_;rintro⟨⟨j,c,st2,t⟩,hP⟩;(try dsimp only);clear H V z f Y hi;obtain⟨hj,f,hi⟩:=hP;simp only at hj f hi;have Y:=f.iq;(repeat first|refine s2 rfl λ_ _hb=>?_ |refine aU rfl ?_ |refine Aa ?_);(refine aC rfl ?_ ?_<;>rintro⟨⟩)
  ·have hjl:j < g.ls.length:=by (simp only[oZ] at *;omega)
   obtain⟨l,hl⟩:=get_some (l:=g.ls) (k:=j) hjl;have hl':=get_map (g:=BB) hl;have F:=co hl;have hlb:=X l F;obtain⟨s,H⟩:=get_some hi;have V:(st2.map OD)[0+((i:Nat):Int).toNat]? = some (OD s):=GW H;obtain⟨wi,z⟩:∃wi,t[i]? = some wi:=get_some (by rw [f.wlen];exact hi);have p:=f.inn s (co H);have hsnd:=Fw _ _ (f.nd s (co H)) p;refine aK ?_;refine aS (aB ?_);(repeat first|refine tM rfl ?_ |(refine s4 rfl ‹_› rfl ?_ ?_;omega) |refine aU rfl ?_ |refine Aa ?_);(refine pW rfl ?_ rfl (by rfl);refine Gx 1 3 ?_);(repeat first|refine sN rfl ?_ |(refine sM rfl ?_ ?_;first|exact tI|omega) |refine t4 rfl ‹_› rfl ?_ |refine aU rfl ?_ |refine Aa ?_);refine aB ?_;refine Aj.A6 (α:={m:Nat // m<=s.ns.length}) (λ⟨m,hm⟩=>[(2,Av g.ls),(3,.o (.fn gN capsN)),(12,.o (.ptr 0 1 0 0)),(13,.o (.ptr 3 1 0 0)),(14,.o (.fn 214 [.ptr 0 1 0 0,.ptr 2 1 0 0,.ptr 3 1 0 0])),(15,eI .i64 i),(33,Av g.ls),(34,eI .i64 g.ls.length),(35,eI .i64 j),(17,eI .i64 l),(18,.o (.arr 5 1 0 ((s.ns.take m).flatMap λn=>g.succ n l).length)),(43,Av s.ns),(44,eI .i64 s.ns.length),(45,eI .i64 m)]) (λ⟨m,hm⟩=>Ff g.N gG capsG c 4 st2++[(5,.cells 3 1 (((s.ns.take m).flatMap λn=>g.succ n l).map AP))]) 6 (λ⟨m,hm⟩=>s.ns.length - m) (⟨0,by omega⟩) [0,1,2,3,4,5] (Ea b rfl rfl) (by (simp[cX,zC,b,Ff,d,h])) ?_;rintro⟨m,hm⟩;(try dsimp only);(repeat first|refine s2 rfl λ_ _hb=>?_ |refine aU rfl ?_ |refine Aa ?_);(refine aC rfl ?_ ?_<;>rintro⟨⟩)
   ·obtain⟨n,u⟩:=get_some (l:=s.ns) (k:=m) (by (simp only[oZ] at *;omega))
    have hn':=get_map (g:=BB) u;have hnb:=p n (co u)
    have hfm:(s.ns.take (m+1)).flatMap (λn=>g.succ n l)=(s.ns.take m).flatMap (λn=>g.succ n l)++g.succ n l:=by
     rw [gt,u];simp
    have hol:((s.ns.take m).flatMap λn=>g.succ n l).length<=1099511627776:=by
     have h2:=Kk (s.ns.take m) (λn=>g.succ n l) 1048576 (λx J=>by have:=hsl x l (p x (lU J)) F;omega)
     have h3:(s.ns.take m).length<=1048576:=by simp;omega
     omega
    have hnx:=hNx n l _ hnb F hol;generalize (s.ns.take m).flatMap (λn=>g.succ n l)=pre at *;refine aK ?_;refine aS (aB ?_);(repeat first|refine tM rfl ?_ |(refine s4 rfl ‹_› rfl ?_ ?_;omega) |refine aU rfl ?_ |refine Aa ?_);(refine pW rfl ?_ rfl (by rfl);refine Ae [5] rfl rfl hnx ⟨rfl,by decide,by decide⟩ (by rw [PZ,Om,h];rfl) (by simp[cX,zC,b]) ?_;rintro x0 T U ⟨rfl,rfl,rfl⟩ _);(repeat first|(refine sM rfl ?_ ?_;first|exact tI|omega) |refine aU rfl ?_ |refine Aa ?_);refine⟨⟨m+1,by (simp only[oZ] at *;omega)⟩,by dsimp only;((simp only[oZ] at *;omega)),[0,1,2,3,4,6],?_⟩;simp[cX,zC,b,Ff,d,h,Ab.A7,BP,HR,hfm]
   ·obtain rfl:m=s.ns.length:=by (simp only[oZ] at *;omega)
    rw [i7];have hR:∀y,y∈s.ns.flatMap (λn=>g.succ n l)↔∃n∈s.ns,y∈g.succ n l:=λy=>mJ;generalize s.ns.flatMap (λn=>g.succ n l)=R at *
    have I:∀y∈R,0<=y/\y < g.N:=λy hy=>by
     obtain⟨n,u,hy⟩:=(hR y).1 hy;exact Q.inn n (p n u) l F y hy
    have hv:=Vi (goal:=g.goal) f.slen I;have A:=TF (TB:=TB) hG hcG d c st2 i l R f.slen hN (by omega) I;generalize hV2:RF g.goal c R=v2 at *;refine aE ?_;refine Aj.freeze [5] [(2,Av g.ls),(3,.o (.fn gN capsN)),(12,.o (.ptr 0 1 0 0)),(13,.o (.ptr 3 1 0 0)),(14,.o (.fn 214 [.ptr 0 1 0 0,.ptr 2 1 0 0,.ptr 3 1 0 0])),(15,eI .i64 i),(33,Av g.ls),(34,eI .i64 g.ls.length),(35,eI .i64 j),(17,eI .i64 l),(18,Av R)] ⟨⟨_,rfl,.AL⟩,⟨_,rfl,.AL⟩,⟨_,rfl,.AL⟩,⟨_,rfl,.AL⟩,⟨_,rfl,.AL⟩,⟨_,rfl,.AL⟩,⟨_,rfl,.AL⟩,⟨_,rfl,.AL⟩,⟨_,rfl,.AL⟩,⟨_,rfl,.AL⟩,⟨_,rfl,.o (.full (by simp) rfl (by simp [d6]) (by simp))⟩,trivial⟩ ?_;(repeat first|refine tM rfl ?_ |refine aU rfl ?_);(refine pW rfl ?_ rfl (by rfl);refine Ae [0,1,2,3,4] rfl rfl A ⟨rfl,by decide,by decide⟩ rfl (by simp[cX,zC,b,Ff,d,BP]) ?_;rintro x0 T U ⟨rfl,q,L,rfl⟩ _);obtain⟨vse,vfr,vfd⟩:=v2;simp only;refine Aa ?_;refine Aj.names [0,1,2,3,if q=4 then 4 else 6] [(2,Av g.ls),(3,.o (.fn gN capsN)),(12,.o (.ptr 0 1 0 0)),(13,.o (.ptr 3 1 0 0)),(14,.o (.fn 214 [.ptr 0 1 0 0,.ptr 2 1 0 0,.ptr 3 1 0 0])),(15,eI .i64 i),(33,Av g.ls),(34,eI .i64 g.ls.length),(35,eI .i64 j),(59,eB vfd)] (Ff g.N gG capsG vse 4 (Ex st2 i l vfr)) (by simp [b]) (by rcases L with ⟨rfl,rfl⟩|⟨rfl,rfl⟩<;>decide)
     (by rcases L with ⟨rfl,rfl⟩|⟨rfl,rfl⟩<;>simp[cX,zC,b,h]) (by rcases L with ⟨rfl,rfl⟩|⟨rfl,rfl⟩<;>simp[cX,zC,b,Ff,d,Ab.A7,BP,HR]) ?_
    (refine aC rfl ?_ ?_<;>rintro⟨⟩)
    ·obtain⟨x,J,P⟩:∃x∈vfr,g.goal x=true:=by
      have h1:vfr.any g.goal=true:=hv.fd.symm;exact oL.1 h1
     have hxR:=((hv.fr x).1 J).1;obtain⟨n,u,hxn⟩:=(hR x).1 hxR;have G:=Ch.found Q f z hl H u hxn P;have B:=Ch.unique hr G;subst B
     have hne:vfr≠[]:=λe=>by rw [e] at J;cases J
     have hsv:Ex st2 i l vfr=st2++[⟨i,l,vfr⟩]:=by unfold Ex;rw [if_neg hne]
     rw [hsv];have hch:=f.WY.app (ns:=vfr) z F;have hpw:=SO (TB:=TB) hch X (w:=wi++[l]) (by simp;omega) (by simp [f.wlen]);generalize hst3:st2++[⟨(i:Int),l,vfr⟩]=st3 at *;(repeat first|refine tM rfl ?_|(refine Ai rfl ?_;refine gA rfl ?_;first| refine gQ (KG rfl rfl ((.cons (.o (.full rfl (by simp [d6]) (by simp))) .nil)) (hpw) rfl) rfl ?_) |refine aU rfl ?_ |refine Aa ?_);refine aR ⟨_,rfl,rfl⟩
    ·have S:=f.visit Q z hl H hR hv rfl
     have M:i < (Ex st2 i l vfr).length:=by unfold Ex;split<;>(try simp)<;>omega
     refine aK ?_;(repeat first|(refine sM rfl ?_ ?_;first|exact tI|omega) |refine aU rfl ?_ |refine Aa ?_);refine⟨⟨(j+1,vse,Ex st2 i l vfr,ko t (wi++[l]) vfr),hjl,S,M⟩,by dsimp only;omega,[0,1,2,3,4],?_⟩;simp[cX,zC,b,Ff,d,h]
  ·obtain rfl:j=g.ls.length:=by (simp only[oZ] at *;omega)
   have S:=f.iz hi;refine aE ?_;(repeat first|(refine sM rfl ?_ ?_;first|exact tI|omega) |refine aU rfl ?_ |refine Aa ?_);refine⟨⟨(i+1,c,st2,t),S⟩,by dsimp only;omega,[0,1,2,3,4],?_⟩;simp[cX,zC,b,Ff,d,h]
 ·have hle:=f.le
  obtain rfl:i=steps.length:=by (simp only[oZ] at *;omega)
  have G:=Ch.kV Q f;have B:=Ch.unique hr G;subst B;refine aE ?_;(repeat first|refine tM rfl ?_ |refine aU rfl ?_ |refine Aa ?_);refine aR ⟨_,rfl,rfl⟩
def Fc(a p:AX)(node letter:Int):Int:=Cg a (node / p.nx.length % a.nx.length).toNat letter*p.nx.length+Cg p (node % p.nx.length).toNat letter
def II(l:List Sys)(a p:AX)(node letter:Int):List Int:=(DN (l.map (·.st)) (VI l (node / p.nx.length / a.nx.length) letter)).map λo=>o*a.nx.length*p.nx.length+Fc a p node letter
def Mq(a p:AX)(node:Int):Bool:=a.ac.getD (node / p.nx.length % a.nx.length).toNat false && !p.ac.getD (node % p.nx.length).toNat false
def gI(l:List Sys)(a p:AX)(ls:List Int):Gr:=⟨(Au (l.map (·.st))*a.nx.length*p.nx.length).toNat,II l a p,Mq a p,ls,0⟩
theorem HI{a:AX}{q:Nat}(h:q < a.nx.length):(DK a)[q]? = some (UM λl=>Cg a q l):=DA (g:=λq=>UM λl=>Cg a q l) h
theorem Ge{h:Nat->Int}{l:Int}(d:0<=l)(c:l < 6):((UM h).drop (l.toNat*1))[0]? = some (iD (h l.toNat)):=by
 rw [lS]
 have b:l.toNat*1+0=l.toNat:=by omega
 have a:l.toNat < 6:=by omega
 rw [b];simp [UM,a]
theorem bx{outs low:List Int}{h:Int->Int}{k:Nat}{x:Int}(a:low[k]? = some x):(outs++((low.take k).map h++low.drop k)).set (outs.length+k) (h x)=outs++((low.take (k+1)).map h++low.drop (k+1)):=by
 have hk:=(ce.1 a).1;rw [nR _ _ (by omega),nR _ _ (by simp;omega)];congr 1
 have e:outs.length+k - outs.length - ((low.take k).map h).length=0:=by simp;omega
 rw [e,BA a,gt,a];simp
theorem BZ{a:AX}(h:AE a=true):1<=a.nx.length/\a.nx.length<=12:=by have:=Ay h;omega
theorem IF{l:List Sys}(h:∀s∈l,AZ s=true)(d:l.length<=3):1<=Au (l.map (·.st))/\Au (l.map (·.st))<=4096:=by
 have a:∀z∈l.map (·.st),1<=z/\z<=16:=by
  intro z b;obtain⟨s,c,rfl⟩:=d8.1 b;have:=AQ (h s c);omega
 have f:=Hf _ a
 have e:(16:Int) ^ (l.map (·.st)).length<=4096:=by
  have:(l.map (·.st)).length<=3:=by simp;omega
  generalize (l.map (·.st)).length=n at this
  have:n=0\/n=1\/n=2\/n=3:=by omega
  rcases this with rfl|rfl|rfl|rfl<;>decide
 omega
theorem Td{a p:AX}(ha:AE a=true)(b:AE p=true){node letter:Int}(g:0<=node)(d:0<=letter)(c:letter < 6):0<=Fc a p node letter/\Fc a p node letter < a.nx.length*p.nx.length:=by
 have o:=BZ ha;have l:=BZ b
 have k:0<=node / p.nx.length % a.nx.length/\node / p.nx.length % a.nx.length < a.nx.length:=⟨mq _ (by omega),mc _ (by omega)⟩
 have j:0<=node % p.nx.length/\node % p.nx.length < p.nx.length:=⟨mq _ (by omega),mc _ (by omega)⟩
 have f:=CK ha (q:=(node / p.nx.length % a.nx.length).toNat) (by omega) d c;have i:=CK b (q:=(node % p.nx.length).toNat) (by omega) d c;unfold Fc;generalize Cg a _ letter=x at *;generalize Cg p _ letter=y at *;generalize (a.nx.length:Int)=n at *;generalize (p.nx.length:Int)=m at *;have h:0<=x*m:=l4 f.1 (by omega);have e:(x+1)*m<=n*m:=mj (by omega) (by omega);rw [mP] at e;omega
theorem SF[Dx TB]{l:List Sys}{a p:AX}(h:∀s∈l,AZ s=true)(M:l.length<=3)(ha:AE a=true)(I:AE p=true)(node letter:Int)(d:0<=node)(hn1:node<=1048576)(j:0<=letter)(f:letter < 6)(outs:List Int)(J:outs.length<=1099511627776) :
 Spec Tryz.prog TB 260 [(0,.cells 3 1 (outs.map AP))] 1 [eI .i64 node,eI .i64 letter,.o (.arr 0 1 0 outs.length),.o (.ip [.l (DK a)]),.o (.ip [iD p.nx.length]),.o (.ip [iD a.nx.length]),.o (.ip [.l (DK p)]),.o (.ip (Gc l))]
  (λx σ nx=>x=.o (.arr 1 1 0 (outs++II l a p node letter).length)/\nx=2/\σ=[(1,.cells 3 1 ((outs++II l a p node letter).map AP))]):=by
 have han:=BZ ha;have hpn:=BZ I;have F:=Td ha I d j f;have u:0<=node / p.nx.length:=mR d (by omega);have X:node / p.nx.length<=node:=nc _ d;have H:0<=node / p.nx.length / a.nx.length:=mR u (by omega);have V:node / p.nx.length / a.nx.length<=node / p.nx.length:=nc _ u
 have h4:0<=node / p.nx.length % a.nx.length/\node / p.nx.length % a.nx.length < a.nx.length:=⟨mq _ (by omega),mc _ (by omega)⟩
 have h5:0<=node % p.nx.length/\node % p.nx.length < p.nx.length:=⟨mq _ (by omega),mc _ (by omega)⟩
 have h6:=CK ha (q:=(node / p.nx.length % a.nx.length).toNat) (by omega) j f;have h7:=CK I (q:=(node % p.nx.length).toNat) (by omega) j f;have U:=HI (a:=a) (q:=(node / p.nx.length % a.nx.length).toNat) (by omega);have T:=HI (a:=p) (q:=(node % p.nx.length).toNat) (by omega);have t:=Ge (h:=λl=>Cg a (node / p.nx.length % a.nx.length).toNat l) j f;have r:=Ge (h:=λl=>Cg p (node % p.nx.length).toNat l) j f
 have el:((letter.toNat:Nat):Int)=letter:=by omega
 have h8:0<=Cg a (node / p.nx.length % a.nx.length).toNat letter*p.nx.length/\Cg a (node / p.nx.length % a.nx.length).toNat letter*p.nx.length<=144:=⟨l4 h6.1 (by omega),by
  have:Cg a (node / p.nx.length % a.nx.length).toNat letter*p.nx.length<=12*12:=l3 (by omega) (by omega) (by omega) (by omega)
  omega⟩
 simp only [el] at t r;have K:=c6 (TB:=TB) l h M (node / p.nx.length / a.nx.length) letter H (by omega) j f outs J;have w:=QM (Qx h M j f (node / p.nx.length / a.nx.length));have Y:=IF h M;have G:Cg a (node / p.nx.length % a.nx.length).toNat letter*p.nx.length+Cg p (node % p.nx.length).toNat letter=Fc a p node letter:=rfl;unfold II;generalize DN (l.map (·.st)) (VI l (node / p.nx.length / a.nx.length) letter)=low at *;refine eN Tryz.func260 rfl (by kernel_rfl) rfl ?_;intro Z b;(repeat first |refine sN rfl ?_ |((first|refine sA rfl ?_ ?_|refine s4 rfl ‹_› rfl ?_ ?_);first|exact tI|omega|simp only[oZ] at *;omega) |refine s2 rfl λ_ c=>?_ |refine s3 rfl ?_ ?_<;>rintro rfl |refine aU rfl ?_ |refine Aa ?_);refine rG (HQ []) (by kernel_rfl) ?_;(repeat first |refine sN rfl ?_ |((first|refine sA rfl ?_ ?_|refine s4 rfl ‹_› rfl ?_ ?_);first|exact tI|omega|simp only[oZ] at *;omega) |refine s2 rfl λ_ c=>?_|(refine Ai rfl ?_;refine gA rfl ?_;first|refine gS (λ_ _=>Da rfl t) ?_|refine gS (λ_ _=>Da rfl r) ?_) |refine s3 rfl ?_ ?_<;>rintro rfl |refine aU rfl ?_ |refine Aa ?_);rw [G];refine rG (HQ [8]) (by kernel_rfl) ?_;(repeat first |refine sN rfl ?_ |((first|refine sA rfl ?_ ?_|refine s4 rfl ‹_› rfl ?_ ?_);first|exact tI|omega|simp only[oZ] at *;omega) |refine s2 rfl λ_ c=>?_ |refine s3 rfl ?_ ?_<;>rintro rfl |refine aU rfl ?_ |refine Aa ?_);(refine pW rfl ?_ rfl (by rfl);refine Ae [0] rfl rfl K ⟨rfl,by decide,by decide⟩ rfl (by simp[cX,zC,b]) ?_;rintro x0 R S ⟨rfl,rfl,rfl⟩ _);(repeat first |refine sN rfl ?_ |((first|refine sA rfl ?_ ?_|refine s4 rfl ‹_› rfl ?_ ?_);first|exact tI|omega|simp only[oZ] at *;omega) |refine s2 rfl λ_ c=>?_ |refine s3 rfl ?_ ?_<;>rintro rfl |refine aU rfl ?_ |refine Aa ?_);refine aB ?_
 have L:∀k,((outs++((low.take k).map (λo=>o*a.nx.length*p.nx.length+Fc a p node letter)++low.drop k)).length)=outs.length+low.length:=by intro k;simp;omega
 refine Aj.A6 (α:={k:Nat // k<=low.length}) (λ⟨k,hk⟩=>[(2,.o (.arr 1 1 0 (outs.length+low.length))),(4,.o (.ip [iD p.nx.length])),(5,.o (.ip [iD a.nx.length])),(12,eI .i64 (Fc a p node letter)),(14,eI .i64 ((outs.length+k:Nat):Int))]) (λ⟨k,hk⟩=>[(1,.cells 3 1 ((outs++((low.take k).map (λo=>o*a.nx.length*p.nx.length+Fc a p node letter)++low.drop k)).map AP))]) 2 (λ⟨k,hk⟩=>low.length - k) (⟨0,by omega⟩) [0,1] (Ea b rfl rfl) (by ((repeat' first|exact tI|rfl|refine And.intro ?_ ?_)<;>(simp[cX,zC,b,Ab.A7,BP,HR]))) ?_;rintro⟨k,hk⟩;(try dsimp only);(repeat first |refine sN rfl ?_ |((first|refine sM rfl ?_ ?_|refine s4 rfl ‹_› rfl ?_ ?_);first|exact tI|omega|simp only[oZ] at *;omega) |refine s2 rfl λ_ c=>?_ |refine s3 rfl ?_ ?_<;>rintro rfl |refine aU rfl ?_ |refine Aa ?_ |refine rE (by kernel_rfl) ?_);(refine aC rfl ?_ ?_<;>rintro⟨⟩)
 ·have z:k < low.length:=by first|omega|simp only[oZ] at *;omega
  obtain⟨x,B⟩:=get_some (l:=low) (k:=k) z;have A:=w.1 x (co B);have n:=bx (outs:=outs) (h:=λo=>o*a.nx.length*p.nx.length+Fc a p node letter) B
  have P:(outs++((low.take k).map (λo=>o*a.nx.length*p.nx.length+Fc a p node letter)++low.drop k))[outs.length+k]? = some x:=by
   rw [em (by omega),em (by simp;omega),BA B]
   have e:outs.length+k - outs.length - ((low.take k).map (λo=>o*a.nx.length*p.nx.length+Fc a p node letter)).length=0:=by simp;omega
   rw [e];rfl
  have Q:=GW (g:=AP) P
  have v:0<=x*a.nx.length/\x*a.nx.length<=49152:=⟨l4 A.1 (by omega),by
   have:x*a.nx.length<=4096*12:=l3 (by omega) (by omega) (by omega) (by omega)
   omega⟩
  have hm2:0<=x*a.nx.length*p.nx.length/\x*a.nx.length*p.nx.length<=589824:=⟨l4 v.1 (by omega),by
   have:x*a.nx.length*p.nx.length<=49152*12:=l3 v.2 (by omega) (by omega) (by omega)
   omega⟩
  have hm3:(a.nx.length:Int)*p.nx.length<=144:=by
   have:(a.nx.length:Int)*p.nx.length<=12*12:=l3 (by omega) (by omega) (by omega) (by omega);omega
  have hlk:=L k
  have N:((outs.length+k:Nat):Int)+1=((outs.length+(k+1):Nat):Int):=by omega
  have m:=Hi (l:=outs++((low.take k).map (λo=>o*a.nx.length*p.nx.length+Fc a p node letter)++low.drop k)) (k:=outs.length+k) (x:=x) (y:=x*a.nx.length*p.nx.length+Fc a p node letter);rw [n] at m;generalize outs++((low.take k).map (λo=>o*a.nx.length*p.nx.length+Fc a p node letter)++low.drop k)=cur at *;refine aK ?_;refine aS (aB ?_);refine rG (HQ [13]) (by kernel_rfl) ?_;(repeat first |refine sN rfl ?_ |((first|refine sM rfl ?_ ?_|refine s4 rfl ‹_› rfl ?_ ?_);first|exact tI|omega|simp only[oZ] at *;omega) |refine s2 rfl λ_ c=>?_ |refine s3 rfl ?_ ?_<;>rintro rfl |refine aU rfl ?_ |refine Aa ?_ |refine rE (by kernel_rfl) ?_);refine⟨⟨k+1,z⟩,by dsimp only;omega,[0,1],?_⟩;rw [m,N];simp[cX,zC,b]
 ·obtain rfl:k=low.length:=by first|omega|simp only[oZ] at *;omega
  rw [i7,oO,l8];refine aE ?_;(repeat first |refine sN rfl ?_ |((first|refine sM rfl ?_ ?_|refine s4 rfl ‹_› rfl ?_ ?_);first|exact tI|omega|simp only[oZ] at *;omega) |refine s2 rfl λ_ c=>?_ |refine s3 rfl ?_ ?_<;>rintro rfl |refine aU rfl ?_ |refine Aa ?_ |refine rE (by kernel_rfl) ?_);refine Aj.names [0,1] [(11,.o (.arr 1 1 0 (outs.length+low.length)))] [(1,.cells 3 1 ((outs++low.map λo=>o*a.nx.length*p.nx.length+Fc a p node letter).map AP))] (by intro i hi;rw [b] at hi;obtain rfl:i=0:=(by omega);rfl) (by simp) (by simp[cX,zC,b]) (by simp[cX,zC,b]) ?_;refine aR ⟨_,rfl,by simp,rfl,rfl⟩
theorem Qq(s:Sys):Pure Tryz.prog TB 265 [BN s] (eB (!AZ s)):=by
 refine eN Tryz.func265 rfl (by kernel_rfl) rfl ?_;intro Z b;(repeat' first |refine sN rfl ?_ |((first|refine sA rfl ?_ ?_|refine s4 rfl ‹_› rfl ?_ ?_);first|exact tI|omega|simp only[oZ] at *;omega) |refine s2 rfl λ_ a=>?_ |(refine sC rfl (BS s) ?_;intro _ a) |refine s3 rfl ?_ ?_<;>rintro rfl |refine aU rfl ?_ |refine Aa ?_ |refine rE (by kernel_rfl) ?_|(refine aC rfl ?_ ?_<;>rintro⟨⟩)|refine aK ?_|refine aE ?_|refine aB ?_|refine aR ⟨_,rfl,?_⟩)
 all_goals (show E.o _=E.o _;congr;grind)
def TV:List Sys->Int->Int
 | [],_=>-1
 | s::l,k=>if AZ s then TV l (k+1) else k
theorem RV:∀(l:List Sys) (k:Int),0<=k->(decide (0<=TV l k) = !l.all AZ)
 | [],_,_=>rfl
 | s::l,k,h=>by
  unfold TV;by_cases a:AZ s=true
  ·rw [if_pos a,RV l (k+1) (by omega)];simp [a]
  ·rw [if_neg a];simp [a,h]
theorem QH(l:List Sys):Pure Tryz.prog TB 287 [HP l,.o (.fn 265 [])] (eI .i64 (TV l 0)):=by
 refine eN Tryz.func287 rfl (by kernel_rfl) rfl ?_;intro Z b;refine Aj.bound 0 rfl λc=>?_;have f:=c (l.map AJ) .refl;(repeat' first |refine sN rfl ?_ |((first|refine sA rfl ?_ ?_|refine s4 rfl ‹_› rfl ?_ ?_);first|exact tI|omega|simp only[oZ] at *;omega) |refine s2 rfl λ_ a=>?_ |refine s3 rfl ?_ ?_<;>rintro rfl |refine aU rfl ?_ |refine Aa ?_ |refine rE (by kernel_rfl) ?_|(refine aC rfl ?_ ?_<;>rintro⟨⟩)|refine aK ?_|refine aE ?_|refine aB ?_|refine aR ⟨_,rfl,?_⟩);refine Aj.A6 (α:={k:Nat // k<=l.length/\TV l 0=TV (l.drop k) k}) (λ⟨k,hk,ha⟩=>[(0,HP l),(1,.o (.fn 265 [])),(7,eI .i64 l.length),(8,eI .i64 k)]) (λ⟨k,hk,ha⟩=>[]) 0 (λ⟨k,hk,ha⟩=>l.length - k) (⟨0,by omega,rfl⟩) [] (Ea b rfl rfl) (by ((repeat' first|exact tI|rfl|refine And.intro ?_ ?_)<;>(simp[cX,zC,b]))) ?_;rintro⟨k,hk,ha⟩;(try dsimp only);(repeat first |refine sN rfl ?_ |((first|refine sA rfl ?_ ?_|refine s4 rfl ‹_› rfl ?_ ?_);first|exact tI|omega|simp only[oZ] at *;omega) |refine s2 rfl λ_ a=>?_ |refine s3 rfl ?_ ?_<;>rintro rfl |refine aU rfl ?_ |refine Aa ?_ |refine rE (by kernel_rfl) ?_);(refine aC rfl ?_ ?_<;>rintro⟨⟩)
 ·obtain⟨x,d⟩:=get_some (l:=l) (k:=k) (by first|omega|simp only[oZ] at *;omega)
  have e:=get_map (g:=AJ) d;rw [BA d,TV] at ha;(repeat' first |refine sN rfl ?_ |((first|refine sA rfl ?_ ?_|refine s4 rfl ‹_› rfl ?_ ?_);first|exact tI|omega|simp only[oZ] at *;omega) |refine s2 rfl λ_ a=>?_ |(refine sC rfl (Qq x) ?_;intro _ a) |refine s3 rfl ?_ ?_<;>rintro rfl |refine aU rfl ?_ |refine Aa ?_ |refine rE (by kernel_rfl) ?_|(refine aC rfl ?_ ?_<;>rintro⟨⟩)|refine aK ?_|refine aE ?_|refine aB ?_|refine aR ⟨_,rfl,?_⟩)
  ·rw [if_neg (by grind)] at ha
   show E.o _=E.o _;rw [ha]
  ·rw [if_pos (by grind)] at ha
   refine⟨⟨k+1,by first|omega|simp only[oZ] at *;omega,by rw [ha];rfl⟩,by dsimp only;(first|omega|simp only[oZ] at *;omega),[],?_⟩;simp[cX,zC,b]
 ·(repeat' first |refine sN rfl ?_ |((first|refine sA rfl ?_ ?_|refine s4 rfl ‹_› rfl ?_ ?_);first|exact tI|omega|simp only[oZ] at *;omega) |refine s2 rfl λ_ a=>?_ |refine s3 rfl ?_ ?_<;>rintro rfl |refine aU rfl ?_ |refine Aa ?_ |refine rE (by kernel_rfl) ?_|(refine aC rfl ?_ ?_<;>rintro⟨⟩)|refine aK ?_|refine aE ?_|refine aB ?_|refine aR ⟨_,rfl,?_⟩)
  rw [mH (by first|omega|simp only[oZ] at *;omega)] at ha
  show E.o _=E.o _;rw [ha];rfl
theorem MT(l:List Sys):Pure Tryz.prog TB 264 [HP l,.o (.fn 265 [])] (eB (!l.all AZ)):=by
 have hb:=RV l 0 (by omega);refine eN Tryz.func264 rfl (by kernel_rfl) rfl ?_;intro Z a;(repeat' first |refine sN rfl ?_ |((first|refine sA rfl ?_ ?_|refine s4 rfl ‹_› rfl ?_ ?_);first|exact tI|omega|simp only[oZ] at *;omega) |refine s2 rfl λ_ b=>?_ |refine sP rfl (QH l) rfl ?_ |refine s3 rfl ?_ ?_<;>rintro rfl |refine aU rfl ?_ |refine Aa ?_ |refine rE (by kernel_rfl) ?_|(refine aC rfl ?_ ?_<;>rintro⟨⟩)|refine aK ?_|refine aE ?_|refine aB ?_|refine aR ⟨_,rfl,?_⟩)
 all_goals (show E.o _=E.o _;congr;grind)
theorem Im(l:List Sys):Pure Tryz.prog TB 201 [HP l] (eB (Bc l)):=by
 refine eN Tryz.func201 rfl (by kernel_rfl) rfl ?_;intro Z b;(repeat' first |refine sN rfl ?_ |((first|refine sA rfl ?_ ?_|refine s4 rfl ‹_› rfl ?_ ?_);first|exact tI|omega|simp only[oZ] at *;omega) |refine s2 rfl λ_ a=>?_ |(refine sC rfl (MT l) ?_;intro _ a) |refine s3 rfl ?_ ?_<;>rintro rfl |refine aU rfl ?_ |refine Aa ?_ |refine rE (by kernel_rfl) ?_|(refine aC rfl ?_ ?_<;>rintro⟨⟩)|refine aK ?_|refine aE ?_|refine aB ?_|refine aR ⟨_,rfl,?_⟩)
 all_goals (show E.o _=E.o _;congr;unfold Bc;grind)
theorem E4(l:List Sys):Pure Tryz.prog TB 259 [HP l] (eI .i64 (BI l)):=by
 refine eN Tryz.func259 rfl (by kernel_rfl) rfl ?_;intro Z b;refine Aj.bound 0 rfl λe=>?_;have i:=e (l.map AJ) .refl;(repeat' first |refine sN rfl ?_ |((first|refine sA rfl ?_ ?_|refine s4 rfl ‹_› rfl ?_ ?_);first|exact tI|omega|simp only[oZ] at *;omega) |refine s2 rfl λ_ a=>?_ |(refine sC rfl (Im l) ?_;intro _ a) |refine s3 rfl ?_ ?_<;>rintro rfl |refine aU rfl ?_ |refine Aa ?_ |refine rE (by kernel_rfl) ?_|(refine aC rfl ?_ ?_<;>rintro⟨⟩)|refine aK ?_|refine aE ?_|refine aB ?_|refine aR ⟨_,rfl,?_⟩)
 all_goals try (show E.o _=E.o _;congr;unfold BI;rw [if_neg (by grind)])
 have d:Bc l=true:=by grind
 refine Aj.A6 (α:={k:Nat // k<=l.length}) (λ⟨k,hk⟩=>[(3,eI .i64 (LO (l.take k) 0)),(9,HP l),(10,eI .i64 l.length),(11,eI .i64 k)]) (λ⟨k,hk⟩=>[]) 0 (λ⟨k,hk⟩=>l.length - k) (⟨0,by omega⟩) [] (Ea b rfl rfl) (by ((repeat' first|exact tI|rfl|refine And.intro ?_ ?_)<;>(simp[cX,zC,b]))) ?_;rintro⟨k,hk⟩;(try dsimp only);(repeat first |refine sN rfl ?_ |((first|refine sA rfl ?_ ?_|refine s4 rfl ‹_› rfl ?_ ?_);first|exact tI|omega|simp only[oZ] at *;omega) |refine s2 rfl λ_ a=>?_ |refine s3 rfl ?_ ?_<;>rintro rfl |refine aU rfl ?_ |refine Aa ?_ |refine rE (by kernel_rfl) ?_);(refine aC rfl ?_ ?_<;>rintro⟨⟩)
 ·obtain⟨x,f⟩:=get_some (l:=l) (k:=k) (by first|omega|simp only[oZ] at *;omega)
  have h:=get_map (g:=AJ) f
  have c:LO (l.take (k+1)) 0=FV .i64 (LO (l.take k) 0) x.al:=by unfold LO;rw [Hx f]
  (repeat' first |refine sN rfl ?_ |((first|refine sA rfl ?_ ?_|refine s4 rfl ‹_› rfl ?_ ?_);first|exact tI|omega|simp only[oZ] at *;omega) |refine s2 rfl λ_ a=>?_ |refine s3 rfl ?_ ?_<;>rintro rfl |refine aU rfl ?_ |refine Aa ?_ |refine rE (by kernel_rfl) ?_|(refine aC rfl ?_ ?_<;>rintro⟨⟩)|refine aK ?_|refine aE ?_|refine aB ?_|refine aR ⟨_,rfl,?_⟩);refine⟨⟨k+1,by first|omega|simp only[oZ] at *;omega⟩,by dsimp only;(first|omega|simp only[oZ] at *;omega),[],?_⟩;simp[cX,zC,b,c]
 ·(repeat' first |refine sN rfl ?_ |((first|refine sA rfl ?_ ?_|refine s4 rfl ‹_› rfl ?_ ?_);first|exact tI|omega|simp only[oZ] at *;omega) |refine s2 rfl λ_ a=>?_ |refine s3 rfl ?_ ?_<;>rintro rfl |refine aU rfl ?_ |refine Aa ?_ |refine rE (by kernel_rfl) ?_|(refine aC rfl ?_ ?_<;>rintro⟨⟩)|refine aK ?_|refine aE ?_|refine aB ?_|refine aR ⟨_,rfl,?_⟩)
  rw [lm (by first|omega|simp only[oZ] at *;omega)]
  show E.o _=E.o _;congr;unfold BI;rw [if_pos d]
theorem Sl{a p:AX}(ha:AE a=true)(e:AE p=true)(node:Int)(d:0<=node)(n:node<=1048576):Pure Tryz.prog TB 262 [eI .i64 node,.o (.ip [.p (AM a)]),.o (.ip [iD p.nx.length]),.o (.ip [iD a.nx.length]),.o (.ip (AM p))] (eB (Mq a p node)):=by
 have t:=BZ ha;have j:=BZ e;have u:=Ay ha;have m:=Ay e;have i:0<=node / p.nx.length:=mR d (by omega);have h:node / p.nx.length<=node:=nc _ d
 have x:0<=node / p.nx.length % a.nx.length/\node / p.nx.length % a.nx.length < a.nx.length:=⟨mq _ (by omega),mc _ (by omega)⟩
 have w:0<=node % p.nx.length/\node % p.nx.length < p.nx.length:=⟨mq _ (by omega),mc _ (by omega)⟩
 obtain⟨b,hb⟩:=get_some (l:=a.ac) (k:=(node / p.nx.length % a.nx.length).toNat) (by omega);obtain⟨c,f⟩:=get_some (l:=p.ac) (k:=(node % p.nx.length).toNat) (by omega)
 have s:(a.ac.map Js)[(node / p.nx.length % a.nx.length).toNat]? = some (Js b):=by simp [hb]
 have r:(p.ac.map Js)[(node % p.nx.length).toNat]? = some (Js c):=by simp [f]
 have q:Mq a p node=(b && !c):=by simp [Mq,List.getD,hb,f]
 rw [q];refine eN Tryz.func262 rfl (by kernel_rfl) rfl ?_;intro Z g;(repeat' first |refine sN rfl ?_ |((first|refine sA rfl ?_ ?_|refine s4 rfl ‹_› rfl ?_ ?_);first|exact tI|omega|simp only[oZ] at *;omega) |refine s2 rfl λ_ v=>?_ |refine s3 rfl ?_ ?_<;>rintro rfl |refine aU rfl ?_ |refine Aa ?_ |refine rE (by kernel_rfl) ?_|(refine aC rfl ?_ ?_<;>rintro⟨⟩)|refine aK ?_|refine aE ?_|refine aB ?_|refine aR ⟨_,rfl,?_⟩)
 all_goals (show E.o _=E.o _;first|rfl|(congr;grind))
theorem Tx(a:AX):(DK a).length=a.nx.length:=by simp [DK,Bx]
def MQ:AX:=⟨0,[[]],[true]⟩
theorem bY:AE MQ=true:=by decide
theorem fk{l:List Sys}{a p:AX}{ls:List Int}(h:∀s∈l,AZ s=true)(d:l.length<=3)(ha:AE a=true)(c:AE p=true):((gI l a p ls).N:Int)=Au (l.map (·.st))*a.nx.length*p.nx.length/\1<=(gI l a p ls).N/\(gI l a p ls).N<=1048576:=by
 have b:=IF h d;have m:=BZ ha;have k:=BZ c;have j:(gI l a p ls).N=(Au (l.map (·.st))*a.nx.length*p.nx.length).toNat:=rfl;have i:Au (l.map (·.st))*a.nx.length<=4096*12:=l3 b.2 (by omega) (by omega) (by omega);have g:1*1<=Au (l.map (·.st))*a.nx.length:=l3 b.1 (by omega) (by omega) (by omega);have f:Au (l.map (·.st))*a.nx.length*p.nx.length<=49152*12:=l3 (by omega) (by omega) (by omega) (by omega);have e:1*1<=Au (l.map (·.st))*a.nx.length*p.nx.length:=l3 (by omega) (by omega) (by omega) (by omega);omega
theorem OF{l:List Sys}{a p:AX}(h:∀s∈l,AZ s=true)(d:l.length<=3)(ha:AE a=true)(c:AE p=true){node letter:Int}(m:0<=node)(i:0<=letter)(g:letter < 6):(∀y∈II l a p node letter,0<=y/\y < Au (l.map (·.st))*a.nx.length*p.nx.length)/\((II l a p node letter).length:Int)<=Au (l.map (·.st)):=by
 have r:=QM (Qx h d i g (node / p.nx.length / a.nx.length));have x:=IF h d;have w:=BZ ha;have v:=BZ c;have u:=Td ha c m i g;refine⟨λy j=>?_,by unfold II;simp;omega⟩;obtain⟨o,k,rfl⟩:=d8.1 j;have n:=r.1 o k;have e:∀o:Int,o*a.nx.length*p.nx.length=o*(a.nx.length*p.nx.length):=λo=>m7 _ _ _;rw [e,e];have f:0<=(a.nx.length:Int)*p.nx.length:=l4 (by omega) (by omega);generalize (a.nx.length:Int)*p.nx.length=q at *;have t:0<=o*q:=l4 n.1 f;have b:(o+1)*q<=Au (l.map (·.st))*q:=mj (by omega) f;rw [mP] at b;omega
theorem dZ{l:List Sys}{a p:AX}{x:Int}(h:∀s∈l,AZ s=true)(c:l.length<=3)(ha:AE a=true)(b:AE p=true):HU (gI l a p (Ac x)):=by
 have i:=fk (ls:=Ac x) h c ha b;refine⟨?_,λy e m f z d=>?_,Dq _ _⟩
 ·show 0<=(0:Int)/\(0:Int) < _
  omega
 ·have g:=Ak f
  have j:=(OF h c ha b e.1 g.1 (by omega)).1 z d;omega
theorem NL[Dx TB](l:List Sys)(a p:AX)(h:Bc l=true)(ha:AE a=true)(d:AE p=true) :
 Pure Tryz.prog TB 200 [HP l,.o (.ip (AM a)),Bd p] (Je (Cu (gI l a p (Ac (FV .i64 (BI l) a.al))))):=by
 have c:=h;unfold Bc at c;simp only [d4,decide_eq_true_eq,gc] at c;obtain⟨⟨v,e⟩,b⟩:=c;have m:=fk (ls:=Ac (FV .i64 (BI l) a.al)) b e ha d;have w:=dZ (x:=FV .i64 (BI l) a.al) b e ha d;have i:=IF b e;have y:=BZ ha;have s:=BZ d;have j:Pure Tryz.prog TB 135 [eI .i64 (Au (l.map (·.st))*a.nx.length*p.nx.length),Av [0],Av (Ac (FV .i64 (BI l) a.al)),.o (.fn 260 [.ip [.l (DK a)],.ip [iD p.nx.length],.ip [iD a.nx.length],.ip [.l (DK p)],.ip (Gc l)]),.o (.fn 262 [.ip [.p (AM a)],.ip [iD p.nx.length],.ip [iD a.nx.length],.ip (AM p)])]
  (Je (Cu (gI l a p (Ac (FV .i64 (BI l) a.al))))):=by
  rw [<-m.1];refine Hw w m.2.2 (λx f=>by have:=Ak f;omega) (AN _ 6) (λnode x g f=>?_) (λnode x outs g f t=>?_) (λn g=>?_) rfl (λr=>rfl) (λr=>rfl) (CM _)
  ·have k:=Ak f
   have z:=(OF b e ha d g.1 k.1 (by omega)).2;have F:Au (l.map (·.st))*1<=Au (l.map (·.st))*a.nx.length:=ml (by omega) (by omega);have B:Au (l.map (·.st))*a.nx.length*1<=Au (l.map (·.st))*a.nx.length*p.nx.length:=ml (by omega) (by omega);have A:(((gI l a p (Ac (FV .i64 (BI l) a.al))).succ node x).length:Int)<=Au (l.map (·.st)):=z;omega
  ·have k:=Ak f
   exact SF b e ha d node x g.1 (by omega) k.1 (by omega) outs t
  ·exact Sl ha d n g.1 (by omega)
 have u:0<=Au (l.map (·.st))*a.nx.length/\Au (l.map (·.st))*a.nx.length<=49152:=⟨l4 (by omega) (by omega),by
  have:Au (l.map (·.st))*a.nx.length<=4096*12:=l3 i.2 (by omega) (by omega) (by omega)
  omega⟩
 refine eN Tryz.func200 rfl (by kernel_rfl) rfl ?_;intro Z q;(repeat first|refine aU rfl ?_);(refine Ai rfl ?_;refine Cv (λ_ _=>C4 rfl rfl rfl) rfl ?_);(refine Ai rfl ?_;refine Cv (λ_ _=>C4 rfl rfl rfl) rfl ?_);(repeat first|refine tM rfl ?_ |refine sP rfl (Mz l b e) rfl ?_|refine sP rfl (E4 l) rfl ?_ |refine aU rfl ?_ |refine Aa ?_);(refine aC rfl ?_ ?_<;>rintro⟨⟩);refine aK ?_;refine aS ?_;refine R.Pj [(0,2),(1,2),(2,2),(3,2),(4,2),(5,2),(6,3),(7,3),(8,5),(9,5)] mixed (by kernel_rfl) rfl (by kernel_rfl) ?_;(repeat ((refine R.Ai rfl ?_;first|(refine R.yQ (md:=false) rfl rfl rfl ?_ ?_;exact tI) |refine R.yP rfl rfl rfl rfl ?_ |refine R.yA rfl rfl rfl rfl ?_|refine R.Cv (λ_ _ _=>Bh rfl rfl rfl (Du a ha) rfl) rfl rfl ?_|refine R.Cv (λ_ _ _=>Bh rfl rfl rfl (Du p d) rfl) rfl rfl ?_ )));refine R.Pd ?_;refine aS ?_;refine Aj.freeze [0,1,2] [(4,.o (.ip [.p (AM a)])),(5,.o (.ip (AM p))),(8,.o (.ip (Gc l))),(9,eI .i64 (BI l)),(10,.o (.ip [.l (DK a)])),(11,.o (.ip [.l (DK p)]))] ⟨⟨_,rfl,.AL⟩,⟨_,rfl,.AL⟩,⟨_,rfl,.o (.ptr (by simp) rfl rfl rfl)⟩,⟨_,rfl,.AL⟩,⟨_,rfl,.o (.ptr (by simp) rfl rfl rfl)⟩,⟨_,rfl,.o (.ptr (by simp) rfl rfl rfl)⟩,trivial⟩ ?_;refine R.Pj [(0,2),(1,2),(2,2),(3,2),(4,3),(5,3),(6,5),(7,5)] mixed (by kernel_rfl) rfl (by kernel_rfl) ?_;(repeat ((refine R.Ai rfl ?_;first|(refine R.yQ (md:=false) rfl rfl rfl ?_ ?_;exact tI) |refine R.yP rfl rfl rfl rfl ?_ |refine R.yA rfl rfl rfl rfl ?_ )));refine R.Pd ?_;refine aS ?_;simp only [Tx];refine Aj.freeze [3,4] [(4,.o (.ip [.p (AM a)])),(5,.o (.ip (AM p))),(8,.o (.ip (Gc l))),(9,eI .i64 (BI l)),(10,.o (.ip [.l (DK a)])),(11,.o (.ip [.l (DK p)])),(12,.o (.ip [iD a.nx.length])),(13,.o (.ip [iD p.nx.length]))] ⟨⟨_,rfl,.AL⟩,⟨_,rfl,.AL⟩,⟨_,rfl,.AL⟩,⟨_,rfl,.AL⟩,⟨_,rfl,.AL⟩,⟨_,rfl,.AL⟩,⟨_,rfl,.o (.ptr (by simp) rfl rfl rfl)⟩,⟨_,rfl,.o (.ptr (by simp) rfl rfl rfl)⟩,trivial⟩ ?_;(repeat first|refine tA rfl ?_ |refine aU rfl ?_ |refine Aa ?_);refine rG (HQ []) (by kernel_rfl) ?_;(repeat first|(refine sA rfl ?_ ?_;first|exact tI|omega) |refine sP rfl (WO l b e) rfl ?_|refine sP rfl (Cn _) rfl ?_|refine sP rfl (j) rfl ?_ |refine Aa ?_);refine aR ⟨_,rfl,rfl⟩
theorem MU[Dx TB](l:List Sys)(p:AX)(h:Bc l=true)(e:AE p=true) :
 Pure Tryz.prog TB 200 [HP l,.o (.d (.v (.pointer none))),Bd p] (Je (Cu (gI l MQ p (Ac (FV .i64 (BI l) MQ.al))))):=by
 obtain⟨a,g⟩:∃a,a=MQ:=⟨_,rfl⟩
 have ha:AE a=true:=by rw [g];exact bY
 rw [<-g];have c:=h;unfold Bc at c;simp only [d4,decide_eq_true_eq,gc] at c;obtain⟨⟨z,f⟩,b⟩:=c;have s:=fk (ls:=Ac (FV .i64 (BI l) a.al)) b f ha e;have A:=dZ (x:=FV .i64 (BI l) a.al) b f ha e;have k:=IF b f;have B:=BZ ha;have u:=BZ e;have m:Pure Tryz.prog TB 135 [eI .i64 (Au (l.map (·.st))*a.nx.length*p.nx.length),Av [0],Av (Ac (FV .i64 (BI l) a.al)),.o (.fn 260 [.ip [.l (DK a)],.ip [iD p.nx.length],.ip [iD a.nx.length],.ip [.l (DK p)],.ip (Gc l)]),.o (.fn 262 [.ip [.p (AM a)],.ip [iD p.nx.length],.ip [iD a.nx.length],.ip (AM p)])]
  (Je (Cu (gI l a p (Ac (FV .i64 (BI l) a.al))))):=by
  rw [<-s.1];refine Hw A s.2.2 (λx i=>by have:=Ak i;omega) (AN _ 6) (λnode x j i=>?_) (λnode x outs j i w=>?_) (λn j=>?_) rfl (λr=>rfl) (λr=>rfl) (CM _)
  ·have q:=Ak i
   have F:=(OF b f ha e j.1 q.1 (by omega)).2;have I:Au (l.map (·.st))*1<=Au (l.map (·.st))*a.nx.length:=ml (by omega) (by omega);have H:Au (l.map (·.st))*a.nx.length*1<=Au (l.map (·.st))*a.nx.length*p.nx.length:=ml (by omega) (by omega);have G:(((gI l a p (Ac (FV .i64 (BI l) a.al))).succ node x).length:Int)<=Au (l.map (·.st)):=F;omega
  ·have q:=Ak i
   exact SF b f ha e node x j.1 (by omega) q.1 (by omega) outs w
  ·exact Sl ha e n j.1 (by omega)
 have y:0<=Au (l.map (·.st))*a.nx.length/\Au (l.map (·.st))*a.nx.length<=49152:=⟨l4 (by omega) (by omega),by
  have:Au (l.map (·.st))*a.nx.length<=4096*12:=l3 k.2 (by omega) (by omega) (by omega)
  omega⟩
 refine eN Tryz.func200 rfl (by kernel_rfl) rfl ?_;intro Z t;(repeat first|refine aU rfl ?_);(refine pW rfl ?_ rfl (by rfl);refine CT rfl rfl ?_);(refine Ai rfl ?_;refine Cv (λ_ _=>C4 rfl rfl rfl) rfl ?_);(repeat first|refine tM rfl ?_ |refine sP rfl (Mz l b f) rfl ?_|refine sP rfl (E4 l) rfl ?_ |refine aU rfl ?_ |refine Aa ?_);(refine aC rfl ?_ ?_<;>rintro⟨⟩);(repeat first|refine tA rfl ?_|(refine Ai rfl ?_;refine gA rfl ?_;first| refine gS (λ_ _=>AV rfl rfl (by rfl) (by rfl)) ?_) |refine aU rfl ?_ |refine Aa ?_);refine Aj.freeze [0,1] [(4,.o (.ip [.p (AM a)])),(5,.o (.ip (AM p))),(8,.o (.ip (Gc l))),(9,eI .i64 (BI l))] ⟨⟨_,rfl,.o (.ptr (by simp) rfl rfl (by rw [g];rfl))⟩,⟨_,rfl,.AL⟩,⟨_,rfl,.o (.ptr (by simp) rfl rfl rfl)⟩,⟨_,rfl,.AL⟩,trivial⟩ ?_;refine R.Pj [(0,2),(1,2),(2,2),(3,2),(4,2),(5,2),(6,3),(7,3),(8,5),(9,5)] mixed (by kernel_rfl) rfl (by kernel_rfl) ?_;(repeat ((refine R.Ai rfl ?_;first|(refine R.yQ (md:=false) rfl rfl rfl ?_ ?_;exact tI) |refine R.yP rfl rfl rfl rfl ?_ |refine R.yA rfl rfl rfl rfl ?_|refine R.Cv (λ_ _ _=>Bh rfl rfl rfl (Du a ha) rfl) rfl rfl ?_|refine R.Cv (λ_ _ _=>Bh rfl rfl rfl (Du p e) rfl) rfl rfl ?_ )));refine R.Pd ?_;refine aS ?_;refine Aj.freeze [2,3] [(4,.o (.ip [.p (AM a)])),(5,.o (.ip (AM p))),(8,.o (.ip (Gc l))),(9,eI .i64 (BI l)),(10,.o (.ip [.l (DK a)])),(11,.o (.ip [.l (DK p)]))] ⟨⟨_,rfl,.AL⟩,⟨_,rfl,.AL⟩,⟨_,rfl,.AL⟩,⟨_,rfl,.AL⟩,⟨_,rfl,.o (.ptr (by simp) rfl rfl rfl)⟩,⟨_,rfl,.o (.ptr (by simp) rfl rfl rfl)⟩,trivial⟩ ?_;refine R.Pj [(0,2),(1,2),(2,2),(3,2),(4,3),(5,3),(6,5),(7,5)] mixed (by kernel_rfl) rfl (by kernel_rfl) ?_;(repeat ((refine R.Ai rfl ?_;first|(refine R.yQ (md:=false) rfl rfl rfl ?_ ?_;exact tI) |refine R.yP rfl rfl rfl rfl ?_ |refine R.yA rfl rfl rfl rfl ?_ )));refine R.Pd ?_;refine aS ?_;simp only [Tx];refine Aj.freeze [4,5] [(4,.o (.ip [.p (AM a)])),(5,.o (.ip (AM p))),(8,.o (.ip (Gc l))),(9,eI .i64 (BI l)),(10,.o (.ip [.l (DK a)])),(11,.o (.ip [.l (DK p)])),(12,.o (.ip [iD a.nx.length])),(13,.o (.ip [iD p.nx.length]))] ⟨⟨_,rfl,.AL⟩,⟨_,rfl,.AL⟩,⟨_,rfl,.AL⟩,⟨_,rfl,.AL⟩,⟨_,rfl,.AL⟩,⟨_,rfl,.AL⟩,⟨_,rfl,.o (.ptr (by simp) rfl rfl rfl)⟩,⟨_,rfl,.o (.ptr (by simp) rfl rfl rfl)⟩,trivial⟩ ?_;(repeat first|refine tA rfl ?_ |refine aU rfl ?_ |refine Aa ?_);refine rG (HQ []) (by kernel_rfl) ?_;(repeat first|(refine sA rfl ?_ ?_;first|exact tI|omega) |refine sP rfl (WO l b f) rfl ?_|refine sP rfl (Cn _) rfl ?_|refine sP rfl (m) rfl ?_ |refine Aa ?_);refine aR ⟨_,rfl,rfl⟩
end Go.Am
namespace Go.Am
open Go
theorem GA{g g':Gr}(d:HU g)(c:g.ls=g'.ls)(e:∀x:Int,0<=x/\x < g.N->∀l∈g.ls,g.succ x l=g'.succ x l):∀ {w:List Int} {a x:Int},over g w->(0<=a/\a < g.N)->(reach g w a x↔reach g' w a x)
 | [],a,x,_,_=>Iff.rfl
 | l :: w,a,x,f,ha=>by
  have j:=f l (by simp);simp only [reach,<-e a ha l j];constructor
  ·rintro⟨y,b,h⟩
   exact⟨y,b,(GA d c e (λm i=>f m (by simp [i])) (d.inn a ha l j y b)).1 h⟩
  ·rintro⟨y,b,h⟩
   exact⟨y,b,(GA d c e (λm i=>f m (by simp [i])) (d.inn a ha l j y b)).2 h⟩
theorem Ch.congr{g g':Gr}(c:HU g)(d:g.ls=g'.ls)(q:g.s0=g'.s0)(m:∀x:Int,0<=x/\x < g.N->∀l∈g.ls,g.succ x l=g'.succ x l)(i:∀x:Int,0<=x/\x < g.N->g.goal x=g'.goal x){r:Option (List Int)}(h:Ch g r):Ch g' r:=by
 have b:∀w,over g' w↔over g w:=λw=>by unfold over;rw [d]
 have k:∀w,over g w->(PB g' w↔PB g w):=λw j=>by
  unfold PB;rw [<-q];constructor
  ·rintro⟨x,a,e⟩
   have a:=(GA c d m j c.s0).2 a;exact⟨x,a,by rw [i x (Dt c j c.s0 a)];exact e⟩
  ·rintro⟨x,a,e⟩
   exact⟨x,(GA c d m j c.s0).1 a,by rw [<-i x (Dt c j c.s0 a)];exact e⟩
 cases r with
 | none=>exact λu f a=>h u ((b u).1 f) ((k u ((b u).1 f)).1 a)
 | some w=>
  obtain⟨n,p,o⟩:=h;exact⟨(b w).2 n,(k w n).2 p,λu f a=>o u ((b u).1 f) ((k u ((b u).1 f)).1 a)⟩
theorem ZD{zs ws:List Int}{cs ds:List (List Int)}(h:EW zs cs):DN (zs++ws) (cs++ds)=(DN zs cs).flatMap λo=>(DN ws ds).map λr=>o*Au ws+r:=by
 induction h with
 | nil=>simp [DN]
 | @cons z c zs cs _ _ _ a=>
  simp only [mD,DN,a];rw [List.flatMap_assoc];congr 1;funext q;rw [List.map_flatMap,List.flatMap_map];congr 1;funext o;rw [mr];congr 1;funext r;simp only [d6,LP];rw [mP,m7];omega
theorem Tm(l:List Sys)(aus:List AX)(st:List Int)(ls kd gl:Int):Ag ⟨l,aus,st,ls,kd,gl⟩=l.map (·.st)++aus.map (λa=>(a.nx.length:Int)):=rfl
theorem Hz{l:List Sys}{aus:List AX}{st:List Int}{ls kd gl:Int}(b:Dm ⟨l,aus,st,ls,kd,gl⟩){node letter:Int}(f:0<=letter)(d:letter < 6) :
 Eo ⟨l,aus,st,ls,kd,gl⟩ (Ag ⟨l,aus,st,ls,kd,gl⟩) (Bq (Ag ⟨l,aus,st,ls,kd,gl⟩) node) letter =
  (DN (l.map (·.st)) (VI l (node / Au (aus.map λa=>(a.nx.length:Int))) letter)).flatMap λo=>(DN (aus.map λa=>(a.nx.length:Int)) (aus.zipWith (λa q=>[Cg a q.toNat letter]) (Bq (aus.map λa=>(a.nx.length:Int)) node))).map λr=>o*Au (aus.map λa=>(a.nx.length:Int))+r:=by
 have h:∀w∈aus.map (λa=>(a.nx.length:Int)),0 < w:=λw g=>by
  obtain⟨a,ha,rfl⟩:=d8.1 g;have:=Ay (b.au a ha);omega
 unfold Eo;rw [PI (Hs b (Ki b node) f d),Tm,NH _ _ _ h];have c:=Qx b.ps b.np f d (node / Au (aus.map λa=>(a.nx.length:Int)))
 have e:Jx ⟨l,aus,st,ls,kd,gl⟩ (Bq (l.map (·.st)) (node / Au (aus.map λa=>(a.nx.length:Int)))++Bq (aus.map λa=>(a.nx.length:Int)) node) letter=VI l (node / Au (aus.map λa=>(a.nx.length:Int))) letter++aus.zipWith (λa q=>[Cg a q.toNat letter]) (Bq (aus.map λa=>(a.nx.length:Int)) node):=by
  unfold Jx VI
  have i:(Bq (l.map (·.st)) (node / Au (aus.map λa=>(a.nx.length:Int)))).length=l.length:=by rw [Kh];simp
  simp only;rw [List.drop_append_of_le_length (by omega),mH (by omega),nj];congr 1;rw [Fv,List.take_append_of_le_length (by omega),lm (by omega)]
 rw [e,ZD c]
theorem IP:∀(zs:List Int) (k:Nat),Dj zs (List.replicate k 0) 0=0
 | [],k=>by simp [Dj]
 | z::zs,0=>by simp [Dj]
 | z::zs,k+1=>by
  rw [nZ];simp only [Dj,o3,px];exact IP zs k
theorem Sn{a:Int}(ha:Bm a=true):FV .i64 0 a=a/\FV .i64 a 0=a:=by
 unfold Bm at ha;simp only [decide_eq_true_eq] at ha;have d:=Nh (a:=0) (b:=a.toNat) (by omega) (by omega);have c:=Nh (a:=a.toNat) (b:=0) (by omega) (by omega)
 have e:((a.toNat:Nat):Int)=a:=by omega
 rw [e] at d c;have f:(((0:Nat)):Int)=0:=rfl;rw [f] at d c;rw [Nat.zero_or] at d;rw [Nat.or_zero] at c;exact⟨by rw [d.1];exact e,by rw [c.1];exact e⟩
theorem UE{l:List Sys}(h:Bc l=true):Bm (BI l)=true:=by
 unfold BI;rw [if_pos h];unfold Bc at h;rw [d4] at h;exact MD h.2 rfl
theorem ZS{s:Sys}{a p:AX}(h:Df s a p=true):Cu (gI [s] a p (Ac (FV .i64 (BI [s]) a.al)))=Cu (DJ (DO s a p)):=by
 obtain⟨j,hk,d⟩:=QS h;have c:=h;unfold Df at c;simp only [d4] at c;obtain⟨⟨i,ha⟩,n⟩:=c;have q:=BZ ha;have m:=BZ n
 have b:BI [s]=s.al:=by
  have:Bc [s]=true:=by simp [Bc,i]
  unfold BI;rw [if_pos this];exact(Sn (AQ i).1).1
 refine Nx (Ch.congr (Lx j d) ?_ ?_ (λx k l f=>?_) (λx k=>?_) (CM _))
 ·show Ac (FV .i64 s.al a.al)=Ac (FV .i64 (BI [s]) a.al)
  rw [b]
 ·exact IP (Ag (DO s a p)) 3
 ·have f:=Ak (show l∈AG (FV .i64 s.al a.al) 6 from f)
  show Eo (DO s a p) (Ag (DO s a p)) (Bq (Ag (DO s a p)) x) l=II [s] a p x l
  have e:=Hz (l:=[s]) (aus:=[a,p]) (st:=[0,0,0]) (ls:=FV .i64 s.al a.al) (kd:=2) (gl:=0) j (node:=x) f.1 (by omega);refine Eq.trans e ?_;unfold II Fc;simp only [mt,nP,Au,o9,Bq,oz,oR,DN,nr,pz,l8,Int.ediv_one,px]
  have g:x / p.nx.length / a.nx.length=x / (a.nx.length*p.nx.length):=by rw [nB (by omega),nQ]
  rw [g,List.map_eq_flatMap];congr 1;funext o;rw [m7]
 ·show Cm (DO s a p) (Bq (Ag (DO s a p)) x) (Ez (DO s a p) x.toNat)=Mq a p x
  unfold Cm Ws Mq;simp [DO,Ag,Bq,Au,List.getD]
theorem ZR{l:List Sys}{p:AX}(h:(Bc l && AE p)=true):Cu (gI l MQ p (Ac (FV .i64 (BI l) MQ.al)))=Cu (DJ (CO l p)):=by
 obtain⟨g,hk,c⟩:=QR h;rw [d4] at h;obtain⟨s,r⟩:=h;have n:=BZ r;refine Nx (Ch.congr (Lx g c) ?_ ?_ (λx j m d=>?_) (λx j=>?_) (CM _))
 ·show Ac (BI l)=Ac (FV .i64 (BI l) 0)
  rw [(Sn (UE s)).2]
 ·exact IP (Ag (CO l p)) (l.length+1)
 ·have d:=Ak (show m∈AG (BI l) 6 from d)
  show Eo (CO l p) (Ag (CO l p)) (Bq (Ag (CO l p)) x) m=II l MQ p x m
  have e:=Hz (l:=l) (aus:=[p]) (st:=List.replicate (l.length+1) 0) (ls:=BI l) (kd:=3) (gl:=0) g (node:=x) d.1 (by omega);refine Eq.trans e ?_
  have f:∀q:Nat,Cg MQ q m=q:=λq=>by
   have:AR 0 m.toNat=false:=by
    have v:m=0\/m=1\/m=2\/m=3\/m=4\/m=5:=by omega
    rcases v with rfl|rfl|rfl|rfl|rfl|rfl<;>decide
   unfold Cg;rw [if_neg]
   show ¬AR 0 m.toNat=true
   rw [this];simp
  have b:((MQ.nx.length:Nat):Int)=1:=rfl;unfold II Fc;rw [f,b];simp only [mt,nP,Au,o9,Bq,oz,oR,DN,nr,pz,l8,Int.ediv_one,px,Int.emod_one];generalize DN (l.map (·.st)) (VI l (x / p.nx.length) m)=LL;rw [List.map_eq_flatMap];congr 1;funext o;simp
 ·show Cm (CO l p) (Bq (Ag (CO l p)) x) (Ez (CO l p) x.toNat)=Mq MQ p x
  have b:((MQ.nx.length:Nat):Int)=1:=rfl;have u:=NH (l.map (·.st)) [(p.nx.length:Int)] x (by intro w k;simp at k;omega);have i:Ag (CO l p)=l.map (·.st)++[(p.nx.length:Int)]:=rfl
  have a:(Bq (l.map (·.st)) (x / Au [(p.nx.length:Int)])).length=l.length:=by rw [Kh];simp
  rw [i,u];generalize Bq (l.map (·.st)) (x / Au [(p.nx.length:Int)])=dd at a
  have t:(dd++Bq [(p.nx.length:Int)] x).getD (l.length+0) 0=x % p.nx.length:=by
   rw [List.getD,nO,em (by omega),a];simp [Bq,Au]
  unfold Cm Ws Mq;rw [b];have A:(CO l p).kd=3:=rfl;have z:(CO l p).ps=l:=rfl;have y:(CO l p).au=[p]:=rfl;rw [A,z,y,t];simp [MQ,List.getD]
end Go.Am
namespace Go.Am
open Go Go.Proofs
set_option maxHeartbeats 1000000
set_option maxRecDepth 4000
attribute [local irreducible] AW BQ Lex A9 Aj Spec
variable {TB:Bp}
theorem EC[Dx TB](l:List Sys)(p:AX):Pure Tryz.prog TB 125 [HP l,Bd p] (Je (CW l p)):=by
 by_cases c:(Bc l && AE p)=true
 ·have b:CW l p=Cu (DJ (CO l p)):=by unfold CW;rw [if_pos c]
  rw [b,<-ZR c];rw [d4] at c;have e:=MU (TB:=TB) l p c.1 c.2;refine eN Tryz.func125 rfl (by kernel_rfl) rfl ?_;intro Z d;(repeat' first |refine sN rfl ?_ |((first|refine sA rfl ?_ ?_|refine s4 rfl ‹_› rfl ?_ ?_);first|exact tI|omega|simp only[oZ] at *;omega) |refine s2 rfl λ_ a=>?_ |(refine sC rfl (Im l) ?_;intro _ a)|(refine sC rfl (AY p) ?_;intro _ a)|refine sP rfl (e) rfl ?_ |refine s3 rfl ?_ ?_<;>rintro rfl |refine aU rfl ?_ |refine Aa ?_ |refine rE (by kernel_rfl) ?_|(refine aC rfl ?_ ?_<;>rintro⟨⟩)|refine aK ?_|refine aE ?_|refine aB ?_|refine aR ⟨_,rfl,?_⟩)
  all_goals first
   | rfl
   | (exfalso;grind;done)
 ·have b:CW l p=none:=by unfold CW;rw [if_neg c]
  rw [b];refine eN Tryz.func125 rfl (by kernel_rfl) rfl ?_;intro Z d;(repeat' first |refine sN rfl ?_ |((first|refine sA rfl ?_ ?_|refine s4 rfl ‹_› rfl ?_ ?_);first|exact tI|omega|simp only[oZ] at *;omega) |refine s2 rfl λ_ a=>?_ |(refine sC rfl (Im l) ?_;intro _ a)|(refine sC rfl (AY p) ?_;intro _ a) |refine s3 rfl ?_ ?_<;>rintro rfl |refine aU rfl ?_ |refine Aa ?_ |refine rE (by kernel_rfl) ?_|(refine aC rfl ?_ ?_<;>rintro⟨⟩)|refine aK ?_|refine aE ?_|refine aB ?_|refine aR ⟨_,rfl,?_⟩)
  all_goals first
   | rfl
   | (exfalso;grind;done)
theorem H0[Dx TB](s:Sys)(a p:AX):Pure Tryz.prog TB 122 [BN s,Bd a,Bd p] (Je (EE s a p)):=by
 by_cases c:Df s a p=true
 ·have d:EE s a p=Cu (DJ (DO s a p)):=by unfold EE;rw [if_pos c]
  rw [d,<-ZS c];unfold Df at c;simp only [d4] at c;have f:=NL (TB:=TB) [s] a p (by simp [Bc,c.1.1]) c.1.2 c.2;refine eN Tryz.func122 rfl (by kernel_rfl) rfl ?_;intro Z e;(repeat' first |refine sN rfl ?_ |((first|refine sA rfl ?_ ?_|refine s4 rfl ‹_› rfl ?_ ?_);first|exact tI|omega|simp only[oZ] at *;omega) |refine s2 rfl λ_ b=>?_ |(refine sC rfl (BS s) ?_;intro _ b)|(refine sC rfl (AY a) ?_;intro _ b)|(refine sC rfl (AY p) ?_;intro _ b)|refine sP rfl (f) rfl ?_ |refine s3 rfl ?_ ?_<;>rintro rfl |refine aU rfl ?_ |refine Aa ?_ |refine rE (by kernel_rfl) ?_|(refine aC rfl ?_ ?_<;>rintro⟨⟩)|refine aK ?_|refine aE ?_|refine aB ?_|refine aR ⟨_,rfl,?_⟩)
  all_goals first
   | rfl
   | (exfalso;grind;done)
 ·have d:EE s a p=none:=by unfold EE;rw [if_neg c]
  rw [d];refine eN Tryz.func122 rfl (by kernel_rfl) rfl ?_;intro Z e;(repeat' first |refine sN rfl ?_ |((first|refine sA rfl ?_ ?_|refine s4 rfl ‹_› rfl ?_ ?_);first|exact tI|omega|simp only[oZ] at *;omega) |refine s2 rfl λ_ b=>?_ |(refine sC rfl (BS s) ?_;intro _ b)|(refine sC rfl (AY a) ?_;intro _ b)|(refine sC rfl (AY p) ?_;intro _ b) |refine s3 rfl ?_ ?_<;>rintro rfl |refine aU rfl ?_ |refine Aa ?_ |refine rE (by kernel_rfl) ?_|(refine aC rfl ?_ ?_<;>rintro⟨⟩)|refine aK ?_|refine aE ?_|refine aB ?_|refine aR ⟨_,rfl,?_⟩)
  all_goals first
   | rfl
   | (exfalso;unfold Df at c;grind;done)
theorem JC(s:Sys)(p:AX)(t:Sys):Pure Tryz.prog TB 17 [BN s,Bd p,BN t] (eI .i64 (BL s p t)):=by
 refine eN Tryz.func17 rfl (by kernel_rfl) rfl ?_;intro Z b;(repeat' first |refine sN rfl ?_ |((first|refine sA rfl ?_ ?_|refine s4 rfl ‹_› rfl ?_ ?_);first|exact tI|omega|simp only[oZ] at *;omega) |refine s2 rfl λ_ a=>?_ |(refine sC rfl (BS s) ?_;intro _ a)|(refine sC rfl (AY p) ?_;intro _ a)|(refine sC rfl (BS t) ?_;intro _ a) |refine s3 rfl ?_ ?_<;>rintro rfl |refine aU rfl ?_ |refine Aa ?_ |refine rE (by kernel_rfl) ?_|(refine aC rfl ?_ ?_<;>rintro⟨⟩)|refine aK ?_|refine aE ?_|refine aB ?_|refine aR ⟨_,rfl,?_⟩)
 all_goals (show E.o _=E.o _;congr;unfold BL;grind)
end Go.Am
namespace Go.Am
open Go
set_option linter.unusedVariables false
theorem NP{a b:Nat}(ha:a < 2 ^ 62)(hb:b < 2 ^ 62):Jg .i64 a b=((a &&& b:Nat):Int):=by
 have d:a &&& b<=a:=oY;unfold Jg
 have c:(BitVec.ofInt IntKind.i64.bits (a:Int) &&& BitVec.ofInt IntKind.i64.bits (b:Int)).toNat=a &&& b:=by
  have e:IntKind.i64.bits=64:=rfl;rw [e];simp only [BitVec.toNat_and,BitVec.ofInt_natCast,BitVec.toNat_ofNat];rw [lW (by omega),lW (by omega)]
 rw [c];exact IntWalk.i64_in _ (by omega)
theorem Zo(s n:Nat):((s:Nat):Int).fdiv (2 ^ n)=((s / 2 ^ n:Nat):Int):=by
 have h:(0:Int)<=2 ^ n:=Int.le_of_lt (Int.pow_pos (by omega));rw [Int.fdiv_eq_ediv_of_nonneg _ h]
 push_cast
 rfl
theorem FO{s n:Nat}(d:s < 2 ^ 62)(f:n < 64):AR (s:Nat) n=s.testBit n:=by
 unfold AR
 have e:min n 64=n:=by omega
 rw [e,Zo];have g:s / 2 ^ n<=s:=Nat.div_le_self _ _;have c:=NP (a:=s / 2 ^ n) (b:=1) (by omega) (by omega);rw [show ((1:Nat):Int)=1 from rfl] at c;rw [c,oP,Nat.and_one_is_mod];congr 1;rw [eq_iff_iff];omega
abbrev Wd:=List UInt8
def MR(c:UInt8):Bool:=decide (97<=c.toNat/\c.toNat < 103)
def O7(al:Int)(c:UInt8):Bool:=MR c && AR al (c.toNat - 97)
def within(w:Wd)(al:Int):Bool:=decide (w.length<=50000) && (Bm al && w.all (O7 al))
end Go.Am
namespace Go.Proofs.YtgpbfllcjdfelaaGreatDoor
open Go Go.Am Go.ChangeShapes Go.WideShapes Go.ChangeAt Go.RowKit
def YH(l:List Value):List Int:=l.map λv=>match v with|.int _ n=>n|_=>0
theorem WU{P:Program}{W:World}{name:String}{g:Nat}{t e:TypeId}{n:Nat}{zs:List Int}{fuel:Nat}{cs:Array Value}{p:List MemPlace}(i:P.globalNamed name=some g)(ht:P.underlying t=some (.array n e))(j:P.underlying e=some (.int .u8))(d:P.cellsOf e=1)(b:P.cellsOf t=n)
 (a:W.var? P name=some cs) (k:DataW.trod (λ_=>()) P W 0 (λ_=>true) false fuel t cs.toList=some (Lib.tabData .u8 zs,p)):∃T fr,W.heap[g]? = some (.cells (zs.map λz=>Value.int .u8 z).toArray T fr):=by
 have h:=Lib.cells_of_tab ht j d b k;unfold World.var? at a;rw [i] at a;simp only [nv] at a;split at a
 ·rename_i c T fr f
  injection a with a
  subst a;refine⟨T,fr,?_⟩;rw [f,<-h]
 ·cases a
theorem tables {W:World} {rest:List (String×DataW Unit)} (h:laidMet Tryz.prog (("math/bits.deBruijn32tab",Rows.laid_math_bits_deBruijn32tab)::("math/bits.deBruijn64tab",Rows.laid_math_bits_deBruijn64tab)::rest) W):∃tabs:List (Nat×Obj),Dx ⟨tabs,none⟩/\∀x∈(⟨tabs,none⟩:Bp),below W x.1/\W.heap[x.1]? = some x.2:=by
 obtain⟨ps,⟨I,y,u,K,G,B,j,f,c,l,⟨H,w,t,J,F,A,g,e,b,k,_,_⟩,_⟩,_,_⟩:=h
 have p:Tryz.prog.globalNamed "math/bits.deBruijn32tab" = some 1:=by kernel_rfl
 have o:Tryz.prog.globalNamed "math/bits.deBruijn64tab" = some 2:=by kernel_rfl
 obtain rfl:=Option.some.inj (p.symm.trans j);obtain rfl:=Option.some.inj (o.symm.trans g)
 have s:(Tryz.prog.globals[1]?).map (·.type)=some 283:=by kernel_rfl
 have l1:(Tryz.prog.globals[2]?).map (·.type)=some 284:=by kernel_rfl
 obtain rfl:=Option.some.inj (s.symm.trans f);obtain rfl:=Option.some.inj (l1.symm.trans e);obtain⟨T0,n,r⟩:=WU (zs:=YH Cr) p Tryz.underlying283 Tryz.underlying5 (by kernel_rfl) (by kernel_rfl) c l;obtain⟨T1,m,q⟩:=WU (zs:=YH Bt) o Tryz.underlying284 Tryz.underlying5 (by kernel_rfl) (by kernel_rfl) b k;refine⟨[(1,.cells ((YH Cr).map λz=>Value.int .u8 z).toArray T0 n),(2,.cells ((YH Bt).map λz=>Value.int .u8 z).toArray T1 m)],⟨⟨⟨_,_,_,nH,λi v d=>?_⟩,by decide⟩,⟨⟨_,_,_,lP _ nH,λi v d=>?_⟩,by decide⟩⟩,?_⟩
 ·have:Cr=(YH Cr).map λz=>Value.int .u8 z:=rfl
  rw [mu,<-this];exact d
 ·have:Bt=(YH Bt).map λz=>Value.int .u8 z:=rfl
  rw [mu,<-this];exact d
 ·intro x a
  have a:x∈[_,_]:=a;simp only [lF,oN,or_false] at a
  rcases a with rfl|rfl
  ·exact⟨(lL.1 r).1,r⟩
  ·exact⟨(lL.1 q).1,q⟩
end Go.Proofs.YtgpbfllcjdfelaaGreatDoor
