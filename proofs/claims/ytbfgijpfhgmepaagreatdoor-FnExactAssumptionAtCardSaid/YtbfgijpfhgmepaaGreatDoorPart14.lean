/-
  The program's search, the walk.
-/
import Derived.Test.YtbfgijpfhgmepaaGreatDoorPart13
import Derived.Test.YtbfgijpfhgmepaaGreatDoorPart9
set_option linter.constructorNameAsVariable false
set_option linter.unusedSectionVars false
set_option linter.unusedSimpArgs false
set_option linter.unusedVariables false
namespace Go.Am
open Go Go.Proofs
set_option maxHeartbeats 1000000
attribute [local irreducible] AS BT Lex Bc Au Spec
variable {TB:Bt}
theorem cK{P:Program}{Γ:Ctx}{d:Option Tmp}{ty:TypeId}{pos:String}{af:Array Edge}{g:Option (Nat×Bool)}{f:Env}{σ:Ab}{nx:Nat}{K:E→Ab→Nat→Prop}{T:TypeId}(k e:Nat)[hz:BM P T [.slice none 0 0]]
 (hK:K (.o (.ptr (nx+1) 1 0 0)) ((nx+1,.cells T 1 [[.arr nx k 0 0]])::(nx,.cells e k [])::σ) (nx+2)):BT P TB Γ ⟨d,.alloc T,ty,pos,af,g⟩ f σ nx K:=
 Dx fun V ρ h1 h2 h3=>by
  subst h3
  obtain⟨i,zv,hi,hzv,hzz⟩:=Hw hz.out
  have hzc:zv.cells = #[.slice none 0 0]:=by have:=congrArg List.toArray hzz;simpa using this
  obtain⟨hi2,he2⟩:=h2.alloc (c:=0) (nl:=True) (w:=V.w) (ob:=.cells e k []) rfl rfl rfl rfl (Nat.le_refl _) (fun _ _=>rfl) (.inl ⟨by simp [Aw],rfl⟩)
  have hc:C7 (Aw V V.w.heap.size 0 True V.w) [.arr V.nx k 0 0] zv.cells:=by
   rw [hzc]
   refine⟨rfl,fun j c v hj hv=>?_⟩
   match j with
   | 0=>simp at hj hv;subst hj hv;exact AB.nil (by simp [Aw]) (by simp [Aw])
   | j+1=>simp at hj
  obtain⟨hi',he⟩:=Sh hi2 (T:=T) hc
  refine⟨.pointer (some ⟨V.w.heap.size,0,none⟩),_,_,_,?_,he2.trans he,hi',?_,hK⟩
  ·simp [execOp,Instr.alloc,zeroValue,typeInfo,hi,hzv,newVar,newRow,Aw,go_sem]
  ·exact Oh
theorem RC(r:Nat→Nat):∀(l m:List E),EM r (l++m)=EM r l++EM r m
 | [],m=>rfl
 | e::l,m=>by simp [EM,RC r l m]
theorem Pr(r:Nat→Nat):∀(l:List C),EM r (l.map .o)=(C.BB r l).map .o
 | []=>rfl
 | c::l=>by simp [EM,C.BB,E.A3,Pr r l]
def gZ(P:Program)(TB:Bt)(T:TypeId)(g:Gr)(gN:FuncId)(capsN:List C):Prop:=
 ∀(node l:Int) (outs:List Int),0≤node∧node < g.N→l∈g.ls→outs.length≤1099511627776→
  Spec P TB gN [(0,.cells T 1 (outs.map Al))] 1 ([eI .i64 node,eI .i64 l,.o (.arr 0 1 0 outs.length)]++capsN.map .o) (fun x σ nx=>x=.o (.arr 1 1 0 (outs++g.succ node l).length)∧nx=2∧σ=[(1,.cells T 1 ((outs++g.succ node l).map Al))])
theorem KQ{g:Gr}(hg:IQ g)(hN:g.N≤1048576)(hls:∀l∈g.ls,0≤l∧l < 6)(hll:g.ls.length≤6)(hsl:∀(node l:Int),0≤node∧node < g.N→l∈g.ls→(g.succ node l).length≤g.N)
 {gN gG:FuncId} {capsN capsG:List C} (hNx:gZ Tryz.prog TB 3 g gN capsN) (hG:∀n:Int,0≤n∧n < g.N→Pure Tryz.prog TB gG ([eI .i64 n]++capsG.map .o) (eB (g.goal n)))
 (hcG:C.Dr capsG=true) (hrG:∀r,C.BB r capsG=capsG) (hrN:∀r,C.BB r capsN=capsN) {r:Option (List Int)} (hr:Cs g r) :
 Pure Tryz.prog TB 79 [eI .i64 g.N,Ag [g.s0],Ag g.ls,.o (.fn gN capsN),.o (.fn gG capsG)] (KO r):=by
 refine eN Tryz.func79 rfl (by kernel_rfl) rfl ?_;intro Γ hΓ
 (repeat first|refine aU rfl ?_)
 (refine pW rfl ?_ rfl (by rfl);refine Da rfl rfl ?_)
 (repeat first|refine tM rfl ?_ |refine aU rfl ?_ |refine Aa ?_)
 (refine pW rfl ?_ rfl (by rfl);refine Eo rfl rfl (by rfl) (by rfl) (Nat.le_of_ble_eq_true rfl) (by omega) (by omega) (by omega) ?_)
 iterate 4 (first|refine tM rfl ?_ |refine aU rfl ?_ |refine Aa ?_)
 (refine pW rfl ?_ rfl (by rfl);refine cK 3 175 ?_)
 (repeat first|refine tM rfl ?_ |refine aU rfl ?_ |refine Aa ?_)
 have hv0:=XA (goal:=g.goal) (N:=g.N) (seen:=List.replicate g.N false) (nodes:=[g.s0]) (by simp) (by intro n hn;simp at hn;subst hn;exact hg.s0)
 have hvis:=VK (TB:=TB) hG hcG hrG (List.replicate g.N false) [] (-1) 0 [g.s0] (by simp) hN (by simp) (by intro n hn;simp at hn;subst hn;exact hg.s0)
 (refine pW rfl ?_ rfl (by rfl);refine Bx [2,1,0,4,3] rfl rfl hvis ⟨rfl,by decide,by decide⟩ rfl (by simp[cX,zC,hΓ,FN,hrG,Af,eC]) ?_;rintro x0 σ1 nx1 ⟨rfl,q,hq,rfl⟩ _)
 generalize hV:Tx g.goal (List.replicate g.N false) [g.s0]=v at *
 obtain⟨vse,vfr,vfd⟩:=v
 simp only
 refine Aa ?_
 refine Au.names [2,1,0,4,if q=4 then 3 else 5] [(2,Ag g.ls),(3,.o (.fn gN capsN)),(12,.o (.ptr 0 1 0 0)),(13,.o (.ptr 3 1 0 0)),(14,.o (.fn 135 [.ptr 0 1 0 0,.ptr 2 1 0 0,.ptr 3 1 0 0])),(26,eB vfd)] (FN g.N gG capsG vse 4 (ER [] (-1) 0 vfr)) (by simp [hΓ]) (by rcases hq with ⟨rfl,rfl⟩|⟨rfl,rfl⟩<;>decide)
  (by rcases hq with ⟨rfl,rfl⟩|⟨rfl,rfl⟩<;>simp[cX,zC,hΓ,hrN,eC]) (by rcases hq with ⟨rfl,rfl⟩|⟨rfl,rfl⟩<;>simp[cX,zC,hΓ,FN,hrG,Ab.A3,BN,IC,eC]) ?_
 (refine aC rfl ?_ ?_<;>rintro⟨⟩)
 ·-- the start is a goal
  have hgs:g.goal g.s0=true:=by
   have h1:vfr.any g.goal=true:=hv0.fd.symm
   obtain⟨x,hx,hgx⟩:=List.any_eq_true.1 h1
   have h2:=((hv0.fr x).1 hx).1
   simp at h2;subst h2;exact hgx
  have hrr:=Cs.unique hr (Cs.start hgs)
  subst hrr
  (repeat first|refine tM rfl ?_ |refine aU rfl ?_ |refine Aa ?_)
  refine aR ⟨_,rfl,rfl⟩
 refine aK ?_
 obtain⟨hfr,hF0⟩:=FI.init hg hv0 rfl
 simp only at hfr hF0
 rw [hfr]
 (repeat first|refine tM rfl ?_ |refine aU rfl ?_ |refine Aa ?_)
 refine aB ?_
 refine Au.AP (α:={x:Nat×List Bool×List NX×List (List Int) // FI g x.2.1 x.2.2.1 x.2.2.2 x.1 0}) (fun ⟨⟨i,seen,steps,ws⟩,hF⟩=>[(2,Ag g.ls),(3,.o (.fn gN capsN)),(12,.o (.ptr 0 1 0 0)),(13,.o (.ptr 3 1 0 0)),(14,.o (.fn 135 [.ptr 0 1 0 0,.ptr 2 1 0 0,.ptr 3 1 0 0])),(15,eI .i64 i)]) (fun ⟨⟨i,seen,steps,ws⟩,hF⟩=>FN g.N gG capsG seen 4 steps) 5 (fun ⟨⟨i,seen,steps,ws⟩,hF⟩=>g.N - i) (⟨(0,vse,[⟨-1,0,[g.s0]⟩],[[]]),hF0⟩) [0,1,2,3,4] (Di hΓ rfl rfl) (by (simp[cX,zC,hΓ,FN,hrG,hrN,ER])) ?_;rintro⟨⟨i,seen,steps,ws⟩,hF⟩;(try dsimp only)
 simp only at hF
 have hlN:=hF.kq
 (repeat first|refine tM rfl ?_ |refine s2 rfl fun _ _hb=>?_ |refine aU rfl ?_ |refine Aa ?_)
 (refine aC rfl ?_ ?_<;>rintro⟨⟩)
 ·have hi : i < steps.length:=by (simp only[oZ] at *;omega)
  obtain⟨s,hs⟩:=get_some hi
  have hs':(steps.map PE)[0+((i:Nat):Int).toNat]? = some (PE s):=HG hs
  obtain⟨wi,hwi⟩:∃wi,ws[i]? = some wi:=get_some (by rw [hF.wlen];exact hi)
  refine aK ?_
  refine aS (aB ?_)
  (repeat first|refine sN rfl ?_ |refine tM rfl ?_ |refine aU rfl ?_ |refine Aa ?_)
  refine aB ?_
  refine Au.AP (α:={x:Nat×List Bool×List NX×List (List Int) // x.1≤g.ls.length∧FI g x.2.1 x.2.2.1 x.2.2.2 i x.1∧i < x.2.2.1.length}) (fun ⟨⟨j,sen2,st2,ws2⟩,hP⟩=>[(2,Ag g.ls),(3,.o (.fn gN capsN)),(12,.o (.ptr 0 1 0 0)),(13,.o (.ptr 3 1 0 0)),(14,.o (.fn 135 [.ptr 0 1 0 0,.ptr 2 1 0 0,.ptr 3 1 0 0])),(15,eI .i64 i),(33,Ag g.ls),(34,eI .i64 g.ls.length),(35,eI .i64 j)]) (fun ⟨⟨j,sen2,st2,ws2⟩,hP⟩=>FN g.N gG capsG sen2 4 st2) 5 (fun ⟨⟨j,sen2,st2,ws2⟩,hP⟩=>g.ls.length - j) (⟨(0,seen,steps,ws),by simp,hF,hi⟩) [0,1,2,3,4] (Di hΓ rfl rfl) (by (simp[cX,zC,hΓ,FN,hrG,hrN])) ?_;rintro⟨⟨j,sen2,st2,ws2⟩,hP⟩;(try dsimp only)
  clear hs hs' hwi hF hlN hi
  obtain⟨hj,hF,hi⟩:=hP
  simp only at hj hF hi
  have hlN:=hF.kq
  (repeat first|refine s2 rfl fun _ _hb=>?_ |refine aU rfl ?_ |refine Aa ?_)
  (refine aC rfl ?_ ?_<;>rintro⟨⟩)
  ·have hjl:j < g.ls.length:=by (simp only[oZ] at *;omega)
   obtain⟨l,hl⟩:=get_some (l:=g.ls) (k:=j) hjl
   have hl':=get_map (g:=Bm) hl
   have hlm:=List.mem_of_getElem? hl
   have hlb:=hls l hlm
   obtain⟨s,hs⟩:=get_some hi
   have hs':(st2.map PE)[0+((i:Nat):Int).toNat]? = some (PE s):=HG hs
   obtain⟨wi,hwi⟩:∃wi,ws2[i]? = some wi:=get_some (by rw [hF.wlen];exact hi)
   have hsin:=hF.inn s (List.mem_of_getElem? hs)
   have hsnd:=Gi _ _ (hF.nd s (List.mem_of_getElem? hs)) hsin
   refine aK ?_
   refine aS (aB ?_)
   (repeat first|refine tM rfl ?_ |(refine s4 rfl ‹_› rfl ?_ ?_;omega) |refine aU rfl ?_ |refine Aa ?_)
   (refine pW rfl ?_ rfl (by rfl);refine Hk 1 3 ?_)
   (repeat first|refine sN rfl ?_ |(refine sM rfl ?_ ?_;first|exact tI|omega) |refine t4 rfl ‹_› rfl ?_ |refine aU rfl ?_ |refine Aa ?_)
   refine aB ?_
   refine Au.AP (α:={m:Nat // m≤s.ns.length}) (fun ⟨m,hm⟩=>[(2,Ag g.ls),(3,.o (.fn gN capsN)),(12,.o (.ptr 0 1 0 0)),(13,.o (.ptr 3 1 0 0)),(14,.o (.fn 135 [.ptr 0 1 0 0,.ptr 2 1 0 0,.ptr 3 1 0 0])),(15,eI .i64 i),(33,Ag g.ls),(34,eI .i64 g.ls.length),(35,eI .i64 j),(17,eI .i64 l),(18,.o (.arr 5 1 0 ((s.ns.take m).flatMap fun n=>g.succ n l).length)),(43,Ag s.ns),(44,eI .i64 s.ns.length),(45,eI .i64 m)]) (fun ⟨m,hm⟩=>FN g.N gG capsG sen2 4 st2++[(5,.cells 3 1 (((s.ns.take m).flatMap fun n=>g.succ n l).map Al))]) 6 (fun ⟨m,hm⟩=>s.ns.length - m) (⟨0,by omega⟩) [0,1,2,3,4,5] (Di hΓ rfl rfl) (by (simp[cX,zC,hΓ,FN,hrG,hrN])) ?_;rintro⟨m,hm⟩;(try dsimp only)
   (repeat first|refine s2 rfl fun _ _hb=>?_ |refine aU rfl ?_ |refine Aa ?_)
   (refine aC rfl ?_ ?_<;>rintro⟨⟩)
   ·obtain⟨n,hn⟩:=get_some (l:=s.ns) (k:=m) (by (simp only[oZ] at *;omega))
    have hn':=get_map (g:=Bm) hn
    have hnb:=hsin n (List.mem_of_getElem? hn)
    have hfm:(s.ns.take (m+1)).flatMap (fun n=>g.succ n l)=(s.ns.take m).flatMap (fun n=>g.succ n l)++g.succ n l:=by
     rw [List.take_add_one,hn];simp
    have hol:((s.ns.take m).flatMap fun n=>g.succ n l).length≤1099511627776:=by
     have h2:=KR (s.ns.take m) (fun n=>g.succ n l) 1048576 (fun x hx=>by have:=hsl x l (hsin x (List.mem_of_mem_take hx)) hlm;omega)
     have h3:(s.ns.take m).length≤1048576:=by simp;omega
     omega
    have hnx:=hNx n l _ hnb hlm hol
    generalize (s.ns.take m).flatMap (fun n=>g.succ n l)=pre at *
    refine aK ?_
    refine aS (aB ?_)
    (repeat first|refine tM rfl ?_ |(refine s4 rfl ‹_› rfl ?_ ?_;omega) |refine aU rfl ?_ |refine Aa ?_)
    (refine pW rfl ?_ rfl (by rfl);refine Bx [5] rfl rfl hnx ⟨rfl,by decide,by decide⟩ (by rw [RC,Pr,hrN];rfl) (by simp[cX,zC,hΓ]) ?_;rintro x0 σ1 nx1 ⟨rfl,rfl,rfl⟩ _)
    (repeat first|(refine sM rfl ?_ ?_;first|exact tI|omega) |refine aU rfl ?_ |refine Aa ?_)
    refine⟨⟨m+1,by (simp only[oZ] at *;omega)⟩,by dsimp only;((simp only[oZ] at *;omega)),[0,1,2,3,4,6],?_⟩
    simp[cX,zC,hΓ,FN,hrG,hrN,Ab.A3,BN,IC,hfm]
   ·obtain rfl:m=s.ns.length:=by (simp only[oZ] at *;omega)
    rw [List.take_length]
    have hR:∀y,y∈s.ns.flatMap (fun n=>g.succ n l)↔∃n∈s.ns,y∈g.succ n l:=fun y=>List.mem_flatMap
    generalize s.ns.flatMap (fun n=>g.succ n l)=R at *
    have hRin:∀y∈R,0≤y∧y < g.N:=fun y hy=>by
     obtain⟨n,hn,hy⟩:=(hR y).1 hy
     exact hg.inn n (hsin n hn) l hlm y hy
    have hv:=XA (goal:=g.goal) hF.slen hRin
    have hvis:=VK (TB:=TB) hG hcG hrG sen2 st2 i l R hF.slen hN (by omega) hRin
    generalize hV2:Tx g.goal sen2 R=v2 at *
    refine aE ?_
    refine Au.freeze [5] [(2,Ag g.ls),(3,.o (.fn gN capsN)),(12,.o (.ptr 0 1 0 0)),(13,.o (.ptr 3 1 0 0)),(14,.o (.fn 135 [.ptr 0 1 0 0,.ptr 2 1 0 0,.ptr 3 1 0 0])),(15,eI .i64 i),(33,Ag g.ls),(34,eI .i64 g.ls.length),(35,eI .i64 j),(17,eI .i64 l),(18,Ag R)] ⟨⟨_,rfl,.AE⟩,⟨_,rfl,.AE⟩,⟨_,rfl,.AE⟩,⟨_,rfl,.AE⟩,⟨_,rfl,.AE⟩,⟨_,rfl,.AE⟩,⟨_,rfl,.AE⟩,⟨_,rfl,.AE⟩,⟨_,rfl,.AE⟩,⟨_,rfl,.AE⟩,⟨_,rfl,.o (.full (by simp) rfl (by simp [Function.comp_def]) (by simp))⟩,trivial⟩ ?_
    (repeat first|refine tM rfl ?_ |refine aU rfl ?_)
    (refine pW rfl ?_ rfl (by rfl);refine Bx [0,1,2,3,4] rfl rfl hvis ⟨rfl,by decide,by decide⟩ rfl (by simp[cX,zC,hΓ,FN,hrG,BN]) ?_;rintro x0 σ1 nx1 ⟨rfl,q,hq,rfl⟩ _)
    obtain⟨vse,vfr,vfd⟩:=v2
    simp only
    refine Aa ?_
    refine Au.names [0,1,2,3,if q=4 then 4 else 6] [(2,Ag g.ls),(3,.o (.fn gN capsN)),(12,.o (.ptr 0 1 0 0)),(13,.o (.ptr 3 1 0 0)),(14,.o (.fn 135 [.ptr 0 1 0 0,.ptr 2 1 0 0,.ptr 3 1 0 0])),(15,eI .i64 i),(33,Ag g.ls),(34,eI .i64 g.ls.length),(35,eI .i64 j),(59,eB vfd)] (FN g.N gG capsG vse 4 (ER st2 i l vfr)) (by simp [hΓ]) (by rcases hq with ⟨rfl,rfl⟩|⟨rfl,rfl⟩<;>decide)
     (by rcases hq with ⟨rfl,rfl⟩|⟨rfl,rfl⟩<;>simp[cX,zC,hΓ,hrN]) (by rcases hq with ⟨rfl,rfl⟩|⟨rfl,rfl⟩<;>simp[cX,zC,hΓ,FN,hrG,Ab.A3,BN,IC]) ?_
    (refine aC rfl ?_ ?_<;>rintro⟨⟩)
    ·obtain⟨x,hx,hgx⟩:∃x∈vfr,g.goal x=true:=by
      have h1:vfr.any g.goal=true:=hv.fd.symm
      exact List.any_eq_true.1 h1
     have hxR:=((hv.fr x).1 hx).1
     obtain⟨n,hn,hxn⟩:=(hR x).1 hxR
     have hans:=Cs.found hg hF hwi hl hs hn hxn hgx
     have hrr:=Cs.unique hr hans
     subst hrr
     have hne:vfr≠[]:=fun e=>by rw [e] at hx;cases hx
     have hsv:ER st2 i l vfr=st2++[⟨i,l,vfr⟩]:=by unfold ER;rw [if_neg hne]
     rw [hsv]
     have hch:=hF.Zh.app (ns:=vfr) hwi hlm
     have hpw:=UQ (TB:=TB) hch hls (w:=wi++[l]) (by simp;omega) (by simp [hF.wlen])
     generalize hst3:st2++[⟨(i:Int),l,vfr⟩]=st3 at *
     (repeat first|refine tM rfl ?_|(refine Ai rfl ?_;refine gA rfl ?_;first| refine gQ (Iu rfl rfl ((.cons (.o (.full rfl (by simp [Function.comp_def]) (by simp))) .nil)) (hpw) rfl) rfl ?_) |refine aU rfl ?_ |refine Aa ?_)
     refine aR ⟨_,rfl,rfl⟩
    ·have hF2:=hF.visit hg hwi hl hs hR hv rfl
     have hlen2:i < (ER st2 i l vfr).length:=by unfold ER;split<;>(try simp)<;>omega
     refine aK ?_
     (repeat first|(refine sM rfl ?_ ?_;first|exact tI|omega) |refine aU rfl ?_ |refine Aa ?_)
     refine⟨⟨(j+1,vse,ER st2 i l vfr,mx ws2 (wi++[l]) vfr),hjl,hF2,hlen2⟩,by dsimp only;omega,[0,1,2,3,4],?_⟩
     simp[cX,zC,hΓ,FN,hrG,hrN]
  ·obtain rfl:j=g.ls.length:=by (simp only[oZ] at *;omega)
   have hF2:=hF.kC hi
   refine aE ?_
   (repeat first|(refine sM rfl ?_ ?_;first|exact tI|omega) |refine aU rfl ?_ |refine Aa ?_)
   refine⟨⟨(i+1,sen2,st2,ws2),hF2⟩,by dsimp only;omega,[0,1,2,3,4],?_⟩
   simp[cX,zC,hΓ,FN,hrG,hrN]
 ·have hle:=hF.le
  obtain rfl:i=steps.length:=by (simp only[oZ] at *;omega)
  have hans:=Cs.nj hg hF
  have hrr:=Cs.unique hr hans
  subst hrr
  refine aE ?_
  (repeat first|refine tM rfl ?_ |refine aU rfl ?_ |refine Aa ?_)
  refine aR ⟨_,rfl,rfl⟩
def FJ(a p:AU)(node letter:Int):Int:=Cy a (node / p.nx.length % a.nx.length).toNat letter*p.nx.length+Cy p (node % p.nx.length).toNat letter
def Jl(l:List Sys)(a p:AU)(node letter:Int):List Int:=(En (l.map (·.st)) (Zu l (node / p.nx.length / a.nx.length) letter)).map fun o=>o*a.nx.length*p.nx.length+FJ a p node letter
def Nd(a p:AU)(node:Int):Bool:=a.ac.getD (node / p.nx.length % a.nx.length).toNat false && !p.ac.getD (node % p.nx.length).toNat false
def gI(l:List Sys)(a p:AU)(ls:List Int):Gr:=⟨(Av (l.map (·.st))*a.nx.length*p.nx.length).toNat,Jl l a p,Nd a p,ls,0⟩
theorem LF{a:AU}{q:Nat}(h:q < a.nx.length):(GV a)[q]? = some (Xa fun l=>Cy a q l):=DJ (g:=fun q=>Xa fun l=>Cy a q l) h
theorem Jh{h:Nat→Int}{l:Int}(h0:0≤l)(h1:l < 6):((Xa h).drop (l.toNat*1))[0]? = some (iD (h l.toNat)):=by
 rw [List.getElem?_drop]
 have h2:l.toNat*1+0=l.toNat:=by omega
 have h3:l.toNat < 6:=by omega
 rw [h2]
 simp [Xa,h3]
theorem dS{outs low:List Int}{h:Int→Int}{k:Nat}{x:Int}(hx:low[k]? = some x):(outs++((low.take k).map h++low.drop k)).set (outs.length+k) (h x)=outs++((low.take (k+1)).map h++low.drop (k+1)):=by
 have hk:=(List.getElem?_eq_some_iff.1 hx).1
 rw [List.set_append_right _ _ (by omega),List.set_append_right _ _ (by simp;omega)]
 congr 1
 have e:outs.length+k - outs.length - ((low.take k).map h).length=0:=by simp;omega
 rw [e,Bo hx,List.take_add_one,hx]
 simp
theorem Cf{a:AU}(h:AN a=true):1≤a.nx.length∧a.nx.length≤12:=by have:=AG h;omega
theorem Jf{l:List Sys}(h:∀s∈l,AR s=true)(hl:l.length≤3):1≤Av (l.map (·.st))∧Av (l.map (·.st))≤4096:=by
 have hpos:∀z∈l.map (·.st),1≤z∧z≤16:=by
  intro z hz
  obtain⟨s,hs,rfl⟩:=List.mem_map.1 hz
  have:=AM (h s hs)
  omega
 have h2:=HQ _ hpos
 have h3:(16:Int) ^ (l.map (·.st)).length≤4096:=by
  have:(l.map (·.st)).length≤3:=by simp;omega
  generalize (l.map (·.st)).length=n at this
  have:n=0∨n=1∨n=2∨n=3:=by omega
  rcases this with rfl|rfl|rfl|rfl<;>decide
 omega
theorem U7{a p:AU}(ha:AN a=true)(hp:AN p=true){node letter:Int}(hn:0≤node)(h0:0≤letter)(h1:letter < 6):0≤FJ a p node letter∧FJ a p node letter < a.nx.length*p.nx.length:=by
 have h2:=Cf ha
 have h3:=Cf hp
 have h4:0≤node / p.nx.length % a.nx.length∧node / p.nx.length % a.nx.length < a.nx.length:=⟨Int.emod_nonneg _ (by omega),Int.emod_lt_of_pos _ (by omega)⟩
 have h5:0≤node % p.nx.length∧node % p.nx.length < p.nx.length:=⟨Int.emod_nonneg _ (by omega),Int.emod_lt_of_pos _ (by omega)⟩
 have h6:=Dg ha (q:=(node / p.nx.length % a.nx.length).toNat) (by omega) h0 h1
 have h7:=Dg hp (q:=(node % p.nx.length).toNat) (by omega) h0 h1
 unfold FJ
 generalize Cy a _ letter=x at *
 generalize Cy p _ letter=y at *
 generalize (a.nx.length:Int)=n at *
 generalize (p.nx.length:Int)=m at *
 have h8:0≤x*m:=Int.mul_nonneg h6.1 (by omega)
 have h9:(x+1)*m≤n*m:=Int.mul_le_mul_of_nonneg_right (by omega) (by omega)
 rw [Int.add_mul] at h9
 omega
theorem UK[Df TB]{l:List Sys}{a p:AU}(h:∀s∈l,AR s=true)(hl:l.length≤3)(ha:AN a=true)(hp:AN p=true)(node letter:Int)(hn0:0≤node)(hn1:node≤1048576)(h0:0≤letter)(h1:letter < 6)(outs:List Int)(hol:outs.length≤1099511627776) :
 Spec Tryz.prog TB 161 [(0,.cells 3 1 (outs.map Al))] 1 [eI .i64 node,eI .i64 letter,.o (.arr 0 1 0 outs.length),.o (.ip [.l (GV a)]),.o (.ip [iD p.nx.length]),.o (.ip [iD a.nx.length]),.o (.ip [.l (GV p)]),.o (.ip (GN l))]
  (fun x σ nx=>x=.o (.arr 1 1 0 (outs++Jl l a p node letter).length)∧nx=2∧σ=[(1,.cells 3 1 ((outs++Jl l a p node letter).map Al))]):=by
 have han:=Cf ha
 have hpn:=Cf hp
 have hrest:=U7 ha hp hn0 h0 h1
 have hq1:0≤node / p.nx.length:=Int.ediv_nonneg hn0 (by omega)
 have hq2:node / p.nx.length≤node:=Int.ediv_le_self _ hn0
 have hq3:0≤node / p.nx.length / a.nx.length:=Int.ediv_nonneg hq1 (by omega)
 have hq4:node / p.nx.length / a.nx.length≤node / p.nx.length:=Int.ediv_le_self _ hq1
 have h4:0≤node / p.nx.length % a.nx.length∧node / p.nx.length % a.nx.length < a.nx.length:=⟨Int.emod_nonneg _ (by omega),Int.emod_lt_of_pos _ (by omega)⟩
 have h5:0≤node % p.nx.length∧node % p.nx.length < p.nx.length:=⟨Int.emod_nonneg _ (by omega),Int.emod_lt_of_pos _ (by omega)⟩
 have h6:=Dg ha (q:=(node / p.nx.length % a.nx.length).toNat) (by omega) h0 h1
 have h7:=Dg hp (q:=(node % p.nx.length).toNat) (by omega) h0 h1
 have ht1:=LF (a:=a) (q:=(node / p.nx.length % a.nx.length).toNat) (by omega)
 have ht2:=LF (a:=p) (q:=(node % p.nx.length).toNat) (by omega)
 have hr1:=Jh (h:=fun l=>Cy a (node / p.nx.length % a.nx.length).toNat l) h0 h1
 have hr2:=Jh (h:=fun l=>Cy p (node % p.nx.length).toNat l) h0 h1
 have el:((letter.toNat:Nat):Int)=letter:=by omega
 have h8:0≤Cy a (node / p.nx.length % a.nx.length).toNat letter*p.nx.length∧Cy a (node / p.nx.length % a.nx.length).toNat letter*p.nx.length≤144:=⟨Int.mul_nonneg h6.1 (by omega),by
  have:Cy a (node / p.nx.length % a.nx.length).toNat letter*p.nx.length≤12*12:=Int.mul_le_mul (by omega) (by omega) (by omega) (by omega)
  omega⟩
 simp only [el] at hr1 hr2
 have hnx:=fC (TB:=TB) l h hl (node / p.nx.length / a.nx.length) letter hq3 (by omega) h0 h1 outs hol
 have hlow:=SC (Sm h hl h0 h1 (node / p.nx.length / a.nx.length))
 have hps:=Jf h hl
 have hre:Cy a (node / p.nx.length % a.nx.length).toNat letter*p.nx.length+Cy p (node % p.nx.length).toNat letter=FJ a p node letter:=rfl
 unfold Jl
 generalize En (l.map (·.st)) (Zu l (node / p.nx.length / a.nx.length) letter)=low at *
 refine eN Tryz.func161 rfl (by kernel_rfl) rfl ?_;intro Γ hΓ
 (repeat first |refine sN rfl ?_ |((first|refine sA rfl ?_ ?_|refine s4 rfl ‹_› rfl ?_ ?_);first|exact tI|omega|simp only[oZ] at *;omega) |refine s2 rfl fun _ _hb=>?_ |refine s3 rfl ?_ ?_<;>rintro rfl |refine aU rfl ?_ |refine Aa ?_)
 refine rG (IZ []) (by kernel_rfl) ?_
 (repeat first |refine sN rfl ?_ |((first|refine sA rfl ?_ ?_|refine s4 rfl ‹_› rfl ?_ ?_);first|exact tI|omega|simp only[oZ] at *;omega) |refine s2 rfl fun _ _hb=>?_|(refine Ai rfl ?_;refine gA rfl ?_;first|refine gS (fun _ _=>Ey rfl hr1) ?_|refine gS (fun _ _=>Ey rfl hr2) ?_) |refine s3 rfl ?_ ?_<;>rintro rfl |refine aU rfl ?_ |refine Aa ?_)
 rw [hre]
 refine rG (IZ [8]) (by kernel_rfl) ?_
 (repeat first |refine sN rfl ?_ |((first|refine sA rfl ?_ ?_|refine s4 rfl ‹_› rfl ?_ ?_);first|exact tI|omega|simp only[oZ] at *;omega) |refine s2 rfl fun _ _hb=>?_ |refine s3 rfl ?_ ?_<;>rintro rfl |refine aU rfl ?_ |refine Aa ?_)
 (refine pW rfl ?_ rfl (by rfl);refine Bx [0] rfl rfl hnx ⟨rfl,by decide,by decide⟩ rfl (by simp[cX,zC,hΓ]) ?_;rintro x0 σ1 nx1 ⟨rfl,rfl,rfl⟩ _)
 (repeat first |refine sN rfl ?_ |((first|refine sA rfl ?_ ?_|refine s4 rfl ‹_› rfl ?_ ?_);first|exact tI|omega|simp only[oZ] at *;omega) |refine s2 rfl fun _ _hb=>?_ |refine s3 rfl ?_ ?_<;>rintro rfl |refine aU rfl ?_ |refine Aa ?_)
 refine aB ?_
 have hmb:∀k,((outs++((low.take k).map (fun o=>o*a.nx.length*p.nx.length+FJ a p node letter)++low.drop k)).length)=outs.length+low.length:=by intro k;simp;omega
 refine Au.AP (α:={k:Nat // k≤low.length}) (fun ⟨k,hk⟩=>[(2,.o (.arr 1 1 0 (outs.length+low.length))),(4,.o (.ip [iD p.nx.length])),(5,.o (.ip [iD a.nx.length])),(12,eI .i64 (FJ a p node letter)),(14,eI .i64 ((outs.length+k:Nat):Int))]) (fun ⟨k,hk⟩=>[(1,.cells 3 1 ((outs++((low.take k).map (fun o=>o*a.nx.length*p.nx.length+FJ a p node letter)++low.drop k)).map Al))]) 2 (fun ⟨k,hk⟩=>low.length - k) (⟨0,by omega⟩) [0,1] (Di hΓ rfl rfl) (by ((repeat' first|exact tI|rfl|refine And.intro ?_ ?_)<;>(simp[cX,zC,hΓ,Ab.A3,BN,IC]))) ?_;rintro⟨k,hk⟩;(try dsimp only)
 (repeat first |refine sN rfl ?_ |((first|refine sM rfl ?_ ?_|refine s4 rfl ‹_› rfl ?_ ?_);first|exact tI|omega|simp only[oZ] at *;omega) |refine s2 rfl fun _ _hb=>?_ |refine s3 rfl ?_ ?_<;>rintro rfl |refine aU rfl ?_ |refine Aa ?_ |refine rE (by kernel_rfl) ?_)
 (refine aC rfl ?_ ?_<;>rintro⟨⟩)
 ·have hkl:k < low.length:=by first|omega|simp only[oZ] at *;omega
  obtain⟨x,hx⟩:=get_some (l:=low) (k:=k) hkl
  have hxb:=hlow.1 x (List.mem_of_getElem? hx)
  have hset:=dS (outs:=outs) (h:=fun o=>o*a.nx.length*p.nx.length+FJ a p node letter) hx
  have hgx:(outs++((low.take k).map (fun o=>o*a.nx.length*p.nx.length+FJ a p node letter)++low.drop k))[outs.length+k]? = some x:=by
   rw [List.getElem?_append_right (by omega),List.getElem?_append_right (by simp;omega),Bo hx]
   have e:outs.length+k - outs.length - ((low.take k).map (fun o=>o*a.nx.length*p.nx.length+FJ a p node letter)).length=0:=by simp;omega
   rw [e];rfl
  have hgx':=HG (g:=Al) hgx
  have hm1:0≤x*a.nx.length∧x*a.nx.length≤49152:=⟨Int.mul_nonneg hxb.1 (by omega),by
   have:x*a.nx.length≤4096*12:=Int.mul_le_mul (by omega) (by omega) (by omega) (by omega)
   omega⟩
  have hm2:0≤x*a.nx.length*p.nx.length∧x*a.nx.length*p.nx.length≤589824:=⟨Int.mul_nonneg hm1.1 (by omega),by
   have:x*a.nx.length*p.nx.length≤49152*12:=Int.mul_le_mul hm1.2 (by omega) (by omega) (by omega)
   omega⟩
  have hm3:(a.nx.length:Int)*p.nx.length≤144:=by
   have:(a.nx.length:Int)*p.nx.length≤12*12:=Int.mul_le_mul (by omega) (by omega) (by omega) (by omega)
   omega
  have hlk:=hmb k
  have hk1:((outs.length+k:Nat):Int)+1=((outs.length+(k+1):Nat):Int):=by omega
  have hsm:=HT (l:=outs++((low.take k).map (fun o=>o*a.nx.length*p.nx.length+FJ a p node letter)++low.drop k)) (k:=outs.length+k) (x:=x) (y:=x*a.nx.length*p.nx.length+FJ a p node letter)
  rw [hset] at hsm
  generalize outs++((low.take k).map (fun o=>o*a.nx.length*p.nx.length+FJ a p node letter)++low.drop k)=cur at *
  refine aK ?_
  refine aS (aB ?_)
  refine rG (IZ [13]) (by kernel_rfl) ?_
  (repeat first |refine sN rfl ?_ |((first|refine sM rfl ?_ ?_|refine s4 rfl ‹_› rfl ?_ ?_);first|exact tI|omega|simp only[oZ] at *;omega) |refine s2 rfl fun _ _hb=>?_ |refine s3 rfl ?_ ?_<;>rintro rfl |refine aU rfl ?_ |refine Aa ?_ |refine rE (by kernel_rfl) ?_)
  refine⟨⟨k+1,hkl⟩,by dsimp only;omega,[0,1],?_⟩
  rw [hsm,hk1]
  simp[cX,zC,hΓ]
 ·obtain rfl:k=low.length:=by first|omega|simp only[oZ] at *;omega
  rw [List.take_length,List.drop_length,List.append_nil]
  refine aE ?_
  (repeat first |refine sN rfl ?_ |((first|refine sM rfl ?_ ?_|refine s4 rfl ‹_› rfl ?_ ?_);first|exact tI|omega|simp only[oZ] at *;omega) |refine s2 rfl fun _ _hb=>?_ |refine s3 rfl ?_ ?_<;>rintro rfl |refine aU rfl ?_ |refine Aa ?_ |refine rE (by kernel_rfl) ?_)
  refine Au.names [0,1] [(11,.o (.arr 1 1 0 (outs.length+low.length)))] [(1,.cells 3 1 ((outs++low.map fun o=>o*a.nx.length*p.nx.length+FJ a p node letter).map Al))] (by intro i hi;rw [hΓ] at hi;obtain rfl:i=0:=(by omega);rfl) (by simp) (by simp[cX,zC,hΓ]) (by simp[cX,zC,hΓ]) ?_
  refine aR ⟨_,rfl,by simp,rfl,rfl⟩
theorem Sd(s:Sys):Pure Tryz.prog TB 166 [Bv s] (eB (!AR s)):=by
 refine eN Tryz.func166 rfl (by kernel_rfl) rfl ?_;intro Γ hΓ
 (repeat' first |refine sN rfl ?_ |((first|refine sA rfl ?_ ?_|refine s4 rfl ‹_› rfl ?_ ?_);first|exact tI|omega|simp only[oZ] at *;omega) |refine s2 rfl fun _ _hb=>?_ |(refine sC rfl (BX s) ?_;intro _ _hb) |refine s3 rfl ?_ ?_<;>rintro rfl |refine aU rfl ?_ |refine Aa ?_ |refine rE (by kernel_rfl) ?_|(refine aC rfl ?_ ?_<;>rintro⟨⟩)|refine aK ?_|refine aE ?_|refine aB ?_|refine aR ⟨_,rfl,?_⟩)
 all_goals (show E.o _=E.o _;congr;grind)
def Wi:List Sys→Int→Int
 | [],_=>-1
 | s::l,k=>if AR s then Wi l (k+1) else k
theorem TX:∀(l:List Sys) (k:Int),0≤k→(decide (0≤Wi l k) = !l.all AR)
 | [],_,_=>rfl
 | s::l,k,h=>by
  unfold Wi
  by_cases hs:AR s=true
  ·rw [if_pos hs,TX l (k+1) (by omega)];simp [hs]
  ·rw [if_neg hs];simp [hs,h]
theorem Sw(l:List Sys):Pure Tryz.prog TB 208 [Gx l,.o (.fn 166 [])] (eI .i64 (Wi l 0)):=by
 refine eN Tryz.func208 rfl (by kernel_rfl) rfl ?_;intro Γ hΓ
 refine Au.bound 0 rfl fun hB0=>?_
 have hB:=hB0 (l.map CE) .refl
 (repeat' first |refine sN rfl ?_ |((first|refine sA rfl ?_ ?_|refine s4 rfl ‹_› rfl ?_ ?_);first|exact tI|omega|simp only[oZ] at *;omega) |refine s2 rfl fun _ _hb=>?_ |refine s3 rfl ?_ ?_<;>rintro rfl |refine aU rfl ?_ |refine Aa ?_ |refine rE (by kernel_rfl) ?_|(refine aC rfl ?_ ?_<;>rintro⟨⟩)|refine aK ?_|refine aE ?_|refine aB ?_|refine aR ⟨_,rfl,?_⟩)
 refine Au.AP (α:={k:Nat // k≤l.length∧Wi l 0=Wi (l.drop k) k}) (fun ⟨k,hk,ha⟩=>[(0,Gx l),(1,.o (.fn 166 [])),(7,eI .i64 l.length),(8,eI .i64 k)]) (fun ⟨k,hk,ha⟩=>[]) 0 (fun ⟨k,hk,ha⟩=>l.length - k) (⟨0,by omega,rfl⟩) [] (Di hΓ rfl rfl) (by ((repeat' first|exact tI|rfl|refine And.intro ?_ ?_)<;>(simp[cX,zC,hΓ]))) ?_;rintro⟨k,hk,ha⟩;(try dsimp only)
 (repeat first |refine sN rfl ?_ |((first|refine sA rfl ?_ ?_|refine s4 rfl ‹_› rfl ?_ ?_);first|exact tI|omega|simp only[oZ] at *;omega) |refine s2 rfl fun _ _hb=>?_ |refine s3 rfl ?_ ?_<;>rintro rfl |refine aU rfl ?_ |refine Aa ?_ |refine rE (by kernel_rfl) ?_)
 (refine aC rfl ?_ ?_<;>rintro⟨⟩)
 ·obtain⟨x,hx⟩:=get_some (l:=l) (k:=k) (by first|omega|simp only[oZ] at *;omega)
  have hx':=get_map (g:=CE) hx
  rw [Bo hx,Wi] at ha
  (repeat' first |refine sN rfl ?_ |((first|refine sA rfl ?_ ?_|refine s4 rfl ‹_› rfl ?_ ?_);first|exact tI|omega|simp only[oZ] at *;omega) |refine s2 rfl fun _ _hb=>?_ |(refine sC rfl (Sd x) ?_;intro _ _hb) |refine s3 rfl ?_ ?_<;>rintro rfl |refine aU rfl ?_ |refine Aa ?_ |refine rE (by kernel_rfl) ?_|(refine aC rfl ?_ ?_<;>rintro⟨⟩)|refine aK ?_|refine aE ?_|refine aB ?_|refine aR ⟨_,rfl,?_⟩)
  ·rw [if_neg (by grind)] at ha
   show E.o _=E.o _;rw [ha]
  ·rw [if_pos (by grind)] at ha
   refine⟨⟨k+1,by first|omega|simp only[oZ] at *;omega,by rw [ha];rfl⟩,by dsimp only;(first|omega|simp only[oZ] at *;omega),[],?_⟩
   simp[cX,zC,hΓ]
 ·(repeat' first |refine sN rfl ?_ |((first|refine sA rfl ?_ ?_|refine s4 rfl ‹_› rfl ?_ ?_);first|exact tI|omega|simp only[oZ] at *;omega) |refine s2 rfl fun _ _hb=>?_ |refine s3 rfl ?_ ?_<;>rintro rfl |refine aU rfl ?_ |refine Aa ?_ |refine rE (by kernel_rfl) ?_|(refine aC rfl ?_ ?_<;>rintro⟨⟩)|refine aK ?_|refine aE ?_|refine aB ?_|refine aR ⟨_,rfl,?_⟩)
  rw [List.drop_of_length_le (by first|omega|simp only[oZ] at *;omega)] at ha
  show E.o _=E.o _;rw [ha];rfl
theorem NK(l:List Sys):Pure Tryz.prog TB 165 [Gx l,.o (.fn 166 [])] (eB (!l.all AR)):=by
 have hb:=TX l 0 (by omega)
 refine eN Tryz.func165 rfl (by kernel_rfl) rfl ?_;intro Γ hΓ
 (repeat' first |refine sN rfl ?_ |((first|refine sA rfl ?_ ?_|refine s4 rfl ‹_› rfl ?_ ?_);first|exact tI|omega|simp only[oZ] at *;omega) |refine s2 rfl fun _ _hb=>?_ |refine sP rfl (Sw l) rfl ?_ |refine s3 rfl ?_ ?_<;>rintro rfl |refine aU rfl ?_ |refine Aa ?_ |refine rE (by kernel_rfl) ?_|(refine aC rfl ?_ ?_<;>rintro⟨⟩)|refine aK ?_|refine aE ?_|refine aB ?_|refine aR ⟨_,rfl,?_⟩)
 all_goals (show E.o _=E.o _;congr;grind)
theorem IT(l:List Sys):Pure Tryz.prog TB 112 [Gx l] (eB (A5 l)):=by
 refine eN Tryz.func112 rfl (by kernel_rfl) rfl ?_;intro Γ hΓ
 (repeat' first |refine sN rfl ?_ |((first|refine sA rfl ?_ ?_|refine s4 rfl ‹_› rfl ?_ ?_);first|exact tI|omega|simp only[oZ] at *;omega) |refine s2 rfl fun _ _hb=>?_ |(refine sC rfl (NK l) ?_;intro _ _hb) |refine s3 rfl ?_ ?_<;>rintro rfl |refine aU rfl ?_ |refine Aa ?_ |refine rE (by kernel_rfl) ?_|(refine aC rfl ?_ ?_<;>rintro⟨⟩)|refine aK ?_|refine aE ?_|refine aB ?_|refine aR ⟨_,rfl,?_⟩)
 all_goals (show E.o _=E.o _;congr;unfold A5;grind)
theorem Fz(l:List Sys):Pure Tryz.prog TB 160 [Gx l] (eI .i64 (Bq l)):=by
 refine eN Tryz.func160 rfl (by kernel_rfl) rfl ?_;intro Γ hΓ
 refine Au.bound 0 rfl fun hB0=>?_
 have hB:=hB0 (l.map CE) .refl
 (repeat' first |refine sN rfl ?_ |((first|refine sA rfl ?_ ?_|refine s4 rfl ‹_› rfl ?_ ?_);first|exact tI|omega|simp only[oZ] at *;omega) |refine s2 rfl fun _ _hb=>?_ |(refine sC rfl (IT l) ?_;intro _ _hb) |refine s3 rfl ?_ ?_<;>rintro rfl |refine aU rfl ?_ |refine Aa ?_ |refine rE (by kernel_rfl) ?_|(refine aC rfl ?_ ?_<;>rintro⟨⟩)|refine aK ?_|refine aE ?_|refine aB ?_|refine aR ⟨_,rfl,?_⟩)
 all_goals try (show E.o _=E.o _;congr;unfold Bq;rw [if_neg (by grind)])
 have hpk:A5 l=true:=by grind
 refine Au.AP (α:={k:Nat // k≤l.length}) (fun ⟨k,hk⟩=>[(3,eI .i64 (Ht (l.take k) 0)),(9,Gx l),(10,eI .i64 l.length),(11,eI .i64 k)]) (fun ⟨k,hk⟩=>[]) 0 (fun ⟨k,hk⟩=>l.length - k) (⟨0,by omega⟩) [] (Di hΓ rfl rfl) (by ((repeat' first|exact tI|rfl|refine And.intro ?_ ?_)<;>(simp[cX,zC,hΓ]))) ?_;rintro⟨k,hk⟩;(try dsimp only)
 (repeat first |refine sN rfl ?_ |((first|refine sA rfl ?_ ?_|refine s4 rfl ‹_› rfl ?_ ?_);first|exact tI|omega|simp only[oZ] at *;omega) |refine s2 rfl fun _ _hb=>?_ |refine s3 rfl ?_ ?_<;>rintro rfl |refine aU rfl ?_ |refine Aa ?_ |refine rE (by kernel_rfl) ?_)
 (refine aC rfl ?_ ?_<;>rintro⟨⟩)
 ·obtain⟨x,hx⟩:=get_some (l:=l) (k:=k) (by first|omega|simp only[oZ] at *;omega)
  have hx':=get_map (g:=CE) hx
  have hst:Ht (l.take (k+1)) 0=GZ .i64 (Ht (l.take k) 0) x.al:=by unfold Ht;rw [GB hx]
  (repeat' first |refine sN rfl ?_ |((first|refine sA rfl ?_ ?_|refine s4 rfl ‹_› rfl ?_ ?_);first|exact tI|omega|simp only[oZ] at *;omega) |refine s2 rfl fun _ _hb=>?_ |refine s3 rfl ?_ ?_<;>rintro rfl |refine aU rfl ?_ |refine Aa ?_ |refine rE (by kernel_rfl) ?_|(refine aC rfl ?_ ?_<;>rintro⟨⟩)|refine aK ?_|refine aE ?_|refine aB ?_|refine aR ⟨_,rfl,?_⟩)
  refine⟨⟨k+1,by first|omega|simp only[oZ] at *;omega⟩,by dsimp only;(first|omega|simp only[oZ] at *;omega),[],?_⟩
  simp[cX,zC,hΓ,hst]
 ·(repeat' first |refine sN rfl ?_ |((first|refine sA rfl ?_ ?_|refine s4 rfl ‹_› rfl ?_ ?_);first|exact tI|omega|simp only[oZ] at *;omega) |refine s2 rfl fun _ _hb=>?_ |refine s3 rfl ?_ ?_<;>rintro rfl |refine aU rfl ?_ |refine Aa ?_ |refine rE (by kernel_rfl) ?_|(refine aC rfl ?_ ?_<;>rintro⟨⟩)|refine aK ?_|refine aE ?_|refine aB ?_|refine aR ⟨_,rfl,?_⟩)
  rw [List.take_of_length_le (by first|omega|simp only[oZ] at *;omega)]
  show E.o _=E.o _;congr;unfold Bq;rw [if_pos hpk]
theorem Ul{a p:AU}(ha:AN a=true)(hp:AN p=true)(node:Int)(hn0:0≤node)(hn1:node≤1048576):Pure Tryz.prog TB 163 [eI .i64 node,.o (.ip [.p (Bh a)]),.o (.ip [iD p.nx.length]),.o (.ip [iD a.nx.length]),.o (.ip (Bh p))] (eB (Nd a p node)):=by
 have han:=Cf ha
 have hpn:=Cf hp
 have hah:=AG ha
 have hph:=AG hp
 have hq1:0≤node / p.nx.length:=Int.ediv_nonneg hn0 (by omega)
 have hq2:node / p.nx.length≤node:=Int.ediv_le_self _ hn0
 have h4:0≤node / p.nx.length % a.nx.length∧node / p.nx.length % a.nx.length < a.nx.length:=⟨Int.emod_nonneg _ (by omega),Int.emod_lt_of_pos _ (by omega)⟩
 have h5:0≤node % p.nx.length∧node % p.nx.length < p.nx.length:=⟨Int.emod_nonneg _ (by omega),Int.emod_lt_of_pos _ (by omega)⟩
 obtain⟨b,hb⟩:=get_some (l:=a.ac) (k:=(node / p.nx.length % a.nx.length).toNat) (by omega)
 obtain⟨c,hc⟩:=get_some (l:=p.ac) (k:=(node % p.nx.length).toNat) (by omega)
 have hb':(a.ac.map Ib)[(node / p.nx.length % a.nx.length).toNat]? = some (Ib b):=by simp [hb]
 have hc':(p.ac.map Ib)[(node % p.nx.length).toNat]? = some (Ib c):=by simp [hc]
 have hg:Nd a p node=(b && !c):=by simp [Nd,List.getD,hb,hc]
 rw [hg]
 refine eN Tryz.func163 rfl (by kernel_rfl) rfl ?_;intro Γ hΓ
 (repeat' first |refine sN rfl ?_ |((first|refine sA rfl ?_ ?_|refine s4 rfl ‹_› rfl ?_ ?_);first|exact tI|omega|simp only[oZ] at *;omega) |refine s2 rfl fun _ _hb=>?_ |refine s3 rfl ?_ ?_<;>rintro rfl |refine aU rfl ?_ |refine Aa ?_ |refine rE (by kernel_rfl) ?_|(refine aC rfl ?_ ?_<;>rintro⟨⟩)|refine aK ?_|refine aE ?_|refine aB ?_|refine aR ⟨_,rfl,?_⟩)
 all_goals (show E.o _=E.o _;first|rfl|(congr;grind))
theorem VB(a:AU):(GV a).length=a.nx.length:=by simp [GV,BF]
def NI:AU:=⟨0,[[]],[true]⟩
theorem eP:AN NI=true:=by decide
theorem iB{l:List Sys}{a p:AU}{ls:List Int}(h:∀s∈l,AR s=true)(hl:l.length≤3)(ha:AN a=true)(hp:AN p=true):((gI l a p ls).N:Int)=Av (l.map (·.st))*a.nx.length*p.nx.length∧1≤(gI l a p ls).N∧(gI l a p ls).N≤1048576:=by
 have h1:=Jf h hl
 have h2:=Cf ha
 have h3:=Cf hp
 have h4:(gI l a p ls).N=(Av (l.map (·.st))*a.nx.length*p.nx.length).toNat:=rfl
 have h5:Av (l.map (·.st))*a.nx.length≤4096*12:=Int.mul_le_mul h1.2 (by omega) (by omega) (by omega)
 have h6:1*1≤Av (l.map (·.st))*a.nx.length:=Int.mul_le_mul h1.1 (by omega) (by omega) (by omega)
 have h7:Av (l.map (·.st))*a.nx.length*p.nx.length≤49152*12:=Int.mul_le_mul (by omega) (by omega) (by omega) (by omega)
 have h8:1*1≤Av (l.map (·.st))*a.nx.length*p.nx.length:=Int.mul_le_mul (by omega) (by omega) (by omega) (by omega)
 omega
theorem PG{l:List Sys}{a p:AU}(h:∀s∈l,AR s=true)(hl:l.length≤3)(ha:AN a=true)(hp:AN p=true){node letter:Int}(hn:0≤node)(h0:0≤letter)(h1:letter < 6):(∀y∈Jl l a p node letter,0≤y∧y < Av (l.map (·.st))*a.nx.length*p.nx.length)∧((Jl l a p node letter).length:Int)≤Av (l.map (·.st)):=by
 have h2:=SC (Sm h hl h0 h1 (node / p.nx.length / a.nx.length))
 have h3:=Jf h hl
 have h4:=Cf ha
 have h5:=Cf hp
 have h6:=U7 ha hp hn h0 h1
 refine⟨fun y hy=>?_,by unfold Jl;simp;omega⟩
 obtain⟨o,ho,rfl⟩:=List.mem_map.1 hy
 have h7:=h2.1 o ho
 have e:∀o:Int,o*a.nx.length*p.nx.length=o*(a.nx.length*p.nx.length):=fun o=>Int.mul_assoc _ _ _
 rw [e,e]
 have h8:0≤(a.nx.length:Int)*p.nx.length:=Int.mul_nonneg (by omega) (by omega)
 generalize (a.nx.length:Int)*p.nx.length=q at *
 have h9:0≤o*q:=Int.mul_nonneg h7.1 h8
 have h10:(o+1)*q≤Av (l.map (·.st))*q:=Int.mul_le_mul_of_nonneg_right (by omega) h8
 rw [Int.add_mul] at h10
 omega
theorem gK{l:List Sys}{a p:AU}{x:Int}(h:∀s∈l,AR s=true)(hl:l.length≤3)(ha:AN a=true)(hp:AN p=true):IQ (gI l a p (Ac x)):=by
 have hN:=iB (ls:=Ac x) h hl ha hp
 refine⟨?_,fun y hy m hm z hz=>?_,EJ _ _⟩
 ·show 0≤(0:Int)∧(0:Int) < _
  omega
 ·have h1:=Ak hm
  have h2:=(PG h hl ha hp hy.1 h1.1 (by omega)).1 z hz
  omega
theorem OM[Df TB](l:List Sys)(a p:AU)(h:A5 l=true)(ha:AN a=true)(hp:AN p=true) :
 Pure Tryz.prog TB 111 [Gx l,.o (.ip (Bh a)),Bp p] (KO (DV (gI l a p (Ac (GZ .i64 (Bq l) a.al))))):=by
 have hpo:=h
 unfold A5 at hpo
 simp only [Bool.and_eq_true,decide_eq_true_eq,List.all_eq_true] at hpo
 obtain⟨⟨hl1,hl⟩,hs⟩:=hpo
 have hN:=iB (ls:=Ac (GZ .i64 (Bq l) a.al)) hs hl ha hp
 have hg:=gK (x:=GZ .i64 (Bq l) a.al) hs hl ha hp
 have hps:=Jf hs hl
 have han:=Cf ha
 have hpn:=Cf hp
 have hfp:Pure Tryz.prog TB 79 [eI .i64 (Av (l.map (·.st))*a.nx.length*p.nx.length),Ag [0],Ag (Ac (GZ .i64 (Bq l) a.al)),.o (.fn 161 [.ip [.l (GV a)],.ip [iD p.nx.length],.ip [iD a.nx.length],.ip [.l (GV p)],.ip (GN l)]),.o (.fn 163 [.ip [.p (Bh a)],.ip [iD p.nx.length],.ip [iD a.nx.length],.ip (Bh p)])]
  (KO (DV (gI l a p (Ac (GZ .i64 (Bq l) a.al))))):=by
  rw [←hN.1]
  refine KQ hg hN.2.2 (fun x hx=>by have:=Ak hx;omega) (AV _ 6) (fun node x hn hx=>?_) (fun node x outs hn hx ho=>?_) (fun n hn=>?_) rfl (fun r=>rfl) (fun r=>rfl) (Du _)
  ·have h1:=Ak hx
   have h2:=(PG hs hl ha hp hn.1 h1.1 (by omega)).2
   have h3:Av (l.map (·.st))*1≤Av (l.map (·.st))*a.nx.length:=Int.mul_le_mul_of_nonneg_left (by omega) (by omega)
   have h4:Av (l.map (·.st))*a.nx.length*1≤Av (l.map (·.st))*a.nx.length*p.nx.length:=Int.mul_le_mul_of_nonneg_left (by omega) (by omega)
   have h5:(((gI l a p (Ac (GZ .i64 (Bq l) a.al))).succ node x).length:Int)≤Av (l.map (·.st)):=h2
   omega
  ·have h1:=Ak hx
   exact UK hs hl ha hp node x hn.1 (by omega) h1.1 (by omega) outs ho
  ·exact Ul ha hp n hn.1 (by omega)
 have hm1:0≤Av (l.map (·.st))*a.nx.length∧Av (l.map (·.st))*a.nx.length≤49152:=⟨Int.mul_nonneg (by omega) (by omega),by
  have:Av (l.map (·.st))*a.nx.length≤4096*12:=Int.mul_le_mul hps.2 (by omega) (by omega) (by omega)
  omega⟩
 refine eN Tryz.func111 rfl (by kernel_rfl) rfl ?_;intro Γ hΓ
 (repeat first|refine aU rfl ?_)
 (refine Ai rfl ?_;refine Bs (fun _ _=>C0 rfl rfl rfl) rfl ?_)
 (refine Ai rfl ?_;refine Bs (fun _ _=>C0 rfl rfl rfl) rfl ?_)
 (repeat first|refine tM rfl ?_ |refine sP rfl (Nl l hs hl) rfl ?_|refine sP rfl (Fz l) rfl ?_ |refine aU rfl ?_ |refine Aa ?_)
 (refine aC rfl ?_ ?_<;>rintro⟨⟩)
 refine aK ?_
 refine aS ?_
 refine R.NR [(0,2),(1,2),(2,2),(3,2),(4,2),(5,2),(6,3),(7,3),(8,5),(9,5)] mixed (by kernel_rfl) rfl (by kernel_rfl) ?_
 (repeat ((refine R.Ai rfl ?_;first|(refine R.yQ (md:=false) rfl rfl rfl ?_ ?_;exact tI) |refine R.yP rfl rfl rfl rfl ?_ |refine R.yA rfl rfl rfl rfl ?_|refine R.Bs (fun _ _ _=>AO rfl rfl rfl (Fj a ha) rfl) rfl rfl ?_|refine R.Bs (fun _ _ _=>AO rfl rfl rfl (Fj p hp) rfl) rfl rfl ?_ )))
 refine R.NM ?_
 refine aS ?_
 refine Au.freeze [0,1,2] [(4,.o (.ip [.p (Bh a)])),(5,.o (.ip (Bh p))),(8,.o (.ip (GN l))),(9,eI .i64 (Bq l)),(10,.o (.ip [.l (GV a)])),(11,.o (.ip [.l (GV p)]))] ⟨⟨_,rfl,.AE⟩,⟨_,rfl,.AE⟩,⟨_,rfl,.o (.ptr (by simp) rfl rfl rfl)⟩,⟨_,rfl,.AE⟩,⟨_,rfl,.o (.ptr (by simp) rfl rfl rfl)⟩,⟨_,rfl,.o (.ptr (by simp) rfl rfl rfl)⟩,trivial⟩ ?_
 refine R.NR [(0,2),(1,2),(2,2),(3,2),(4,3),(5,3),(6,5),(7,5)] mixed (by kernel_rfl) rfl (by kernel_rfl) ?_
 (repeat ((refine R.Ai rfl ?_;first|(refine R.yQ (md:=false) rfl rfl rfl ?_ ?_;exact tI) |refine R.yP rfl rfl rfl rfl ?_ |refine R.yA rfl rfl rfl rfl ?_ )))
 refine R.NM ?_
 refine aS ?_
 simp only [VB]
 refine Au.freeze [3,4] [(4,.o (.ip [.p (Bh a)])),(5,.o (.ip (Bh p))),(8,.o (.ip (GN l))),(9,eI .i64 (Bq l)),(10,.o (.ip [.l (GV a)])),(11,.o (.ip [.l (GV p)])),(12,.o (.ip [iD a.nx.length])),(13,.o (.ip [iD p.nx.length]))] ⟨⟨_,rfl,.AE⟩,⟨_,rfl,.AE⟩,⟨_,rfl,.AE⟩,⟨_,rfl,.AE⟩,⟨_,rfl,.AE⟩,⟨_,rfl,.AE⟩,⟨_,rfl,.o (.ptr (by simp) rfl rfl rfl)⟩,⟨_,rfl,.o (.ptr (by simp) rfl rfl rfl)⟩,trivial⟩ ?_
 (repeat first|refine tA rfl ?_ |refine aU rfl ?_ |refine Aa ?_)
 refine rG (IZ []) (by kernel_rfl) ?_
 (repeat first|(refine sA rfl ?_ ?_;first|exact tI|omega) |refine sP rfl (Y7 l hs hl) rfl ?_|refine sP rfl (CN _) rfl ?_|refine sP rfl (hfp) rfl ?_ |refine Aa ?_)
 refine aR ⟨_,rfl,rfl⟩
theorem NL[Df TB](l:List Sys)(p:AU)(h:A5 l=true)(hp:AN p=true) :
 Pure Tryz.prog TB 111 [Gx l,.o (.d (.v (.pointer none))),Bp p] (KO (DV (gI l NI p (Ac (GZ .i64 (Bq l) NI.al))))):=by
 obtain⟨a,hae⟩:∃a,a=NI:=⟨_,rfl⟩
 have ha:AN a=true:=by rw [hae];exact eP
 rw [←hae]
 have hpo:=h
 unfold A5 at hpo
 simp only [Bool.and_eq_true,decide_eq_true_eq,List.all_eq_true] at hpo
 obtain⟨⟨hl1,hl⟩,hs⟩:=hpo
 have hN:=iB (ls:=Ac (GZ .i64 (Bq l) a.al)) hs hl ha hp
 have hg:=gK (x:=GZ .i64 (Bq l) a.al) hs hl ha hp
 have hps:=Jf hs hl
 have han:=Cf ha
 have hpn:=Cf hp
 have hfp:Pure Tryz.prog TB 79 [eI .i64 (Av (l.map (·.st))*a.nx.length*p.nx.length),Ag [0],Ag (Ac (GZ .i64 (Bq l) a.al)),.o (.fn 161 [.ip [.l (GV a)],.ip [iD p.nx.length],.ip [iD a.nx.length],.ip [.l (GV p)],.ip (GN l)]),.o (.fn 163 [.ip [.p (Bh a)],.ip [iD p.nx.length],.ip [iD a.nx.length],.ip (Bh p)])]
  (KO (DV (gI l a p (Ac (GZ .i64 (Bq l) a.al))))):=by
  rw [←hN.1]
  refine KQ hg hN.2.2 (fun x hx=>by have:=Ak hx;omega) (AV _ 6) (fun node x hn hx=>?_) (fun node x outs hn hx ho=>?_) (fun n hn=>?_) rfl (fun r=>rfl) (fun r=>rfl) (Du _)
  ·have h1:=Ak hx
   have h2:=(PG hs hl ha hp hn.1 h1.1 (by omega)).2
   have h3:Av (l.map (·.st))*1≤Av (l.map (·.st))*a.nx.length:=Int.mul_le_mul_of_nonneg_left (by omega) (by omega)
   have h4:Av (l.map (·.st))*a.nx.length*1≤Av (l.map (·.st))*a.nx.length*p.nx.length:=Int.mul_le_mul_of_nonneg_left (by omega) (by omega)
   have h5:(((gI l a p (Ac (GZ .i64 (Bq l) a.al))).succ node x).length:Int)≤Av (l.map (·.st)):=h2
   omega
  ·have h1:=Ak hx
   exact UK hs hl ha hp node x hn.1 (by omega) h1.1 (by omega) outs ho
  ·exact Ul ha hp n hn.1 (by omega)
 have hm1:0≤Av (l.map (·.st))*a.nx.length∧Av (l.map (·.st))*a.nx.length≤49152:=⟨Int.mul_nonneg (by omega) (by omega),by
  have:Av (l.map (·.st))*a.nx.length≤4096*12:=Int.mul_le_mul hps.2 (by omega) (by omega) (by omega)
  omega⟩
 refine eN Tryz.func111 rfl (by kernel_rfl) rfl ?_;intro Γ hΓ
 (repeat first|refine aU rfl ?_)
 (refine pW rfl ?_ rfl (by rfl);refine Da rfl rfl ?_)
 (refine Ai rfl ?_;refine Bs (fun _ _=>C0 rfl rfl rfl) rfl ?_)
 (repeat first|refine tM rfl ?_ |refine sP rfl (Nl l hs hl) rfl ?_|refine sP rfl (Fz l) rfl ?_ |refine aU rfl ?_ |refine Aa ?_)
 (refine aC rfl ?_ ?_<;>rintro⟨⟩)
 (repeat first|refine tA rfl ?_|(refine Ai rfl ?_;refine gA rfl ?_;first| refine gS (fun _ _=>AQ rfl rfl (by rfl) (by rfl)) ?_) |refine aU rfl ?_ |refine Aa ?_)
 refine Au.freeze [0,1] [(4,.o (.ip [.p (Bh a)])),(5,.o (.ip (Bh p))),(8,.o (.ip (GN l))),(9,eI .i64 (Bq l))] ⟨⟨_,rfl,.o (.ptr (by simp) rfl rfl (by rw [hae];rfl))⟩,⟨_,rfl,.AE⟩,⟨_,rfl,.o (.ptr (by simp) rfl rfl rfl)⟩,⟨_,rfl,.AE⟩,trivial⟩ ?_
 refine R.NR [(0,2),(1,2),(2,2),(3,2),(4,2),(5,2),(6,3),(7,3),(8,5),(9,5)] mixed (by kernel_rfl) rfl (by kernel_rfl) ?_
 (repeat ((refine R.Ai rfl ?_;first|(refine R.yQ (md:=false) rfl rfl rfl ?_ ?_;exact tI) |refine R.yP rfl rfl rfl rfl ?_ |refine R.yA rfl rfl rfl rfl ?_|refine R.Bs (fun _ _ _=>AO rfl rfl rfl (Fj a ha) rfl) rfl rfl ?_|refine R.Bs (fun _ _ _=>AO rfl rfl rfl (Fj p hp) rfl) rfl rfl ?_ )))
 refine R.NM ?_
 refine aS ?_
 refine Au.freeze [2,3] [(4,.o (.ip [.p (Bh a)])),(5,.o (.ip (Bh p))),(8,.o (.ip (GN l))),(9,eI .i64 (Bq l)),(10,.o (.ip [.l (GV a)])),(11,.o (.ip [.l (GV p)]))] ⟨⟨_,rfl,.AE⟩,⟨_,rfl,.AE⟩,⟨_,rfl,.AE⟩,⟨_,rfl,.AE⟩,⟨_,rfl,.o (.ptr (by simp) rfl rfl rfl)⟩,⟨_,rfl,.o (.ptr (by simp) rfl rfl rfl)⟩,trivial⟩ ?_
 refine R.NR [(0,2),(1,2),(2,2),(3,2),(4,3),(5,3),(6,5),(7,5)] mixed (by kernel_rfl) rfl (by kernel_rfl) ?_
 (repeat ((refine R.Ai rfl ?_;first|(refine R.yQ (md:=false) rfl rfl rfl ?_ ?_;exact tI) |refine R.yP rfl rfl rfl rfl ?_ |refine R.yA rfl rfl rfl rfl ?_ )))
 refine R.NM ?_
 refine aS ?_
 simp only [VB]
 refine Au.freeze [4,5] [(4,.o (.ip [.p (Bh a)])),(5,.o (.ip (Bh p))),(8,.o (.ip (GN l))),(9,eI .i64 (Bq l)),(10,.o (.ip [.l (GV a)])),(11,.o (.ip [.l (GV p)])),(12,.o (.ip [iD a.nx.length])),(13,.o (.ip [iD p.nx.length]))] ⟨⟨_,rfl,.AE⟩,⟨_,rfl,.AE⟩,⟨_,rfl,.AE⟩,⟨_,rfl,.AE⟩,⟨_,rfl,.AE⟩,⟨_,rfl,.AE⟩,⟨_,rfl,.o (.ptr (by simp) rfl rfl rfl)⟩,⟨_,rfl,.o (.ptr (by simp) rfl rfl rfl)⟩,trivial⟩ ?_
 (repeat first|refine tA rfl ?_ |refine aU rfl ?_ |refine Aa ?_)
 refine rG (IZ []) (by kernel_rfl) ?_
 (repeat first|(refine sA rfl ?_ ?_;first|exact tI|omega) |refine sP rfl (Y7 l hs hl) rfl ?_|refine sP rfl (CN _) rfl ?_|refine sP rfl (hfp) rfl ?_ |refine Aa ?_)
 refine aR ⟨_,rfl,rfl⟩
end Go.Am
namespace Go.Am
open Go
theorem Hn{g g':Gr}(hg:IQ g)(hls:g.ls=g'.ls)(hs:∀x:Int,0≤x∧x < g.N→∀l∈g.ls,g.succ x l=g'.succ x l):∀ {w:List Int} {a x:Int},over g w→(0≤a∧a < g.N)→(reach g w a x↔reach g' w a x)
 | [],a,x,_,_=>Iff.rfl
 | l :: w,a,x,ho,ha=>by
  have hl:=ho l (by simp)
  simp only [reach,←hs a ha l hl]
  constructor
  ·rintro⟨y,hy,h⟩
   exact⟨y,hy,(Hn hg hls hs (fun m hm=>ho m (by simp [hm])) (hg.inn a ha l hl y hy)).1 h⟩
  ·rintro⟨y,hy,h⟩
   exact⟨y,hy,(Hn hg hls hs (fun m hm=>ho m (by simp [hm])) (hg.inn a ha l hl y hy)).2 h⟩
theorem Cs.congr{g g':Gr}(hg:IQ g)(hls:g.ls=g'.ls)(h0:g.s0=g'.s0)(hs:∀x:Int,0≤x∧x < g.N→∀l∈g.ls,g.succ x l=g'.succ x l)(hgo:∀x:Int,0≤x∧x < g.N→g.goal x=g'.goal x){r:Option (List Int)}(h:Cs g r):Cs g' r:=by
 have hov:∀w,over g' w↔over g w:=fun w=>by unfold over;rw [hls]
 have hh:∀w,over g w→(Sv g' w↔Sv g w):=fun w hw=>by
  unfold Sv
  rw [←h0]
  constructor
  ·rintro⟨x,hx,hgx⟩
   have hx:=(Hn hg hls hs hw hg.s0).2 hx
   exact⟨x,hx,by rw [hgo x (Dz hg hw hg.s0 hx)];exact hgx⟩
  ·rintro⟨x,hx,hgx⟩
   exact⟨x,(Hn hg hls hs hw hg.s0).1 hx,by rw [←hgo x (Dz hg hw hg.s0 hx)];exact hgx⟩
 cases r with
 | none=>exact fun u hu hx=>h u ((hov u).1 hu) ((hh u ((hov u).1 hu)).1 hx)
 | some w=>
  obtain⟨h1,h2,h3⟩:=h
  exact⟨(hov w).2 h1,(hh w h1).2 h2,fun u hu hx=>h3 u ((hov u).1 hu) ((hh u ((hov u).1 hu)).1 hx)⟩
theorem cv{zs ws:List Int}{cs ds:List (List Int)}(h:Ft zs cs):En (zs++ws) (cs++ds)=(En zs cs).flatMap fun o=>(En ws ds).map fun r=>o*Av ws+r:=by
 induction h with
 | nil=>simp [En]
 | @cons z c zs cs _ _ _ ih=>
  simp only [List.cons_append,En,ih]
  rw [List.flatMap_assoc]
  congr 1
  funext q
  rw [List.map_flatMap,List.flatMap_map]
  congr 1
  funext o
  rw [List.map_map]
  congr 1
  funext r
  simp only [Function.comp_def,MB]
  rw [Int.add_mul,Int.mul_assoc];omega
theorem Vo(l:List Sys)(aus:List AU)(st:List Int)(ls kd gl:Int):Ae ⟨l,aus,st,ls,kd,gl⟩=l.map (·.st)++aus.map (fun a=>(a.nx.length:Int)):=rfl
theorem Li{l:List Sys}{aus:List AU}{st:List Int}{ls kd gl:Int}(hn:DL ⟨l,aus,st,ls,kd,gl⟩){node letter:Int}(h0:0≤letter)(h1:letter < 6) :
 Ff ⟨l,aus,st,ls,kd,gl⟩ (Ae ⟨l,aus,st,ls,kd,gl⟩) (BA (Ae ⟨l,aus,st,ls,kd,gl⟩) node) letter =
  (En (l.map (·.st)) (Zu l (node / Av (aus.map fun a=>(a.nx.length:Int))) letter)).flatMap fun o=>(En (aus.map fun a=>(a.nx.length:Int)) (aus.zipWith (fun a q=>[Cy a q.toNat letter]) (BA (aus.map fun a=>(a.nx.length:Int)) node))).map fun r=>o*Av (aus.map fun a=>(a.nx.length:Int))+r:=by
 have hp:∀w∈aus.map (fun a=>(a.nx.length:Int)),0 < w:=fun w hw=>by
  obtain⟨a,ha,rfl⟩:=List.mem_map.1 hw
  have:=AG (hn.au a ha);omega
 unfold Ff
 rw [Rn (Ic hn (KN hn node) h0 h1),Vo,OG _ _ _ hp]
 have hch:=Sm hn.ps hn.np h0 h1 (node / Av (aus.map fun a=>(a.nx.length:Int)))
 have e:Ke ⟨l,aus,st,ls,kd,gl⟩ (BA (l.map (·.st)) (node / Av (aus.map fun a=>(a.nx.length:Int)))++BA (aus.map fun a=>(a.nx.length:Int)) node) letter=Zu l (node / Av (aus.map fun a=>(a.nx.length:Int))) letter++aus.zipWith (fun a q=>[Cy a q.toNat letter]) (BA (aus.map fun a=>(a.nx.length:Int)) node):=by
  unfold Ke Zu
  have hl:(BA (l.map (·.st)) (node / Av (aus.map fun a=>(a.nx.length:Int)))).length=l.length:=by rw [KM];simp
  simp only
  rw [List.drop_append_of_le_length (by omega),List.drop_of_length_le (by omega),List.nil_append]
  congr 1
  rw [Gh,List.take_append_of_le_length (by omega),List.take_of_length_le (by omega)]
 rw [e,cv hch]
theorem Mh:∀(zs:List Int) (k:Nat),Dq zs (List.replicate k 0) 0=0
 | [],k=>by simp [Dq]
 | z::zs,0=>by simp [Dq]
 | z::zs,k+1=>by
  rw [List.replicate_succ]
  simp only [Dq,Int.zero_mul,Int.add_zero]
  exact Mh zs k
theorem Uo{a:Int}(ha:A4 a=true):GZ .i64 0 a=a∧GZ .i64 a 0=a:=by
 unfold A4 at ha
 simp only [decide_eq_true_eq] at ha
 have h1:=KZ (a:=0) (b:=a.toNat) (by omega) (by omega)
 have h2:=KZ (a:=a.toNat) (b:=0) (by omega) (by omega)
 have e1:((a.toNat:Nat):Int)=a:=by omega
 rw [e1] at h1 h2
 have h3:(((0:Nat)):Int)=0:=rfl
 rw [h3] at h1 h2
 rw [Nat.zero_or] at h1
 rw [Nat.or_zero] at h2
 exact⟨by rw [h1.1];exact e1,by rw [h2.1];exact e1⟩
theorem WT{l:List Sys}(h:A5 l=true):A4 (Bq l)=true:=by
 unfold Bq
 rw [if_pos h]
 unfold A5 at h
 rw [Bool.and_eq_true] at h
 exact Je h.2 rfl
theorem cO{s:Sys}{a p:AU}(h:Dl s a p=true):DV (gI [s] a p (Ac (GZ .i64 (Bq [s]) a.al)))=DV (Ex (Ep s a p)):=by
 obtain⟨hn,hk,hst⟩:=Oc h
 have hv:=h
 unfold Dl at hv
 simp only [Bool.and_eq_true] at hv
 obtain⟨⟨hs,ha⟩,hp⟩:=hv
 have han:=Cf ha
 have hpn:=Cf hp
 have hpal:Bq [s]=s.al:=by
  have:A5 [s]=true:=by simp [A5,hs]
  unfold Bq
  rw [if_pos this]
  exact(Uo (AM hs).1).1
 refine TP (Cs.congr (OP hn hst) ?_ ?_ (fun x hx l hl=>?_) (fun x hx=>?_) (Du _))
 ·show Ac (GZ .i64 s.al a.al)=Ac (GZ .i64 (Bq [s]) a.al)
  rw [hpal]
 ·exact Mh (Ae (Ep s a p)) 3
 ·have hl:=Ak (show l∈AI (GZ .i64 s.al a.al) 6 from hl)
  show Ff (Ep s a p) (Ae (Ep s a p)) (BA (Ae (Ep s a p)) x) l=Jl [s] a p x l
  have e:=Li (l:=[s]) (aus:=[a,p]) (st:=[0,0,0]) (ls:=GZ .i64 s.al a.al) (kd:=2) (gl:=0) hn (node:=x) hl.1 (by omega)
  refine Eq.trans e ?_
  unfold Jl FJ
  simp only [List.map_cons,List.map_nil,Av,Int.mul_one,BA,List.zipWith_cons_cons,List.zipWith_nil_left,En,List.flatMap_cons,List.flatMap_nil,List.append_nil,Int.ediv_one,Int.add_zero]
  have hdd:x / p.nx.length / a.nx.length=x / (a.nx.length*p.nx.length):=by rw [Int.ediv_ediv_of_nonneg (by omega),Int.mul_comm]
  rw [hdd,List.map_eq_flatMap]
  congr 1
  funext o
  rw [Int.mul_assoc]
 ·show CI (Ep s a p) (BA (Ae (Ep s a p)) x) (Fg (Ep s a p) x.toNat)=Nd a p x
  unfold CI ZY Nd
  simp [Ep,Ae,BA,Av,List.getD]
theorem cM{l:List Sys}{p:AU}(h:(A5 l && AN p)=true):DV (gI l NI p (Ac (GZ .i64 (Bq l) NI.al)))=DV (Ex (CS l p)):=by
 obtain⟨hn,hk,hst⟩:=Ob h
 rw [Bool.and_eq_true] at h
 obtain⟨hl,hp⟩:=h
 have hpn:=Cf hp
 refine TP (Cs.congr (OP hn hst) ?_ ?_ (fun x hx m hm=>?_) (fun x hx=>?_) (Du _))
 ·show Ac (Bq l)=Ac (GZ .i64 (Bq l) 0)
  rw [(Uo (WT hl)).2]
 ·exact Mh (Ae (CS l p)) (l.length+1)
 ·have hm:=Ak (show m∈AI (Bq l) 6 from hm)
  show Ff (CS l p) (Ae (CS l p)) (BA (Ae (CS l p)) x) m=Jl l NI p x m
  have e:=Li (l:=l) (aus:=[p]) (st:=List.replicate (l.length+1) 0) (ls:=Bq l) (kd:=3) (gl:=0) hn (node:=x) hm.1 (by omega)
  refine Eq.trans e ?_
  have hg0:∀q:Nat,Cy NI q m=q:=fun q=>by
   have:A0 0 m.toNat=false:=by
    have h1:m=0∨m=1∨m=2∨m=3∨m=4∨m=5:=by omega
    rcases h1 with rfl|rfl|rfl|rfl|rfl|rfl<;>decide
   unfold Cy
   rw [if_neg]
   show ¬A0 0 m.toNat=true
   rw [this];simp
  have hn1:((NI.nx.length:Nat):Int)=1:=rfl
  unfold Jl FJ
  rw [hg0,hn1]
  simp only [List.map_cons,List.map_nil,Av,Int.mul_one,BA,List.zipWith_cons_cons,List.zipWith_nil_left,En,List.flatMap_cons,List.flatMap_nil,List.append_nil,Int.ediv_one,Int.add_zero,Int.emod_one]
  generalize En (l.map (·.st)) (Zu l (x / p.nx.length) m)=LL
  rw [List.map_eq_flatMap]
  congr 1
  funext o
  simp
 ·show CI (CS l p) (BA (Ae (CS l p)) x) (Fg (CS l p) x.toNat)=Nd NI p x
  have hn1:((NI.nx.length:Nat):Int)=1:=rfl
  have hd:=OG (l.map (·.st)) [(p.nx.length:Int)] x (by intro w hw;simp at hw;omega)
  have hz:Ae (CS l p)=l.map (·.st)++[(p.nx.length:Int)]:=rfl
  have hlen:(BA (l.map (·.st)) (x / Av [(p.nx.length:Int)])).length=l.length:=by rw [KM];simp
  rw [hz,hd]
  generalize BA (l.map (·.st)) (x / Av [(p.nx.length:Int)])=dd at hlen
  have hg:(dd++BA [(p.nx.length:Int)] x).getD (l.length+0) 0=x % p.nx.length:=by
   rw [List.getD,Nat.add_zero,List.getElem?_append_right (by omega),hlen]
   simp [BA,Av]
  unfold CI ZY Nd
  rw [hn1]
  have e3:(CS l p).kd=3:=rfl
  have e4:(CS l p).ps=l:=rfl
  have e5:(CS l p).au=[p]:=rfl
  rw [e3,e4,e5,hg]
  simp [NI,List.getD]
end Go.Am
namespace Go.Am
open Go Go.Proofs
set_option maxHeartbeats 1000000
attribute [local irreducible] AS BT Lex Bc Au Spec
variable {TB:Bt}
theorem E5[Df TB](l:List Sys)(p:AU):Pure Tryz.prog TB 65 [Gx l,Bp p] (KO (BJ l p)):=by
 by_cases hv:(A5 l && AN p)=true
 ·have hvp:BJ l p=DV (Ex (CS l p)):=by unfold BJ;rw [if_pos hv]
  rw [hvp,←cM hv]
  rw [Bool.and_eq_true] at hv
  have hf:=NL (TB:=TB) l p hv.1 hv.2
  refine eN Tryz.func65 rfl (by kernel_rfl) rfl ?_;intro Γ hΓ
  (repeat' first |refine sN rfl ?_ |((first|refine sA rfl ?_ ?_|refine s4 rfl ‹_› rfl ?_ ?_);first|exact tI|omega|simp only[oZ] at *;omega) |refine s2 rfl fun _ _hb=>?_ |(refine sC rfl (IT l) ?_;intro _ _hb)|(refine sC rfl (Be p) ?_;intro _ _hb)|refine sP rfl (hf) rfl ?_ |refine s3 rfl ?_ ?_<;>rintro rfl |refine aU rfl ?_ |refine Aa ?_ |refine rE (by kernel_rfl) ?_|(refine aC rfl ?_ ?_<;>rintro⟨⟩)|refine aK ?_|refine aE ?_|refine aB ?_|refine aR ⟨_,rfl,?_⟩)
  all_goals first
   | rfl
   | (exfalso;grind;done)
 ·have hvp:BJ l p=none:=by unfold BJ;rw [if_neg hv]
  rw [hvp]
  refine eN Tryz.func65 rfl (by kernel_rfl) rfl ?_;intro Γ hΓ
  (repeat' first |refine sN rfl ?_ |((first|refine sA rfl ?_ ?_|refine s4 rfl ‹_› rfl ?_ ?_);first|exact tI|omega|simp only[oZ] at *;omega) |refine s2 rfl fun _ _hb=>?_ |(refine sC rfl (IT l) ?_;intro _ _hb)|(refine sC rfl (Be p) ?_;intro _ _hb) |refine s3 rfl ?_ ?_<;>rintro rfl |refine aU rfl ?_ |refine Aa ?_ |refine rE (by kernel_rfl) ?_|(refine aC rfl ?_ ?_<;>rintro⟨⟩)|refine aK ?_|refine aE ?_|refine aB ?_|refine aR ⟨_,rfl,?_⟩)
  all_goals first
   | rfl
   | (exfalso;grind;done)
theorem II[Df TB](s:Sys)(a p:AU):Pure Tryz.prog TB 62 [Bv s,Bp a,Bp p] (KO (DN s a p)):=by
 by_cases hv:Dl s a p=true
 ·have hvp:DN s a p=DV (Ex (Ep s a p)):=by unfold DN;rw [if_pos hv]
  rw [hvp,←cO hv]
  unfold Dl at hv
  simp only [Bool.and_eq_true] at hv
  have hf:=OM (TB:=TB) [s] a p (by simp [A5,hv.1.1]) hv.1.2 hv.2
  refine eN Tryz.func62 rfl (by kernel_rfl) rfl ?_;intro Γ hΓ
  (repeat' first |refine sN rfl ?_ |((first|refine sA rfl ?_ ?_|refine s4 rfl ‹_› rfl ?_ ?_);first|exact tI|omega|simp only[oZ] at *;omega) |refine s2 rfl fun _ _hb=>?_ |(refine sC rfl (BX s) ?_;intro _ _hb)|(refine sC rfl (Be a) ?_;intro _ _hb)|(refine sC rfl (Be p) ?_;intro _ _hb)|refine sP rfl (hf) rfl ?_ |refine s3 rfl ?_ ?_<;>rintro rfl |refine aU rfl ?_ |refine Aa ?_ |refine rE (by kernel_rfl) ?_|(refine aC rfl ?_ ?_<;>rintro⟨⟩)|refine aK ?_|refine aE ?_|refine aB ?_|refine aR ⟨_,rfl,?_⟩)
  all_goals first
   | rfl
   | (exfalso;grind;done)
 ·have hvp:DN s a p=none:=by unfold DN;rw [if_neg hv]
  rw [hvp]
  refine eN Tryz.func62 rfl (by kernel_rfl) rfl ?_;intro Γ hΓ
  (repeat' first |refine sN rfl ?_ |((first|refine sA rfl ?_ ?_|refine s4 rfl ‹_› rfl ?_ ?_);first|exact tI|omega|simp only[oZ] at *;omega) |refine s2 rfl fun _ _hb=>?_ |(refine sC rfl (BX s) ?_;intro _ _hb)|(refine sC rfl (Be a) ?_;intro _ _hb)|(refine sC rfl (Be p) ?_;intro _ _hb) |refine s3 rfl ?_ ?_<;>rintro rfl |refine aU rfl ?_ |refine Aa ?_ |refine rE (by kernel_rfl) ?_|(refine aC rfl ?_ ?_<;>rintro⟨⟩)|refine aK ?_|refine aE ?_|refine aB ?_|refine aR ⟨_,rfl,?_⟩)
  all_goals first
   | rfl
   | (exfalso;unfold Dl at hv;grind;done)
theorem Kh(s:Sys)(p:AU)(t:Sys):Pure Tryz.prog TB 13 [Bv s,Bp p,Bv t] (eI .i64 (AL s p t)):=by
 refine eN Tryz.func13 rfl (by kernel_rfl) rfl ?_;intro Γ hΓ
 (repeat' first |refine sN rfl ?_ |((first|refine sA rfl ?_ ?_|refine s4 rfl ‹_› rfl ?_ ?_);first|exact tI|omega|simp only[oZ] at *;omega) |refine s2 rfl fun _ _hb=>?_ |(refine sC rfl (BX s) ?_;intro _ _hb)|(refine sC rfl (Be p) ?_;intro _ _hb)|(refine sC rfl (BX t) ?_;intro _ _hb) |refine s3 rfl ?_ ?_<;>rintro rfl |refine aU rfl ?_ |refine Aa ?_ |refine rE (by kernel_rfl) ?_|(refine aC rfl ?_ ?_<;>rintro⟨⟩)|refine aK ?_|refine aE ?_|refine aB ?_|refine aR ⟨_,rfl,?_⟩)
 all_goals (show E.o _=E.o _;congr;unfold AL;grind)
def P7(n:Nat)(left:Int):Int:=if left - n < 0 then -1 else left - n
def FV:List (List Int)→Int→Int
 | [],left=>left
 | r::l,left=>if P7 r.length left < 0 then -1 else FV l (P7 r.length left)
def NU(l:List (List Int))(left:Int):Int:=if left - l.length < 0 then -1 else FV l (left - l.length)
def ju(a:AU)(left:Int):Int:=if NU a.nx left < 0 then -1 else if P7 a.ac.length (NU a.nx left) < 0 then -1 else P7 a.ac.length (NU a.nx left)
theorem MM{n:Nat}{left:Int}(h:0≤left) : -1≤P7 n left∧P7 n left≤left∧(0≤P7 n left→(n:Int)≤left):=by unfold P7;split<;>omega
theorem RM:∀(l:List (List Int)) {left:Int},0≤left→-1≤FV l left∧FV l left≤left∧(0≤FV l left→∀r∈l,(r.length:Int)≤left)
 | [],left,h=>⟨by simp [FV];omega,by simp [FV],fun _ r hr=>by cases hr⟩
 | r :: l,left,h=>by
  have h1:=MM (n:=r.length) h
  unfold FV
  split
  ·exact⟨by omega,by omega,fun h2=>by omega⟩
  ·have h2:=RM l (left:=P7 r.length left) (by omega)
   refine⟨h2.1,by omega,fun h3 x hx=>?_⟩
   rcases List.mem_cons.1 hx with rfl|hx
   ·exact h1.2.2 (by omega)
   ·have:=h2.2.2 h3 x hx;omega
theorem Zc{l:List (List Int)}{left:Int}(h:0≤left) : -1≤NU l left∧NU l left≤left∧(0≤NU l left→(l.length:Int)≤left∧∀r∈l,(r.length:Int)≤left):=by
 unfold NU
 split
 ·omega
 ·have h2:=RM l (left:=left - l.length) (by omega)
  exact⟨h2.1,by omega,fun h3=>⟨by omega,fun r hr=>by have:=h2.2.2 h3 r hr;omega⟩⟩
theorem jv{a:AU}{left:Int}(h:0≤left) : -1≤ju a left∧ju a left≤left∧(0≤ju a left→(a.nx.length:Int)≤left∧(a.ac.length:Int)≤left∧∀r∈a.nx,(r.length:Int)≤left):=by
 have h1:=Zc (l:=a.nx) h
 unfold ju
 split
 ·omega
 ·have h2:=MM (n:=a.ac.length) (left:=NU a.nx left) (by omega)
  split
  ·omega
  ·exact⟨h2.1,by omega,fun h3=>⟨(h1.2.2 (by omega)).1,by have:=h2.2.2 h3;omega,(h1.2.2 (by omega)).2⟩⟩
theorem aI(l:List Int)(left:Int)(h0:0≤left)(h1:left≤1048576):Pure Tryz.prog TB 85 [Ag l,eI .i64 left] (eI .i64 (P7 l.length left)):=by
 refine eN Tryz.func85 rfl (by kernel_rfl) rfl ?_;intro Γ hΓ
 refine Au.bound 0 rfl fun hB0=>?_
 have hB:=hB0 (l.map Bm) .refl
 (repeat' first |refine sN rfl ?_ |((first|refine sA rfl ?_ ?_|refine s4 rfl ‹_› rfl ?_ ?_);first|exact tI|omega|simp only[oZ] at *;omega) |refine s2 rfl fun _ _hb=>?_ |refine s3 rfl ?_ ?_<;>rintro rfl |refine aU rfl ?_ |refine Aa ?_ |refine rE (by kernel_rfl) ?_|(refine aC rfl ?_ ?_<;>rintro⟨⟩)|refine aK ?_|refine aE ?_|refine aB ?_|refine aR ⟨_,rfl,?_⟩)
 all_goals (show E.o _=E.o _;congr;unfold P7;simp only [List.length_map] at *;grind)
theorem Xn(l:List Bool)(left:Int)(h0:0≤left)(h1:left≤1048576):Pure Tryz.prog TB 43 [EG l,eI .i64 left] (eI .i64 (P7 l.length left)):=by
 refine eN Tryz.func43 rfl (by kernel_rfl) rfl ?_;intro Γ hΓ
 refine Au.bound 0 rfl fun hB0=>?_
 have hB:=hB0 (l.map Ib) .refl
 (repeat' first |refine sN rfl ?_ |((first|refine sA rfl ?_ ?_|refine s4 rfl ‹_› rfl ?_ ?_);first|exact tI|omega|simp only[oZ] at *;omega) |refine s2 rfl fun _ _hb=>?_ |refine s3 rfl ?_ ?_<;>rintro rfl |refine aU rfl ?_ |refine Aa ?_ |refine rE (by kernel_rfl) ?_|(refine aC rfl ?_ ?_<;>rintro⟨⟩)|refine aK ?_|refine aE ?_|refine aB ?_|refine aR ⟨_,rfl,?_⟩)
 all_goals (show E.o _=E.o _;congr;unfold P7;simp only [List.length_map] at *;grind)
theorem Xo(l:List ET)(left:Int)(h0:0≤left)(h1:left≤1048576):Pure Tryz.prog TB 41 [HE l,eI .i64 left] (eI .i64 (P7 l.length left)):=by
 refine eN Tryz.func41 rfl (by kernel_rfl) rfl ?_;intro Γ hΓ
 refine Au.bound 0 rfl fun hB0=>?_
 have hB:=hB0 (l.map C9) .refl
 (repeat' first |refine sN rfl ?_ |((first|refine sA rfl ?_ ?_|refine s4 rfl ‹_› rfl ?_ ?_);first|exact tI|omega|simp only[oZ] at *;omega) |refine s2 rfl fun _ _hb=>?_ |refine s3 rfl ?_ ?_<;>rintro rfl |refine aU rfl ?_ |refine Aa ?_ |refine rE (by kernel_rfl) ?_|(refine aC rfl ?_ ?_<;>rintro⟨⟩)|refine aK ?_|refine aE ?_|refine aB ?_|refine aR ⟨_,rfl,?_⟩)
 all_goals (show E.o _=E.o _;congr;unfold P7;simp only [List.length_map] at *;grind)
theorem Nv(s:Sys)(left:Int)(h0:0≤left)(h1:left≤1048576):Pure Tryz.prog TB 14 [Bv s,eI .i64 left] (eI .i64 (P7 s.es.length left)):=by
 have h2:=MM (n:=s.es.length) h0
 refine eN Tryz.func14 rfl (by kernel_rfl) rfl ?_;intro Γ hΓ
 (repeat' first |refine sN rfl ?_ |((first|refine sA rfl ?_ ?_|refine s4 rfl ‹_› rfl ?_ ?_);first|exact tI|omega|simp only[oZ] at *;omega) |refine s2 rfl fun _ _hb=>?_ |refine sP rfl (Xo s.es left h0 h1) rfl ?_ |refine s3 rfl ?_ ?_<;>rintro rfl |refine aU rfl ?_ |refine Aa ?_ |refine rE (by kernel_rfl) ?_|(refine aC rfl ?_ ?_<;>rintro⟨⟩)|refine aK ?_|refine aE ?_|refine aB ?_|refine aR ⟨_,rfl,?_⟩)
 all_goals (show E.o _=E.o _;first|rfl|(congr;omega)|(congr;first|omega|simp only[oZ] at *;omega))
theorem Xp(l:List (List Int))(left:Int)(h0:0≤left)(h1:left≤1048576):Pure Tryz.prog TB 42 [Cm l,eI .i64 left] (eI .i64 (NU l left)):=by
 refine eN Tryz.func42 rfl (by kernel_rfl) rfl ?_;intro Γ hΓ
 refine Au.bound 0 rfl fun hB0=>?_
 have hB:=hB0 (l.map Dw) .refl
 (repeat' first |refine sN rfl ?_ |((first|refine sA rfl ?_ ?_|refine s4 rfl ‹_› rfl ?_ ?_);first|exact tI|omega|simp only[oZ] at *;omega) |refine s2 rfl fun _ _hb=>?_ |refine s3 rfl ?_ ?_<;>rintro rfl |refine aU rfl ?_ |refine Aa ?_ |refine rE (by kernel_rfl) ?_|(refine aC rfl ?_ ?_<;>rintro⟨⟩)|refine aK ?_|refine aE ?_|refine aB ?_|refine aR ⟨_,rfl,?_⟩)
 ·show E.o _=E.o _;congr;unfold NU;rw [if_pos (by first|omega|simp only[oZ] at *;omega)]
 have hle:0≤left - l.length:=by first|omega|simp only[oZ] at *;omega
 refine Au.AP (α:={x:Nat×Int // x.1≤l.length∧0≤x.2∧x.2≤1048576∧FV l (left - l.length)=FV (l.drop x.1) x.2}) (fun ⟨⟨k,c⟩,hP⟩=>[(0,Cm l),(1,eI .i64 c),(5,eI .i64 k)]) (fun ⟨⟨k,c⟩,hP⟩=>[]) 0 (fun ⟨⟨k,c⟩,hP⟩=>l.length - k) (⟨(0,left - l.length),by simp;omega⟩) [] (Di hΓ rfl rfl) (by ((repeat' first|exact tI|rfl|refine And.intro ?_ ?_)<;>(simp[cX,zC,hΓ]))) ?_;rintro⟨⟨k,c⟩,hP⟩;(try dsimp only)
 obtain⟨hk,hc0,hc1,ha⟩:=hP
 simp only at hk hc0 hc1 ha
 (repeat first |refine sN rfl ?_ |((first|refine sA rfl ?_ ?_|refine s4 rfl ‹_› rfl ?_ ?_);first|exact tI|omega|simp only[oZ] at *;omega) |refine s2 rfl fun _ _hb=>?_ |refine s3 rfl ?_ ?_<;>rintro rfl |refine aU rfl ?_ |refine Aa ?_ |refine rE (by kernel_rfl) ?_)
 (refine aC rfl ?_ ?_<;>rintro⟨⟩)
 ·obtain⟨x,hx⟩:=get_some (l:=l) (k:=k) (by first|omega|simp only[oZ] at *;omega)
  have hx':=get_map (g:=Dw) hx
  have h3:=MM (n:=x.length) hc0
  rw [Bo hx,FV] at ha
  (repeat' first |refine sN rfl ?_ |((first|refine sA rfl ?_ ?_|refine s4 rfl ‹_› rfl ?_ ?_);first|exact tI|omega|simp only[oZ] at *;omega) |refine s2 rfl fun _ _hb=>?_ |refine sP rfl (aI x c hc0 hc1) rfl ?_ |refine s3 rfl ?_ ?_<;>rintro rfl |refine aU rfl ?_ |refine Aa ?_ |refine rE (by kernel_rfl) ?_|(refine aC rfl ?_ ?_<;>rintro⟨⟩)|refine aK ?_|refine aE ?_|refine aB ?_|refine aR ⟨_,rfl,?_⟩)
  ·rw [if_pos (by first|omega|simp only[oZ] at *;omega)] at ha
   show E.o _=E.o _;congr;unfold NU;rw [if_neg (by omega),ha]
  ·rw [if_neg (by first|omega|simp only[oZ] at *;omega)] at ha
   refine⟨⟨(k+1,P7 x.length c),by first|omega|simp only[oZ] at *;omega,by first|omega|simp only[oZ] at *;omega,by omega,ha⟩,by dsimp only;first|omega|simp only[oZ] at *;omega,[],?_⟩
   simp[cX,zC,hΓ]
 ·(repeat' first |refine sN rfl ?_ |((first|refine sA rfl ?_ ?_|refine s4 rfl ‹_› rfl ?_ ?_);first|exact tI|omega|simp only[oZ] at *;omega) |refine s2 rfl fun _ _hb=>?_ |refine s3 rfl ?_ ?_<;>rintro rfl |refine aU rfl ?_ |refine Aa ?_ |refine rE (by kernel_rfl) ?_|(refine aC rfl ?_ ?_<;>rintro⟨⟩)|refine aK ?_|refine aE ?_|refine aB ?_|refine aR ⟨_,rfl,?_⟩)
  rw [List.drop_of_length_le (by first|omega|simp only[oZ] at *;omega),FV] at ha
  show E.o _=E.o _;congr;unfold NU;rw [if_neg (by omega),ha]
theorem PK(a:AU)(left:Int)(h0:0≤left)(h1:left≤1048576):Pure Tryz.prog TB 15 [Bp a,eI .i64 left] (eI .i64 (ju a left)):=by
 have h2:=Zc (l:=a.nx) h0
 refine eN Tryz.func15 rfl (by kernel_rfl) rfl ?_;intro Γ hΓ
 (repeat' first |refine sN rfl ?_ |((first|refine sA rfl ?_ ?_|refine s4 rfl ‹_› rfl ?_ ?_);first|exact tI|omega|simp only[oZ] at *;omega) |refine s2 rfl fun _ _hb=>?_ |refine sP rfl (Xp a.nx left h0 h1) rfl ?_|refine sP rfl (Xn a.ac _ (by first|omega|simp only[oZ] at *;omega) (by first|omega|simp only[oZ] at *;omega)) rfl ?_ |refine s3 rfl ?_ ?_<;>rintro rfl |refine aU rfl ?_ |refine Aa ?_ |refine rE (by kernel_rfl) ?_|(refine aC rfl ?_ ?_<;>rintro⟨⟩)|refine aK ?_|refine aE ?_|refine aB ?_|refine aR ⟨_,rfl,?_⟩)
 all_goals (show E.o _=E.o _;congr;unfold ju;grind)
end Go.Am
