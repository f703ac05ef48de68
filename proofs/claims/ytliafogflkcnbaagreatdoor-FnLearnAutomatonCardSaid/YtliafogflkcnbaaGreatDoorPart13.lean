/-
  The program's search, the walk.
-/
import Derived.Test.YtliafogflkcnbaaGreatDoorPart12
import Derived.Test.YtliafogflkcnbaaGreatDoorPart9
import Derived.Test.YtliafogflkcnbaaGreatDoorPart6
set_option linter.constructorNameAsVariable false
set_option linter.unusedSectionVars false
set_option linter.unusedSimpArgs false
set_option linter.unusedVariables false
namespace Go.Am
open Go Go.Proofs
set_option maxHeartbeats 1000000
attribute [local irreducible] AY B2 Lex Bq Ak Spec
variable {TB:Bu}
theorem Vv{P:Program}{Γ:Ctx}{d:Option Tmp}{ty:TypeId}{pos:String}{af:Array Edge}{g:Option (Nat×Bool)}{f:Env}{σ:Ab}{nx:Nat}{K:E→Ab→Nat→Prop}{T:TypeId}(k e:Nat)[hz:BF P T [.slice none 0 0]]
 (hK:K (.o (.ptr (nx+1) 1 0 0)) ((nx+1,.cells T 1 [[.arr nx k 0 0]])::(nx,.cells e k [])::σ) (nx+2)):B2 P TB Γ ⟨d,.alloc T,ty,pos,af,g⟩ f σ nx K:=
 CQ fun V ρ h1 h2 h3=>by
  subst h3
  obtain⟨i,zv,hi,hzv,hzz⟩:=GU hz.out
  have hzc:zv.cells = #[.slice none 0 0]:=by have:=congrArg List.toArray hzz;simpa using this
  obtain⟨hi2,he2⟩:=h2.alloc (c:=0) (nl:=True) (w:=V.w) (ob:=.cells e k []) rfl rfl rfl rfl (Nat.le_refl _) (fun _ _=>rfl) (.inl ⟨by simp [Av],rfl⟩)
  have hc:Cu (Av V V.w.heap.size 0 True V.w) [.arr V.nx k 0 0] zv.cells:=by
   rw [hzc]
   refine⟨rfl,fun j c v hj hv=>?_⟩
   match j with
   | 0=>simp at hj hv;subst hj hv;exact AE.nil (by simp [Av]) (by simp [Av])
   | j+1=>simp at hj
  obtain⟨hi',he⟩:=ND hi2 (T:=T) hc
  refine⟨.pointer (some ⟨V.w.heap.size,0,none⟩),_,_,_,?_,he2.trans he,hi',?_,hK⟩
  ·simp [execOp,Instr.alloc,zeroValue,typeInfo,hi,hzv,newVar,newRow,Av,go_sem]
  ·exact KC
theorem Ni(r:Nat→Nat):∀(l m:List E),DK r (l++m)=DK r l++DK r m
 | [],m=>rfl
 | e::l,m=>by simp [DK,Ni r l m]
theorem LG(r:Nat→Nat):∀(l:List C),DK r (l.map .o)=(C.Bz r l).map .o
 | []=>rfl
 | c::l=>by simp [DK,C.Bz,E.A0,LG r l]
def Uo(P:Program)(TB:Bu)(T:TypeId)(g:Gr)(gN:FuncId)(capsN:List C):Prop:=
 ∀(node l:Int) (outs:List Int),0≤node∧node < g.N→l∈g.ls→outs.length≤1099511627776→
  Spec P TB gN [(0,.cells T 1 (outs.map AB))] 1 ([eI .i64 node,eI .i64 l,.o (.arr 0 1 0 outs.length)]++capsN.map .o) (fun x σ nx=>x=.o (.arr 1 1 0 (outs++g.succ node l).length)∧nx=2∧σ=[(1,.cells T 1 ((outs++g.succ node l).map AB))])
theorem NM{g:Gr}(hg:Gm g)(hN:g.N≤1048576)(hls:∀l∈g.ls,0≤l∧l < 6)(hll:g.ls.length≤6)(hsl:∀(node l:Int),0≤node∧node < g.N→l∈g.ls→(g.succ node l).length≤g.N)
 {gN gG:FuncId} {capsN capsG:List C} (hNx:Uo Tryz.prog TB 3 g gN capsN) (hG:∀n:Int,0≤n∧n < g.N→Pure Tryz.prog TB gG ([eI .i64 n]++capsG.map .o) (eB (g.goal n)))
 (hcG:C.CE capsG=true) (hrG:∀r,C.Bz r capsG=capsG) (hrN:∀r,C.Bz r capsN=capsN) {r:Option (List Int)} (hr:BH g r) :
 Pure Tryz.prog TB 200 [eI .i64 g.N,Ai [g.s0],Ai g.ls,.o (.fn gN capsN),.o (.fn gG capsG)] (NJ r):=by
 refine eN Tryz.func200 rfl (by kernel_rfl) rfl ?_;intro Γ hΓ
 (repeat first|refine aU rfl ?_)
 (refine pW rfl ?_ rfl (by rfl);refine Dr rfl rfl ?_)
 (repeat first|refine tM rfl ?_ |refine aU rfl ?_ |refine Aa ?_)
 (refine pW rfl ?_ rfl (by rfl);refine HM rfl rfl (by rfl) (by rfl) (Nat.le_of_ble_eq_true rfl) (by omega) (by omega) (by omega) ?_)
 iterate 4 (first|refine tM rfl ?_ |refine aU rfl ?_ |refine Aa ?_)
 (refine pW rfl ?_ rfl (by rfl);refine Vv 3 238 ?_)
 (repeat first|refine tM rfl ?_ |refine aU rfl ?_ |refine Aa ?_)
 have hv0:=RA (goal:=g.goal) (N:=g.N) (seen:=List.replicate g.N false) (nodes:=[g.s0]) (by simp) (by intro n hn;simp at hn;subst hn;exact hg.s0)
 have hvis:=PX (TB:=TB) hG hcG hrG (List.replicate g.N false) [] (-1) 0 [g.s0] (by simp) hN (by simp) (by intro n hn;simp at hn;subst hn;exact hg.s0)
 (refine pW rfl ?_ rfl (by rfl);refine AD [2,1,0,4,3] rfl rfl hvis ⟨rfl,by decide,by decide⟩ rfl (by simp[cX,zC,hΓ,DN,hrG,Aj,eC]) ?_;rintro x0 σ1 nx1 ⟨rfl,q,hq,rfl⟩ _)
 generalize hV:Om g.goal (List.replicate g.N false) [g.s0]=v at *
 obtain⟨vse,vfr,vfd⟩:=v
 simp only
 refine Aa ?_
 refine Ak.names [2,1,0,4,if q=4 then 3 else 5] [(2,Ai g.ls),(3,.o (.fn gN capsN)),(12,.o (.ptr 0 1 0 0)),(13,.o (.ptr 3 1 0 0)),(14,.o (.fn 236 [.ptr 0 1 0 0,.ptr 2 1 0 0,.ptr 3 1 0 0])),(26,eB vfd)] (DN g.N gG capsG vse 4 (Dh [] (-1) 0 vfr)) (by simp [hΓ]) (by rcases hq with ⟨rfl,rfl⟩|⟨rfl,rfl⟩<;>decide)
  (by rcases hq with ⟨rfl,rfl⟩|⟨rfl,rfl⟩<;>simp[cX,zC,hΓ,hrN,eC]) (by rcases hq with ⟨rfl,rfl⟩|⟨rfl,rfl⟩<;>simp[cX,zC,hΓ,DN,hrG,Ab.A0,BR,Gl,eC]) ?_
 (refine aC rfl ?_ ?_<;>rintro⟨⟩)
 ·-- the start is a goal
  have hgs:g.goal g.s0=true:=by
   have h1:vfr.any g.goal=true:=hv0.fd.symm
   obtain⟨x,hx,hgx⟩:=List.any_eq_true.1 h1
   have h2:=((hv0.fr x).1 hx).1
   simp at h2;subst h2;exact hgx
  have hrr:=BH.unique hr (BH.start hgs)
  subst hrr
  (repeat first|refine tM rfl ?_ |refine aU rfl ?_ |refine Aa ?_)
  refine aR ⟨_,rfl,rfl⟩
 refine aK ?_
 obtain⟨hfr,hF0⟩:=FI.init hg hv0 rfl
 simp only at hfr hF0
 rw [hfr]
 (repeat first|refine tM rfl ?_ |refine aU rfl ?_ |refine Aa ?_)
 refine aB ?_
 refine Ak.AZ (α:={x:Nat×List Bool×List Kn×List (List Int) // FI g x.2.1 x.2.2.1 x.2.2.2 x.1 0}) (fun ⟨⟨i,seen,steps,ws⟩,hF⟩=>[(2,Ai g.ls),(3,.o (.fn gN capsN)),(12,.o (.ptr 0 1 0 0)),(13,.o (.ptr 3 1 0 0)),(14,.o (.fn 236 [.ptr 0 1 0 0,.ptr 2 1 0 0,.ptr 3 1 0 0])),(15,eI .i64 i)]) (fun ⟨⟨i,seen,steps,ws⟩,hF⟩=>DN g.N gG capsG seen 4 steps) 5 (fun ⟨⟨i,seen,steps,ws⟩,hF⟩=>g.N - i) (⟨(0,vse,[⟨-1,0,[g.s0]⟩],[[]]),hF0⟩) [0,1,2,3,4] (DB hΓ rfl rfl) (by (simp[cX,zC,hΓ,DN,hrG,hrN,Dh])) ?_;rintro⟨⟨i,seen,steps,ws⟩,hF⟩;(try dsimp only)
 simp only at hF
 have hlN:=hF.bq
 (repeat first|refine tM rfl ?_ |refine s2 rfl fun _ _hb=>?_ |refine aU rfl ?_ |refine Aa ?_)
 (refine aC rfl ?_ ?_<;>rintro⟨⟩)
 ·have hi : i < steps.length:=by (simp only[oZ] at *;omega)
  obtain⟨s,hs⟩:=get_some hi
  have hs':(steps.map LU)[0+((i:Nat):Int).toNat]? = some (LU s):=GA hs
  obtain⟨wi,hwi⟩:∃wi,ws[i]? = some wi:=get_some (by rw [hF.wlen];exact hi)
  refine aK ?_
  refine aS (aB ?_)
  (repeat first|refine sN rfl ?_ |refine tM rfl ?_ |refine aU rfl ?_ |refine Aa ?_)
  refine aB ?_
  refine Ak.AZ (α:={x:Nat×List Bool×List Kn×List (List Int) // x.1≤g.ls.length∧FI g x.2.1 x.2.2.1 x.2.2.2 i x.1∧i < x.2.2.1.length}) (fun ⟨⟨j,sen2,st2,ws2⟩,hP⟩=>[(2,Ai g.ls),(3,.o (.fn gN capsN)),(12,.o (.ptr 0 1 0 0)),(13,.o (.ptr 3 1 0 0)),(14,.o (.fn 236 [.ptr 0 1 0 0,.ptr 2 1 0 0,.ptr 3 1 0 0])),(15,eI .i64 i),(33,Ai g.ls),(34,eI .i64 g.ls.length),(35,eI .i64 j)]) (fun ⟨⟨j,sen2,st2,ws2⟩,hP⟩=>DN g.N gG capsG sen2 4 st2) 5 (fun ⟨⟨j,sen2,st2,ws2⟩,hP⟩=>g.ls.length - j) (⟨(0,seen,steps,ws),by simp,hF,hi⟩) [0,1,2,3,4] (DB hΓ rfl rfl) (by (simp[cX,zC,hΓ,DN,hrG,hrN])) ?_;rintro⟨⟨j,sen2,st2,ws2⟩,hP⟩;(try dsimp only)
  clear hs hs' hwi hF hlN hi
  obtain⟨hj,hF,hi⟩:=hP
  simp only at hj hF hi
  have hlN:=hF.bq
  (repeat first|refine s2 rfl fun _ _hb=>?_ |refine aU rfl ?_ |refine Aa ?_)
  (refine aC rfl ?_ ?_<;>rintro⟨⟩)
  ·have hjl:j < g.ls.length:=by (simp only[oZ] at *;omega)
   obtain⟨l,hl⟩:=get_some (l:=g.ls) (k:=j) hjl
   have hl':=get_map (g:=Bk) hl
   have hlm:=List.mem_of_getElem? hl
   have hlb:=hls l hlm
   obtain⟨s,hs⟩:=get_some hi
   have hs':(st2.map LU)[0+((i:Nat):Int).toNat]? = some (LU s):=GA hs
   obtain⟨wi,hwi⟩:∃wi,ws2[i]? = some wi:=get_some (by rw [hF.wlen];exact hi)
   have hsin:=hF.inn s (List.mem_of_getElem? hs)
   have hsnd:=Eb _ _ (hF.nd s (List.mem_of_getElem? hs)) hsin
   refine aK ?_
   refine aS (aB ?_)
   (repeat first|refine tM rfl ?_ |(refine s4 rfl ‹_› rfl ?_ ?_;omega) |refine aU rfl ?_ |refine Aa ?_)
   (refine pW rfl ?_ rfl (by rfl);refine IB 1 3 ?_)
   (repeat first|refine sN rfl ?_ |(refine sM rfl ?_ ?_;first|exact tI|omega) |refine t4 rfl ‹_› rfl ?_ |refine aU rfl ?_ |refine Aa ?_)
   refine aB ?_
   refine Ak.AZ (α:={m:Nat // m≤s.ns.length}) (fun ⟨m,hm⟩=>[(2,Ai g.ls),(3,.o (.fn gN capsN)),(12,.o (.ptr 0 1 0 0)),(13,.o (.ptr 3 1 0 0)),(14,.o (.fn 236 [.ptr 0 1 0 0,.ptr 2 1 0 0,.ptr 3 1 0 0])),(15,eI .i64 i),(33,Ai g.ls),(34,eI .i64 g.ls.length),(35,eI .i64 j),(17,eI .i64 l),(18,.o (.arr 5 1 0 ((s.ns.take m).flatMap fun n=>g.succ n l).length)),(43,Ai s.ns),(44,eI .i64 s.ns.length),(45,eI .i64 m)]) (fun ⟨m,hm⟩=>DN g.N gG capsG sen2 4 st2++[(5,.cells 3 1 (((s.ns.take m).flatMap fun n=>g.succ n l).map AB))]) 6 (fun ⟨m,hm⟩=>s.ns.length - m) (⟨0,by omega⟩) [0,1,2,3,4,5] (DB hΓ rfl rfl) (by (simp[cX,zC,hΓ,DN,hrG,hrN])) ?_;rintro⟨m,hm⟩;(try dsimp only)
   (repeat first|refine s2 rfl fun _ _hb=>?_ |refine aU rfl ?_ |refine Aa ?_)
   (refine aC rfl ?_ ?_<;>rintro⟨⟩)
   ·obtain⟨n,hn⟩:=get_some (l:=s.ns) (k:=m) (by (simp only[oZ] at *;omega))
    have hn':=get_map (g:=Bk) hn
    have hnb:=hsin n (List.mem_of_getElem? hn)
    have hfm:(s.ns.take (m+1)).flatMap (fun n=>g.succ n l)=(s.ns.take m).flatMap (fun n=>g.succ n l)++g.succ n l:=by
     rw [List.take_add_one,hn];simp
    have hol:((s.ns.take m).flatMap fun n=>g.succ n l).length≤1099511627776:=by
     have h2:=K4 (s.ns.take m) (fun n=>g.succ n l) 1048576 (fun x hx=>by have:=hsl x l (hsin x (List.mem_of_mem_take hx)) hlm;omega)
     have h3:(s.ns.take m).length≤1048576:=by simp;omega
     omega
    have hnx:=hNx n l _ hnb hlm hol
    generalize (s.ns.take m).flatMap (fun n=>g.succ n l)=pre at *
    refine aK ?_
    refine aS (aB ?_)
    (repeat first|refine tM rfl ?_ |(refine s4 rfl ‹_› rfl ?_ ?_;omega) |refine aU rfl ?_ |refine Aa ?_)
    (refine pW rfl ?_ rfl (by rfl);refine AD [5] rfl rfl hnx ⟨rfl,by decide,by decide⟩ (by rw [Ni,LG,hrN];rfl) (by simp[cX,zC,hΓ]) ?_;rintro x0 σ1 nx1 ⟨rfl,rfl,rfl⟩ _)
    (repeat first|(refine sM rfl ?_ ?_;first|exact tI|omega) |refine aU rfl ?_ |refine Aa ?_)
    refine⟨⟨m+1,by (simp only[oZ] at *;omega)⟩,by dsimp only;((simp only[oZ] at *;omega)),[0,1,2,3,4,6],?_⟩
    simp[cX,zC,hΓ,DN,hrG,hrN,Ab.A0,BR,Gl,hfm]
   ·obtain rfl:m=s.ns.length:=by (simp only[oZ] at *;omega)
    rw [List.take_length]
    have hR:∀y,y∈s.ns.flatMap (fun n=>g.succ n l)↔∃n∈s.ns,y∈g.succ n l:=fun y=>List.mem_flatMap
    generalize s.ns.flatMap (fun n=>g.succ n l)=R at *
    have hRin:∀y∈R,0≤y∧y < g.N:=fun y hy=>by
     obtain⟨n,hn,hy⟩:=(hR y).1 hy
     exact hg.inn n (hsin n hn) l hlm y hy
    have hv:=RA (goal:=g.goal) hF.slen hRin
    have hvis:=PX (TB:=TB) hG hcG hrG sen2 st2 i l R hF.slen hN (by omega) hRin
    generalize hV2:Om g.goal sen2 R=v2 at *
    refine aE ?_
    refine Ak.freeze [5] [(2,Ai g.ls),(3,.o (.fn gN capsN)),(12,.o (.ptr 0 1 0 0)),(13,.o (.ptr 3 1 0 0)),(14,.o (.fn 236 [.ptr 0 1 0 0,.ptr 2 1 0 0,.ptr 3 1 0 0])),(15,eI .i64 i),(33,Ai g.ls),(34,eI .i64 g.ls.length),(35,eI .i64 j),(17,eI .i64 l),(18,Ai R)] ⟨⟨_,rfl,.Bb⟩,⟨_,rfl,.Bb⟩,⟨_,rfl,.Bb⟩,⟨_,rfl,.Bb⟩,⟨_,rfl,.Bb⟩,⟨_,rfl,.Bb⟩,⟨_,rfl,.Bb⟩,⟨_,rfl,.Bb⟩,⟨_,rfl,.Bb⟩,⟨_,rfl,.Bb⟩,⟨_,rfl,.o (.full (by simp) rfl (by simp [Function.comp_def]) (by simp))⟩,trivial⟩ ?_
    (repeat first|refine tM rfl ?_ |refine aU rfl ?_)
    (refine pW rfl ?_ rfl (by rfl);refine AD [0,1,2,3,4] rfl rfl hvis ⟨rfl,by decide,by decide⟩ rfl (by simp[cX,zC,hΓ,DN,hrG,BR]) ?_;rintro x0 σ1 nx1 ⟨rfl,q,hq,rfl⟩ _)
    obtain⟨vse,vfr,vfd⟩:=v2
    simp only
    refine Aa ?_
    refine Ak.names [0,1,2,3,if q=4 then 4 else 6] [(2,Ai g.ls),(3,.o (.fn gN capsN)),(12,.o (.ptr 0 1 0 0)),(13,.o (.ptr 3 1 0 0)),(14,.o (.fn 236 [.ptr 0 1 0 0,.ptr 2 1 0 0,.ptr 3 1 0 0])),(15,eI .i64 i),(33,Ai g.ls),(34,eI .i64 g.ls.length),(35,eI .i64 j),(59,eB vfd)] (DN g.N gG capsG vse 4 (Dh st2 i l vfr)) (by simp [hΓ]) (by rcases hq with ⟨rfl,rfl⟩|⟨rfl,rfl⟩<;>decide)
     (by rcases hq with ⟨rfl,rfl⟩|⟨rfl,rfl⟩<;>simp[cX,zC,hΓ,hrN]) (by rcases hq with ⟨rfl,rfl⟩|⟨rfl,rfl⟩<;>simp[cX,zC,hΓ,DN,hrG,Ab.A0,BR,Gl]) ?_
    (refine aC rfl ?_ ?_<;>rintro⟨⟩)
    ·obtain⟨x,hx,hgx⟩:∃x∈vfr,g.goal x=true:=by
      have h1:vfr.any g.goal=true:=hv.fd.symm
      exact List.any_eq_true.1 h1
     have hxR:=((hv.fr x).1 hx).1
     obtain⟨n,hn,hxn⟩:=(hR x).1 hxR
     have hans:=BH.found hg hF hwi hl hs hn hxn hgx
     have hrr:=BH.unique hr hans
     subst hrr
     have hne:vfr≠[]:=fun e=>by rw [e] at hx;cases hx
     have hsv:Dh st2 i l vfr=st2++[⟨i,l,vfr⟩]:=by unfold Dh;rw [if_neg hne]
     rw [hsv]
     have hch:=hF.SS.app (ns:=vfr) hwi hlm
     have hpw:=Pq (TB:=TB) hch hls (w:=wi++[l]) (by simp;omega) (by simp [hF.wlen])
     generalize hst3:st2++[⟨(i:Int),l,vfr⟩]=st3 at *
     (repeat first|refine tM rfl ?_|(refine Ag rfl ?_;refine gA rfl ?_;first| refine gQ (FV rfl rfl ((.cons (.o (.full rfl (by simp [Function.comp_def]) (by simp))) .nil)) (hpw) rfl) rfl ?_) |refine aU rfl ?_ |refine Aa ?_)
     refine aR ⟨_,rfl,rfl⟩
    ·have hF2:=hF.visit hg hwi hl hs hR hv rfl
     have hlen2:i < (Dh st2 i l vfr).length:=by unfold Dh;split<;>(try simp)<;>omega
     refine aK ?_
     (repeat first|(refine sM rfl ?_ ?_;first|exact tI|omega) |refine aU rfl ?_ |refine Aa ?_)
     refine⟨⟨(j+1,vse,Dh st2 i l vfr,dF ws2 (wi++[l]) vfr),hjl,hF2,hlen2⟩,by dsimp only;omega,[0,1,2,3,4],?_⟩
     simp[cX,zC,hΓ,DN,hrG,hrN]
  ·obtain rfl:j=g.ls.length:=by (simp only[oZ] at *;omega)
   have hF2:=hF.bz hi
   refine aE ?_
   (repeat first|(refine sM rfl ?_ ?_;first|exact tI|omega) |refine aU rfl ?_ |refine Aa ?_)
   refine⟨⟨(i+1,sen2,st2,ws2),hF2⟩,by dsimp only;omega,[0,1,2,3,4],?_⟩
   simp[cX,zC,hΓ,DN,hrG,hrN]
 ·have hle:=hF.le
  obtain rfl:i=steps.length:=by (simp only[oZ] at *;omega)
  have hans:=BH.ea hg hF
  have hrr:=BH.unique hr hans
  subst hrr
  refine aE ?_
  (repeat first|refine tM rfl ?_ |refine aU rfl ?_ |refine Aa ?_)
  refine aR ⟨_,rfl,rfl⟩
theorem Hj{a:AN}{q:Nat}(h:q < a.nx.length):(Ey a)[q]? = some (QV fun l=>Bm a q l):=CG (g:=fun q=>QV fun l=>Bm a q l) h
theorem Fp{h:Nat→Int}{l:Int}(h0:0≤l)(h1:l < 6):((QV h).drop (l.toNat*1))[0]? = some (iD (h l.toNat)):=by
 rw [List.getElem?_drop]
 have h2:l.toNat*1+0=l.toNat:=by omega
 have h3:l.toNat < 6:=by omega
 rw [h2]
 simp [QV,h3]
end Go.Am
namespace Go.Am
open Go
theorem EO{g g':Gr}(hg:Gm g)(hls:g.ls=g'.ls)(hs:∀x:Int,0≤x∧x < g.N→∀l∈g.ls,g.succ x l=g'.succ x l):∀ {w:List Int} {a x:Int},over g w→(0≤a∧a < g.N)→(reach g w a x↔reach g' w a x)
 | [],a,x,_,_=>Iff.rfl
 | l :: w,a,x,ho,ha=>by
  have hl:=ho l (by simp)
  simp only [reach,←hs a ha l hl]
  constructor
  ·rintro⟨y,hy,h⟩
   exact⟨y,hy,(EO hg hls hs (fun m hm=>ho m (by simp [hm])) (hg.inn a ha l hl y hy)).1 h⟩
  ·rintro⟨y,hy,h⟩
   exact⟨y,hy,(EO hg hls hs (fun m hm=>ho m (by simp [hm])) (hg.inn a ha l hl y hy)).2 h⟩
theorem BH.congr{g g':Gr}(hg:Gm g)(hls:g.ls=g'.ls)(h0:g.s0=g'.s0)(hs:∀x:Int,0≤x∧x < g.N→∀l∈g.ls,g.succ x l=g'.succ x l)(hgo:∀x:Int,0≤x∧x < g.N→g.goal x=g'.goal x){r:Option (List Int)}(h:BH g r):BH g' r:=by
 have hov:∀w,over g' w↔over g w:=fun w=>by unfold over;rw [hls]
 have hh:∀w,over g w→(RX g' w↔RX g w):=fun w hw=>by
  unfold RX
  rw [←h0]
  constructor
  ·rintro⟨x,hx,hgx⟩
   have hx:=(EO hg hls hs hw hg.s0).2 hx
   exact⟨x,hx,by rw [hgo x (Cy hg hw hg.s0 hx)];exact hgx⟩
  ·rintro⟨x,hx,hgx⟩
   exact⟨x,(EO hg hls hs hw hg.s0).1 hx,by rw [←hgo x (Cy hg hw hg.s0 hx)];exact hgx⟩
 cases r with
 | none=>exact fun u hu hx=>h u ((hov u).1 hu) ((hh u ((hov u).1 hu)).1 hx)
 | some w=>
  obtain⟨h1,h2,h3⟩:=h
  exact⟨(hov w).2 h1,(hh w h1).2 h2,fun u hu hx=>h3 u ((hov u).1 hu) ((hh u ((hov u).1 hu)).1 hx)⟩
theorem Vo{zs ws:List Int}{cs ds:List (List Int)}(h:EP zs cs):Jn (zs++ws) (cs++ds)=(Jn zs cs).flatMap fun o=>(Jn ws ds).map fun r=>o*AJ ws+r:=by
 induction h with
 | nil=>simp [Jn]
 | @cons z c zs cs _ _ _ ih=>
  simp only [List.cons_append,Jn,ih]
  rw [List.flatMap_assoc]
  congr 1
  funext q
  rw [List.map_flatMap,List.flatMap_map]
  congr 1
  funext o
  rw [List.map_map]
  congr 1
  funext r
  simp only [Function.comp_def,Jt]
  rw [Int.add_mul,Int.mul_assoc];omega
theorem PJ(l:List Sys)(aus:List AN)(st:List Int)(ls kd gl:Int):Ae ⟨l,aus,st,ls,kd,gl⟩=l.map (·.st)++aus.map (fun a=>(a.nx.length:Int)):=rfl
theorem NY{l:List Sys}{aus:List AN}{st:List Int}{ls kd gl:Int}(hn:Dq ⟨l,aus,st,ls,kd,gl⟩){node letter:Int}(h0:0≤letter)(h1:letter < 6) :
 Es ⟨l,aus,st,ls,kd,gl⟩ (Ae ⟨l,aus,st,ls,kd,gl⟩) (Bx (Ae ⟨l,aus,st,ls,kd,gl⟩) node) letter =
  (Jn (l.map (·.st)) (Z3 l (node / AJ (aus.map fun a=>(a.nx.length:Int))) letter)).flatMap fun o=>(Jn (aus.map fun a=>(a.nx.length:Int)) (aus.zipWith (fun a q=>[Bm a q.toNat letter]) (Bx (aus.map fun a=>(a.nx.length:Int)) node))).map fun r=>o*AJ (aus.map fun a=>(a.nx.length:Int))+r:=by
 have hp:∀w∈aus.map (fun a=>(a.nx.length:Int)),0 < w:=fun w hw=>by
  obtain⟨a,ha,rfl⟩:=List.mem_map.1 hw
  have:=Ar (hn.au a ha);omega
 unfold Es
 rw [TK (Ii hn (Il hn node) h0 h1),PJ,OJ _ _ _ hp]
 have hch:=YU hn.ps hn.np h0 h1 (node / AJ (aus.map fun a=>(a.nx.length:Int)))
 have e:Kg ⟨l,aus,st,ls,kd,gl⟩ (Bx (l.map (·.st)) (node / AJ (aus.map fun a=>(a.nx.length:Int)))++Bx (aus.map fun a=>(a.nx.length:Int)) node) letter=Z3 l (node / AJ (aus.map fun a=>(a.nx.length:Int))) letter++aus.zipWith (fun a q=>[Bm a q.toNat letter]) (Bx (aus.map fun a=>(a.nx.length:Int)) node):=by
  unfold Kg Z3
  have hl:(Bx (l.map (·.st)) (node / AJ (aus.map fun a=>(a.nx.length:Int)))).length=l.length:=by rw [KU];simp
  simp only
  rw [List.drop_append_of_le_length (by omega),List.drop_of_length_le (by omega),List.nil_append]
  congr 1
  rw [Gd,List.take_append_of_le_length (by omega),List.take_of_length_le (by omega)]
 rw [e,Vo hch]
theorem MO:∀(zs:List Int) (k:Nat),FD zs (List.replicate k 0) 0=0
 | [],k=>by simp [FD]
 | z::zs,0=>by simp [FD]
 | z::zs,k+1=>by
  rw [List.replicate_succ]
  simp only [FD,Int.zero_mul,Int.add_zero]
  exact MO zs k
end Go.Am
namespace Go.Am
open Go Go.Proofs
set_option maxHeartbeats 1000000
attribute [local irreducible] AY B2 Lex Bq Ak Spec
variable {TB:Bu}
def E1{α:Type}(l:List α)(z:α)(k:Nat):List α:=l.take k++List.replicate (l.length - k) z
theorem Vr{α:Type}(l:List α)(z:α):E1 l z 0=List.replicate l.length z:=by simp [E1]
theorem Pc{α:Type}(l:List α)(z:α):E1 l z l.length=l:=by simp [E1]
theorem Pd{α:Type}{l:List α}{z:α}{k:Nat}(h:k < l.length):(E1 l z k)[0+((k:Nat):Int).toNat]? = some z:=by
 rw [Nat.zero_add,Int.toNat_natCast]
 unfold E1
 rw [List.getElem?_append_right (by simp;omega)]
 have:0 < l.length - k:=by omega
 have e:k - (l.take k).length=0:=by simp;omega
 rw [e,List.getElem?_replicate,if_pos this]
theorem Pe{α:Type}{l:List α}{z x:α}{k:Nat}(h:l[k]? = some x):(E1 l z k).set (0+((k:Nat):Int).toNat) x=E1 l z (k+1):=by
 have hk:=(List.getElem?_eq_some_iff.1 h).1
 rw [Nat.zero_add,Int.toNat_natCast]
 unfold E1
 rw [List.set_append_right _ _ (by simp;omega)]
 have e1:k - (l.take k).length=0:=by simp;omega
 have e2:l.length - k=(l.length - (k+1))+1:=by omega
 rw [e1,e2,List.replicate_succ,List.set_cons_zero,List.take_add_one,h]
 simp
theorem Vs{l:List (List C)}{z:List C}{k:Nat}{r:Nat→Nat}(hl:∀x∈l,C.Bz r x=x)(hz:C.Bz r z=z):(E1 l z k).map (C.Bz r)=E1 l z k:=by
 unfold E1
 rw [List.map_append,List.map_replicate,hz]
 congr 1
 refine(List.map_congr_left fun x hx=>?_).trans (List.map_id _)
 exact hl x (List.mem_of_mem_take hx)
end Go.Am
namespace Go.Am
set_option linter.unusedVariables false
abbrev W:=List UInt8
structure A2 where
 rows:List W
 cols:List W
def Ou(b:Bool):UInt8:=if b then 43 else 45
theorem Si{a b:Bool}(h:Ou a=Ou b):a=b:=by cases a<;>cases b<;>first|rfl|(simp [Ou] at h)
def marks(L:W→Bool)(cols:List W)(w:W):W:=cols.map fun c=>Ou (L (w++c))
theorem Lg{L:W→Bool}{cols:List W}{u w:W}:marks L cols u=marks L cols w↔∀c∈cols,L (u++c)=L (w++c):=by
 unfold marks
 rw [List.map_inj_left]
 exact⟨fun h c hc=>Si (h c hc),fun h c hc=>by rw [h c hc]⟩
def AH(L:W→Bool)(t:A2):List W:=t.rows.map (marks L t.cols)
def BK(ls:List UInt8)(rows:List W):List W:=rows.flatMap fun r=>ls.map fun l=>r++[l]
def A5(L:W→Bool)(ls:List UInt8)(t:A2):Option W:=(BK ls t.rows).find? fun w=>!(AH L t).contains (marks L t.cols w)
def A9(L:W→Bool)(ls:List UInt8):Nat→A2→Option A2
 | 0,_=>none
 | n+1,t=>match A5 L ls t with
  | none=>some t
  | some w=>if t.rows.length=12 then none else A9 L ls n ⟨t.rows++[w],t.cols⟩
def Al(ls:List UInt8)(w:W):Prop:=∀c∈w,c∈ls
structure TOk (L:W→Bool) (ls:List UInt8) (t:A2):Prop where
 r0:t.rows[0]? = some []
 c0:t.cols[0]? = some []
 pre:∀(i:Nat) w,t.rows[i]? = some w→0 < i→w≠[]∧∃j,j < i∧t.rows[j]? = some w.dropLast
 onR:∀w∈t.rows,Al ls w
 onC:∀c∈t.cols,Al ls c
 nd:(AH L t).Nodup
 ndC:t.cols.Nodup
theorem HO{L:W→Bool}{ls:List UInt8}{t:A2}{w:W}(h:A5 L ls t=some w):(∃r∈t.rows,∃l∈ls,w=r++[l])∧marks L t.cols w∉AH L t:=by
 have h1:=List.find?_some h
 have h2:=List.mem_of_find?_eq_some h
 unfold BK at h2
 simp only [List.mem_flatMap,List.mem_map] at h2
 obtain⟨r,hr,l,hl,rfl⟩:=h2
 exact⟨⟨r,hr,l,hl,rfl⟩,by simpa using h1⟩
theorem FT{L:W→Bool}{ls:List UInt8}{t:A2}(h:A5 L ls t=none):∀r∈t.rows,∀l∈ls,marks L t.cols (r++[l])∈AH L t:=by
 intro r hr l hl
 have h1:=List.find?_eq_none.1 h (r++[l]) (by unfold BK;simp only [List.mem_flatMap,List.mem_map];exact⟨r,hr,l,hl,rfl⟩)
 simpa using h1
theorem TOk.push{L:W→Bool}{ls:List UInt8}{t:A2}{w:W}(h:TOk L ls t)(ho:A5 L ls t=some w):TOk L ls ⟨t.rows++[w],t.cols⟩:=by
 obtain⟨⟨r,hr,l,hl,rfl⟩,hn⟩:=HO ho
 have h0:0 < t.rows.length:=(List.getElem?_eq_some_iff.1 h.r0).1
 refine⟨by rw [List.getElem?_append_left h0];exact h.r0,h.c0,fun i w hi hp=>?_,fun w hw=>?_,h.onC,?_,h.ndC⟩
 ·by_cases hil:i < t.rows.length
  ·rw [List.getElem?_append_left hil] at hi
   obtain⟨h1,j,h2,h3⟩:=h.pre i w hi hp
   exact⟨h1,j,h2,by rw [List.getElem?_append_left (by omega)];exact h3⟩
  ·rw [List.getElem?_append_right (by omega)] at hi
   have hi0:i=t.rows.length:=by
    have:=(List.getElem?_eq_some_iff.1 hi).1
    simp at this;omega
   subst hi0
   simp at hi
   subst hi
   obtain⟨j,hj,he⟩:=List.getElem_of_mem hr
   refine⟨by simp,j,hj,?_⟩
   rw [List.getElem?_append_left hj,List.dropLast_concat,List.getElem?_eq_getElem hj,he]
 ·rcases List.mem_append.1 hw with hw|hw
  ·exact h.onR w hw
  ·simp at hw
   subst hw
   intro c hc
   rcases List.mem_append.1 hc with hc|hc
   ·exact h.onR r hr c hc
   ·simp at hc;subst hc;exact hl
 ·unfold AH
  rw [List.map_append,List.nodup_append]
  refine⟨h.nd,by simp,fun a ha b hb=>?_⟩
  simp at hb
  subst hb
  intro e
  exact hn (e ▸ ha)
structure Fin (L:W→Bool) (ls:List UInt8) (n:Nat) where
 st:W→Nat
 lt:∀w,Al ls w→st w < n
 same:∀u w v,Al ls u→Al ls w→Al ls v→st u=st w→L (u++v)=L (w++v)
theorem GJ:∀(n:Nat) (l:List Nat),l.Nodup→(∀x∈l,x < n)→l.length≤n
 | 0,l,_,h=>by cases l with
  | nil=>simp
  | cons x l=>have:=h x (by simp);omega
 | n + 1,l,hd,h=>by
  have h1:=GJ n (l.erase n) (hd.erase n) fun x hx=>by
   have h2:=h x (List.mem_of_mem_erase hx)
   have h3:x≠n:=fun e=>by subst e;exact(List.Nodup.not_mem_erase hd) hx
   omega
  by_cases hn:n∈l
  ·rw [List.length_erase_of_mem hn] at h1;omega
  ·rw [List.erase_of_not_mem hn] at h1;omega
theorem TOk.ab{L:W→Bool}{ls:List UInt8}{t:A2}{n:Nat}(h:TOk L ls t)(f:Fin L ls n):t.rows.length≤n:=by
 have h1:(t.rows.map f.st).Nodup:=by
  have hnd:=h.nd
  unfold AH at hnd
  unfold List.Nodup at *
  rw [List.pairwise_map] at *
  refine List.Pairwise.imp_of_mem (fun {a b} ha hb hne hst=>hne ?_) hnd
  exact Lg.2 fun c hc=>f.same a b c (h.onR a ha) (h.onR b hb) (h.onC c hc) hst
 have h2:=GJ n _ h1 fun x hx=>by
  obtain⟨w,hw,rfl⟩:=List.mem_map.1 hx
  exact f.lt w (h.onR w hw)
 simpa using h2
theorem Jc{L:W→Bool}{ls:List UInt8}{n:Nat}(f:Fin L ls n)(hn:n≤12):∀(k:Nat) (t:A2),TOk L ls t→13≤k+t.rows.length→∃t',A9 L ls k t=some t'∧TOk L ls t'∧A5 L ls t'=none∧t.rows <+: t'.rows∧t'.cols=t.cols∧(A5 L ls t≠none→t.rows.length < t'.rows.length)
 | 0,t,h,hk=>by have:=h.ab f;omega
 | k + 1,t,h,hk=>by
  unfold A9
  cases ho:A5 L ls t with
  | none=>exact⟨t,rfl,h,ho,List.prefix_refl _,rfl,fun h=>absurd rfl h⟩
  | some w=>
   have h2:=h.push ho
   have h3:=h2.ab f
   simp only [List.length_append,List.length_cons,List.length_nil] at h3
   simp only
   rw [if_neg (show ¬t.rows.length=12 by omega)]
   obtain⟨t',e1,e2,e3,e4,e5,_⟩:=Jc f hn k _ h2 (by simp;omega)
   have h5:t.rows <+: t'.rows:=List.IsPrefix.trans (List.prefix_append _ _) e4
   refine⟨t',e1,e2,e3,h5,e5,fun _=>?_⟩
   have:=e4.length_le
   simp at this;omega
def Cv(L:W→Bool)(t:A2)(w:W):Nat:=(AH L t).idxOf (marks L t.cols w)
def runM(L:W→Bool)(t:A2):Nat→W→Nat
 | i,[]=>i
 | i,c::w=>runM L t (Cv L t ((t.rows.getD i [])++[c])) w
theorem GP(L:W→Bool)(t:A2):∀(u w:W) (i:Nat),runM L t i (u++w)=runM L t (runM L t i u) w
 | [],_,_=>rfl
 | c::u,w,i=>GP L t u w _
structure A3 (L:W→Bool) (ls:List UInt8) (t:A2):Prop extends TOk L ls t where
 cl:∀r∈t.rows,∀l∈ls,marks L t.cols (r++[l])∈AH L t
theorem A3.idx{L:W→Bool}{ls:List UInt8}{t:A2}(h:A3 L ls t){i:Nat}{r:W}{l:UInt8}(hi:t.rows[i]? = some r)(hl:l∈ls):∃r',t.rows[Cv L t (r++[l])]? = some r'∧marks L t.cols r'=marks L t.cols (r++[l]):=by
 have h1:=h.cl r (List.mem_of_getElem? hi) l hl
 have h2:Cv L t (r++[l]) < (AH L t).length:=List.idxOf_lt_length_iff.2 h1
 have h3:(AH L t)[Cv L t (r++[l])]'h2=marks L t.cols (r++[l]):=List.getElem_idxOf h2
 have h4:Cv L t (r++[l]) < t.rows.length:=by simpa [AH] using h2
 refine⟨t.rows[Cv L t (r++[l])],List.getElem?_eq_getElem h4,?_⟩
 rw [←h3]
 simp [AH]
theorem A3.run{L:W→Bool}{ls:List UInt8}{t:A2}(h:A3 L ls t):∀(w:W) (i:Nat),Al ls w→i < t.rows.length→runM L t i w < t.rows.length
 | [],_,_,hi=>hi
 | c::w,i,hw,hi=>by
  have h1:t.rows[i]? = some t.rows[i]:=List.getElem?_eq_getElem hi
  obtain⟨_,h2,_⟩:=h.idx h1 (hw c (by simp))
  have h3:t.rows.getD i []=t.rows[i]:=by simp [h1]
  show runM L t (Cv L t (t.rows.getD i []++[c])) w < _
  rw [h3]
  exact h.run w _ (fun x hx=>hw x (by simp [hx])) (List.getElem?_eq_some_iff.1 h2).1
def splitAt(L:W→Bool)(t:A2)(b:Bool):Nat→W→Option W
 | _,[]=>none
 | i,c::v=>if L (t.rows.getD (Cv L t ((t.rows.getD i [])++[c])) []++v)≠b then some v else splitAt L t b (Cv L t ((t.rows.getD i [])++[c])) v
end Go.Am
namespace Go.Am
open Go Go.Proofs
set_option maxHeartbeats 1000000
attribute [local irreducible] AY B2 Lex Bq Ak Spec
variable {TB:Bu}
abbrev PQ(t:A2):List D:=[A7 t.rows,A7 t.cols]
abbrev CY(t:A2):E:=.a [.d (A7 t.rows),.d (A7 t.cols)]
abbrev Gw(al:Int)(c:C):E:=.a [.d (iD al),c]
mutual
theorem DZ:∀(c:C),c.BU=true→∀r,c.A0 r=c
 | .d x,_,r=>rfl
 | .fn g cap,h,r=>by
  simp only [C.BU] at h
  simp only [C.A0,LI cap h r]
 | .arr ..,h,_=>by cases h
 | .ptr ..,h,_=>by cases h
 | .mp ..,h,_=>by cases h
 | .mv g l,h,r=>by
  simp only [C.BU] at h
  simp only [C.A0,LI l h r]
theorem LI:∀(l:List C),C.CE l=true→∀r,C.Bz r l=l
 | [],_,r=>rfl
 | c::l,h,r=>by
  simp only [C.CE,Bool.and_eq_true] at h
  simp only [C.Bz,DZ c h.1 r,LI l h.2 r]
end
structure HX (P:Program) (TB:Bu) (c:C) (L:W→Bool) (ok:W→Prop):Prop where
 BU:c.BU=true
 ask:∀ {Γ:Ctx} {d:Option Tmp} {ty:TypeId} {pos:String} {af:Array Edge} {g:Option (Nat×Bool)} {f:Env} {σ:Ab} {nx:Nat} {x a:Operand} {tys:Array TypeId} {w:W},
  ev f x=some (.o c)→ev f a=some (eT w)→ok w→AY P TB Γ ⟨d,.call ⟨.value x,#[a],tys⟩,ty,pos,af,g⟩ f σ nx (eB (L w))
theorem HX.of{P:Program}{g:FuncId}{cap:List C}{L:W→Bool}{ok:W→Prop}(hc:C.CE cap=true)(h:∀w,ok w→Pure P TB g ([eT w]++cap.map .o) (eB (L w))):HX P TB (.fn g cap) L ok:=
 ⟨hc,fun hx ha hw=>BL (es:=[eT _]) hx (by simp [HE,ha]) (by simp [E.BU,C.BU,hc]) (h _ hw) rfl⟩
def Pf(L:W→Bool)(cols:List W)(w:W)(k:Nat)(i:Nat):UInt8:=if i < k then Ou (L (w++cols.getD i [])) else 0
theorem QH(L:W→Bool)(cols:List W)(w:W):(Bl cols.length fun i=>El (Pf L cols w cols.length i))=(marks L cols w).map El:=by
 apply List.ext_getElem?
 intro i
 by_cases h:i < cols.length
 ·rw [CG h]
  simp [marks,Pf,h]
 ·rw [List.getElem?_eq_none (by simp [Bl];omega),List.getElem?_eq_none (by simp [marks];omega)]
theorem c6:El 0=[C.d (D.v (Value.int IntKind.u8 0))]:=rfl
theorem bx(L:W→Bool)(cols:List W)(w:W)(n:Nat):(Bl n fun i=>El (Pf L cols w 0 i))=List.replicate n (El 0):=by
 apply List.ext_getElem?
 intro i
 by_cases h:i < n
 ·rw [CG h];simp [Pf,h]
 ·rw [List.getElem?_eq_none (by simp [Bl];omega),List.getElem?_eq_none (by simp;omega)]
theorem Vu{L:W→Bool}{cols:List W}{w x:W}{k:Nat}(hx:cols[k]? = some x):(Bl cols.length fun i=>El (if i=k then Ou (L (w++x)) else Pf L cols w k i))=Bl cols.length fun i=>El (Pf L cols w (k+1) i):=by
 refine B4 fun i _=>?_
 congr 1
 unfold Pf
 by_cases h:i=k
 ·subst h
  rw [if_pos rfl,if_pos (by omega)]
  simp [hx]
 ·rw [if_neg h]
  by_cases h2:i < k
  ·rw [if_pos h2,if_pos (by omega)]
  ·rw [if_neg h2,if_neg (by omega)]
theorem Lh{c:C}{L:W→Bool}{ok:W→Prop}(hc:HX Tryz.prog TB c L ok)(al:Int)(t:A2)(w:W)(hl:t.cols.length≤1048576)(hk:∀x∈t.cols,ok (w++x))(hb:∀x∈t.cols,w.length+x.length≤1048576) :
 Pure Tryz.prog TB 150 [Gw al c,CY t,eT w] (eT (marks L t.cols w)):=by
 have hr:=DZ c hc.BU
 refine eN Tryz.func150 rfl (by kernel_rfl) rfl ?_;intro Γ hΓ
 (repeat first|refine aU rfl ?_)
 (refine pW rfl ?_ rfl (by rfl);refine Dr rfl rfl ?_)
 (refine Ag rfl ?_;refine CK (fun _ _=>Dc rfl rfl rfl) rfl ?_)
 (repeat first|refine sN rfl ?_ |refine tM rfl ?_ |refine aU rfl ?_ |refine Aa ?_)
 (refine pW rfl ?_ rfl (by rfl);refine HM rfl rfl (by rfl) (by rfl) (Nat.le_of_ble_eq_true rfl) (by omega) (by omega) (by omega) ?_)
 (repeat first|refine sN rfl ?_ |refine tM rfl ?_ |refine aU rfl ?_ |refine Aa ?_)
 refine aB ?_
 refine Ak.AZ (α:={k:Nat // k≤t.cols.length}) (fun ⟨k,hkl⟩=>[(2,eT w),(3,.o (.ptr 0 2 0 0)),(7,.o (.arr 1 1 0 t.cols.length)),(15,.o (.d (A7 t.cols))),(16,eI .i64 t.cols.length),(17,eI .i64 k)]) (fun ⟨k,hkl⟩=>[(1,.cells 5 1 (Bl t.cols.length fun i=>El (Pf L t.cols w k i))),(0,.cells 90 2 [[.d (iD al),c]])]) 2 (fun ⟨k,hkl⟩=>t.cols.length - k) (⟨0,by omega⟩) [0,1] (DB hΓ rfl rfl) (by (simp[cX,zC,hΓ,LJ,hr,bx,eC,IM,c6])) ?_;rintro⟨k,hkl⟩;(try dsimp only)
 (repeat first|refine s2 rfl fun _ _hb=>?_ |refine aU rfl ?_ |refine Aa ?_)
 (refine aC rfl ?_ ?_<;>rintro⟨⟩)
 ·have hlt:k < t.cols.length:=by (simp only[oZ] at *;omega)
  obtain⟨x,hx⟩:=get_some (l:=t.cols) (k:=k) hlt
  have hx':=get_map (g:=Cm) hx
  have hxm:=List.mem_of_getElem? hx
  have hxb:=hb x hxm
  have hok:=hk x hxm
  have hg:=Ip (H:=Pf L t.cols w k) (q:=k) (n:=t.cols.length) hlt
  have hs1:(Bl t.cols.length fun i=>El (Pf L t.cols w k i)).set (0+((k:Nat):Int).toNat) (Aj (El (Pf L t.cols w k k)) 0 (eC (eI .u8 45)))=Bl t.cols.length fun i=>El (if i=k then 45 else Pf L t.cols w k i):=KF (c:=45)
  have hg2:=Ip (H:=fun i=>if i=k then 45 else Pf L t.cols w k i) (q:=k) (n:=t.cols.length) hlt
  rw [←hs1] at hg2
  have hs2:(Bl t.cols.length fun i=>El (if i=k then 45 else Pf L t.cols w k i)).set (0+((k:Nat):Int).toNat) (Aj (El (if k=k then 45 else Pf L t.cols w k k)) 0 (eC (eI .u8 43)))=Bl t.cols.length fun i=>El (if i=k then 43 else Pf L t.cols w k i):=by
   refine(KF (H:=fun i=>if i=k then 45 else Pf L t.cols w k i) (c:=43)).trans ?_
   refine B4 fun i _=>?_
   by_cases h:i=k<;>simp [h]
  have hst:=Vu (L:=L) (w:=w) hx
  refine aK ?_
  refine aS (aB ?_)
  (repeat first|((first|refine sM rfl ?_ ?_|refine s4 rfl ‹_› rfl ?_ ?_);first|exact tI|omega)|(refine Ag rfl ?_;refine gA rfl ?_;first| (refine gB (fun _ _=>hc.ask rfl rfl hok) ?_;intro _ _hb)) |refine aU rfl ?_ |refine Aa ?_)
  (refine aC rfl ?_ ?_<;>rintro⟨⟩)
  ·(repeat first|(refine sM rfl ?_ ?_;first|exact tI|omega) |refine t4 rfl ‹_› rfl ?_ |refine aU rfl ?_ |refine Aa ?_)
   refine⟨⟨k+1,by omega⟩,by dsimp only;(omega),[0,1],?_⟩
   rw [hs1,hs2]
   rw [_hb] at hst
   have e43:Ou true=43:=rfl
   have e45:Ou false=45:=rfl
   simp only [e43,e45] at hst
   simp[cX,zC,hΓ,LJ,hr,hst]
  ·refine aK ?_
   (repeat first|(refine sM rfl ?_ ?_;first|exact tI|omega) |refine aU rfl ?_ |refine Aa ?_)
   refine⟨⟨k+1,by omega⟩,by dsimp only;(omega),[0,1],?_⟩
   rw [hs1]
   rw [_hb] at hst
   have e43:Ou true=43:=rfl
   have e45:Ou false=45:=rfl
   simp only [e43,e45] at hst
   simp[cX,zC,hΓ,LJ,hr,hst]
 ·obtain rfl:k=t.cols.length:=by (simp only[oZ] at *;omega)
  rw [QH]
  refine aE ?_
  (repeat first|refine tM rfl ?_|(refine Ag rfl ?_;refine gA rfl ?_;first| refine gQ (Sw (marks L t.cols w) rfl rfl (by simp [marks]) (by rw [List.drop_zero,List.take_of_length_le (by simp [marks])])) (by rfl) ?_) |refine aU rfl ?_ |refine Aa ?_)
  refine aR ⟨_,rfl,rfl⟩
def Bs(L:W→Bool)(t:A2):Nat→List (W×Int)
 | 0=>[]
 | k+1=>if (BA (Bs L t k) (marks L t.cols (t.rows.getD k []))).isSome then Bs L t k else Bs L t k++[(marks L t.cols (t.rows.getD k []),(k:Int))]
structure Ui (ok:W→Prop) (t:A2):Prop where
 ok:∀w∈t.rows,∀x∈t.cols,ok (w++x)
 rb:∀w∈t.rows,w.length≤65536
 cb:∀x∈t.cols,x.length≤65536
 rl:t.rows.length≤4096
 cl:t.cols.length≤4096
theorem Hu{c:C}{L:W→Bool}{ok:W→Prop}(hc:HX Tryz.prog TB c L ok)(al:Int)(t:A2)(ht:Ui ok t) :
 Spec Tryz.prog TB 138 [] 0 [Gw al c,CY t] (fun x σ nx=>x=.o (.mp 0)∧nx=1∧σ=[(0,.mp (DQ (Bs L t t.rows.length)))]):=by
 have hr:=DZ c hc.BU
 have hrl:=ht.rl
 refine eN Tryz.func138 rfl (by kernel_rfl) rfl ?_;intro Γ hΓ
 (repeat first|refine aU rfl ?_)
 (refine pW rfl ?_ rfl (by rfl);refine Dr rfl rfl ?_)
 (refine Ag rfl ?_;refine CK (fun _ _=>Dc rfl rfl rfl) rfl ?_)
 (repeat first|refine tM rfl ?_ |refine aU rfl ?_ |refine Aa ?_)
 (refine pW rfl ?_ rfl (by rfl);refine Jp ?_)
 (repeat first|refine sN rfl ?_ |refine tM rfl ?_ |refine aU rfl ?_ |refine Aa ?_)
 refine aB ?_
 refine Ak.AZ (α:={k:Nat // k≤t.rows.length}) (fun ⟨k,hkl⟩=>[(2,.o (.ptr 0 2 0 0)),(3,.o (.ip (PQ t))),(5,.o (.mp 1)),(13,.o (.d (A7 t.rows))),(14,eI .i64 t.rows.length),(15,eI .i64 k)]) (fun ⟨k,hkl⟩=>[(1,.mp (DQ (Bs L t k))),(0,.cells 90 2 [[.d (iD al),c]])]) 2 (fun ⟨k,hkl⟩=>t.rows.length - k) (⟨0,by omega⟩) [0,1] (DB hΓ rfl rfl) (by (simp[cX,zC,hΓ,hr,eC,Bs,DQ])) ?_;rintro⟨k,hkl⟩;(try dsimp only)
 (repeat first|refine s2 rfl fun _ _hb=>?_ |refine aU rfl ?_ |refine Aa ?_)
 (refine aC rfl ?_ ?_<;>rintro⟨⟩)
 ·have hlt:k < t.rows.length:=by (simp only[oZ] at *;omega)
  obtain⟨x,hx⟩:=get_some (l:=t.rows) (k:=k) hlt
  have hx':=get_map (g:=Cm) hx
  have hxm:=List.mem_of_getElem? hx
  have hxb:=ht.rb x hxm
  have hm:=Lh hc al t x (by have:=ht.cl;omega) (ht.ok x hxm) (fun y hy=>by have:=ht.cb y hy;omega)
  have hgd:t.rows.getD k []=x:=by simp [hx]
  have hstep:Bs L t (k+1)=if (BA (Bs L t k) (marks L t.cols x)).isSome then Bs L t k else Bs L t k++[(marks L t.cols x,(k:Int))]:=by
   rw [Bs,hgd]
  refine aK ?_
  refine aS (aB ?_)
  (repeat first|refine tM rfl ?_ |(refine s4 rfl ‹_› rfl ?_ ?_;omega) |refine s2 rfl fun _ _hb=>?_|(refine Ag rfl ?_;refine gA rfl ?_;first| refine gS (fun _ _=>BL rfl rfl (by simp [E.BU,C.CE,C.BU,hc.BU]) hm rfl) ?_|refine gQ (N9 rfl rfl rfl) (by rfl) ?_) |refine aU rfl ?_ |refine Aa ?_)
  (refine aC rfl ?_ ?_<;>rintro⟨⟩)
  ·have hn:BA (Bs L t k) (marks L t.cols x)=none:=by simpa using _hb
   rw [hn] at hstep
   (repeat first|refine tM rfl ?_ |refine aU rfl ?_)
   (refine Ag rfl ?_;refine GN ?_ rfl (by rfl);refine Yu rfl rfl rfl rfl hn ?_)
   (repeat first|(refine sM rfl ?_ ?_;first|exact tI|omega) |refine aU rfl ?_ |refine Aa ?_)
   refine⟨⟨k+1,by omega⟩,by dsimp only;(omega),[0,1],?_⟩
   simp[cX,zC,hΓ,hr,hstep]
  ·have hn:(BA (Bs L t k) (marks L t.cols x)).isSome=true:=by simpa using _hb
   rw [if_pos hn] at hstep
   refine aK ?_
   (repeat first|(refine sM rfl ?_ ?_;first|exact tI|omega) |refine aU rfl ?_ |refine Aa ?_)
   refine⟨⟨k+1,by omega⟩,by dsimp only;(omega),[0,1],?_⟩
   simp[cX,zC,hΓ,hr,hstep]
 ·obtain rfl:k=t.rows.length:=by (simp only[oZ] at *;omega)
  refine aE ?_
  (repeat first|refine tM rfl ?_ |refine aU rfl ?_ |refine Aa ?_)
  refine Ak.names [1] [(4,.o (.mp 0))] [(0,.mp (DQ (Bs L t t.rows.length)))] (by intro i hi;rw [hΓ] at hi;omega) (by simp) (by simp[cX,zC,hΓ]) (by simp[cX,zC,hΓ]) ?_
  refine aR ⟨_,rfl,rfl,rfl,rfl⟩
theorem Tm(l:List (W×Int))(p:W×Int)(s:W):BA (l++[p]) s=(BA l s).or (if p.1=s then some p.2 else none):=by
 unfold BA
 rw [List.find?_append]
 cases h:l.find? (fun p=>decide (p.1=s)) with
 | some q=>simp
 | none=>by_cases hp:p.1=s<;>simp [hp]
theorem LM{L:W→Bool}{t:A2}{k:Nat}(h:k < t.rows.length):(AH L t)[k]? = some (marks L t.cols (t.rows.getD k [])):=by
 simp [AH,h]
theorem Nd(L:W→Bool)(t:A2):∀k,k≤t.rows.length→∀s,BA (Bs L t k) s=if s∈(AH L t).take k then some (((AH L t).idxOf s:Nat):Int) else none
 | 0,_,s=>by simp [Bs,BA]
 | k + 1, hk, s=>by
  have ih:=Nd L t k (by omega)
  have hx:=LM (L:=L) (t:=t) (k:=k) (by omega)
  generalize marks L t.cols (t.rows.getD k [])=x at *
  have hst:Bs L t (k+1)=if (BA (Bs L t k) x).isSome then Bs L t k else Bs L t k++[(x,(k:Int))]:=by
   have hx2:=LM (L:=L) (t:=t) (k:=k) (by omega)
   rw [hx] at hx2
   injection hx2 with hx2
   rw [Bs,←hx2]
  have htk:∀s,s∈(AH L t).take (k+1)↔s∈(AH L t).take k∨s=x:=fun s=>by
   rw [List.take_add_one,hx];simp
  rw [hst]
  by_cases hm:x∈(AH L t).take k
  ·rw [if_pos (by rw [ih x,if_pos hm];rfl),ih s]
   by_cases hs:s∈(AH L t).take k
   ·rw [if_pos hs,if_pos ((htk s).2 (.inl hs))]
   ·rw [if_neg hs,if_neg]
    intro h
    rcases(htk s).1 h with h|h
    ·exact hs h
    ·subst h;exact hs hm
  ·rw [if_neg (by rw [ih x,if_neg hm];simp),Tm,ih s]
   by_cases hs:s∈(AH L t).take k
   ·rw [if_pos hs,if_pos ((htk s).2 (.inl hs))];rfl
   ·rw [if_neg hs]
    by_cases he:x=s
    ·subst he
     rw [if_pos ((htk x).2 (.inr rfl))]
     have hix:(AH L t).idxOf x=k:=by
      have hl:k < (AH L t).length:=(List.getElem?_eq_some_iff.1 hx).1
      have e:AH L t=(AH L t).take k++x::(AH L t).drop (k+1):=by
       rw [←CA hx,List.take_append_drop]
      rw [e,List.idxOf_append,if_neg hm,List.idxOf_cons_self]
      simp;omega
     simp [hix]
    ·have hns:s∉(AH L t).take (k+1):=fun h=>by
      rcases(htk s).1 h with h|h
      ·exact hs h
      ·exact he h.symm
     rw [if_neg hns]
     simp [he]
theorem Po{L:W→Bool}{t:A2}{s:W}:BA (Bs L t t.rows.length) s=if s∈AH L t then some (((AH L t).idxOf s:Nat):Int) else none:=by
 have h:=Nd L t t.rows.length (Nat.le_refl _) s
 have e:(AH L t).take t.rows.length=AH L t:=List.take_of_length_le (by simp [AH])
 rwa [e] at h
theorem Sp{L:W→Bool}{ls:List UInt8}{t:A2}{k j:Nat}{r:W}{l:UInt8}(hr:t.rows[k]? = some r)(hl:ls[j]? = some l)(h1:∀w∈BK ls (t.rows.take k),marks L t.cols w∈AH L t)(h2:∀x∈ls.take j,marks L t.cols (r++[x])∈AH L t)
 (h3:marks L t.cols (r++[l])∉AH L t):A5 L ls t=some (r++[l]):=by
 have e1:t.rows=t.rows.take k++r::t.rows.drop (k+1):=by
  rw [←CA hr,List.take_append_drop]
 have e2:ls=ls.take j++l::ls.drop (j+1):=by
  rw [←CA hl,List.take_append_drop]
 have e3:BK ls t.rows=BK ls (t.rows.take k)++((ls.take j).map (fun x=>r++[x])++(r++[l])::((ls.drop (j+1)).map (fun x=>r++[x])++BK ls (t.rows.drop (k+1)))):=by
  have h4:BK ls t.rows=BK ls (t.rows.take k++r::t.rows.drop (k+1)):=congrArg _ e1
  rw [h4]
  unfold BK
  rw [List.flatMap_append,List.flatMap_cons]
  have h5:ls.map (fun x=>r++[x])=(ls.take j++l::ls.drop (j+1)).map (fun x=>r++[x]):=congrArg _ e2
  rw [h5]
  simp
 unfold A5
 rw [e3,List.find?_append,List.find?_append]
 have n1:(BK ls (t.rows.take k)).find? (fun w=>!(AH L t).contains (marks L t.cols w))=none:=List.find?_eq_none.2 fun w hw=>by simpa using h1 w hw
 have n2:((ls.take j).map (fun x=>r++[x])).find? (fun w=>!(AH L t).contains (marks L t.cols w))=none:=List.find?_eq_none.2 fun w hw=>by
  obtain⟨x,hx,rfl⟩:=List.mem_map.1 hw
  simpa using h2 x hx
 rw [n1,n2]
 simp [h3]
def lb(l:Int):UInt8:=UInt8.ofNat (97+l.toNat)
def AP(al:Int):List UInt8:=(Ac al).map lb
def Tj(o:Option W):E:=match o with
 | some w=>.t [(false,[.d (tD w)]),(false,[.d (bD true)])]
 | none=>.t [(false,[.d (tD [])]),(false,[.d (bD false)])]
end Go.Am
namespace Go.Am
set_option linter.unusedVariables false
theorem Na(L:W→Bool)(cols:List W)(v w:W):marks L (cols++[v]) w=marks L cols w++[Ou (L (w++v))]:=by simp [marks]
theorem A3.row{L:W→Bool}{ls:List UInt8}{t:A2}(h:A3 L ls t){i j:Nat}{r s:W}(hi:t.rows[i]? = some r)(hj:t.rows[j]? = some s)(he:marks L t.cols r=marks L t.cols s):i=j:=by
 have h1:(AH L t)[i]? = some (marks L t.cols r):=by simp [AH,hi]
 have h2:(AH L t)[j]? = some (marks L t.cols r):=by simp [AH,hj,he]
 have l1:=(List.getElem?_eq_some_iff.1 h1).1
 have l2:=(List.getElem?_eq_some_iff.1 h2).1
 have e1:=(List.getElem?_eq_some_iff.1 h1).2
 have e2:=(List.getElem?_eq_some_iff.1 h2).2
 have hp:=List.pairwise_iff_getElem.1 h.nd
 rcases Nat.lt_trichotomy i j with h3|h3|h3
 ·exact absurd (e1.trans e2.symm) (hp i j l1 l2 h3)
 ·exact h3
 ·exact absurd (e2.trans e1.symm) (hp j i l2 l1 h3)
structure Split (L:W→Bool) (ls:List UInt8) (t:A2) (u v:W):Prop where
 suf:∃p,p≠[]∧u=p++v
 new:v∉t.cols
 opens:∃r∈t.rows,∃c∈ls,marks L (t.cols++[v]) (r++[c])∉AH L ⟨t.rows,t.cols++[v]⟩
theorem PM{L:W→Bool}{ls:List UInt8}{t:A2}(h:A3 L ls t)(b:Bool):∀(u:W) (i:Nat) (r:W),Al ls u→t.rows[i]? = some r→L (r++u)=b→L (t.rows.getD (runM L t i u) [])≠b→∃v,splitAt L t b i u=some v∧Split L ls t u v
 | [],i,r,_,hi,hb,hn=>by
  have h1:t.rows.getD i []=r:=by simp [hi]
  rw [List.append_nil] at hb
  exact absurd (by show L (t.rows.getD i [])=b;rw [h1];exact hb) hn
 | c :: v,i,r,hu,hi,hb,hn=>by
  have hc:c∈ls:=hu c (by simp)
  have hgd:t.rows.getD i []=r:=by simp [hi]
  obtain⟨r',h1,h2⟩:=h.idx hi hc
  have hgd':t.rows.getD (Cv L t (r++[c])) []=r':=by simp [h1]
  unfold splitAt
  rw [hgd,hgd']
  by_cases hv:L (r'++v)≠b
  ·rw [if_pos hv]
   have hrc:r++c::v=(r++[c])++v:=by simp
   have hne:L ((r++[c])++v)≠L (r'++v):=by rw [←hrc,hb];exact fun e=>hv e.symm
   refine⟨v,rfl,⟨[c],by simp,rfl⟩,fun hm=>hne ((Lg.1 h2 v hm).symm),r,List.mem_of_getElem? hi,c,hc,fun hm=>?_⟩
   unfold AH at hm
   obtain⟨s,hs,he⟩:=List.mem_map.1 hm
   simp only [Na] at he
   obtain⟨e1,e2⟩:=List.append_inj' he rfl
   obtain⟨q,hq,hqe⟩:=List.getElem_of_mem hs
   have hsq:t.rows[q]? = some s:=by rw [List.getElem?_eq_getElem hq,hqe]
   have:=h.row hsq h1 (e1.trans h2.symm)
   subst this
   rw [hsq] at h1
   injection h1 with h1
   subst h1
   have e3:Ou (L (s++v))=Ou (L (r++[c]++v)):=by simpa using e2
   exact hne (Si e3).symm
  ·rw [if_neg hv]
   have hv':L (r'++v)=b:=by simpa using hv
   have hn':L (t.rows.getD (runM L t (Cv L t (r++[c])) v) [])≠b:=by
    have:runM L t i (c::v)=runM L t (Cv L t (r++[c])) v:=by show runM L t (Cv L t (t.rows.getD i []++[c])) v=_;rw [hgd]
    rwa [this] at hn
   obtain⟨w,h3,⟨p,hp,h4⟩,h5,h6⟩:=PM h b v _ r' (fun x hx=>hu x (by simp [hx])) h1 hv' hn'
   exact⟨w,h3,⟨c::p,by simp,by rw [h4];rfl⟩,h5,h6⟩
theorem TOk.Oq{L:W→Bool}{ls:List UInt8}{t:A2}{v:W}(h:TOk L ls t)(hv:Al ls v)(hn:v∉t.cols):TOk L ls ⟨t.rows,t.cols++[v]⟩:=by
 have h0:0 < t.cols.length:=(List.getElem?_eq_some_iff.1 h.c0).1
 refine⟨h.r0,by show (t.cols++[v])[0]? = _;rw [List.getElem?_append_left h0];exact h.c0,h.pre,h.onR,fun c hc=>?_,?_,?_⟩
 ·rcases List.mem_append.1 hc with hc|hc
  ·exact h.onC c hc
  ·simp at hc;subst hc;exact hv
 ·have hnd:=h.nd
  unfold AH List.Nodup at *
  rw [List.pairwise_map] at *
  refine hnd.imp fun {a b} hne he=>hne ?_
  simp only [Na] at he
  exact(List.append_inj' he rfl).1
 ·rw [List.nodup_append]
  exact⟨h.ndC,by simp,fun a ha b hb e=>by simp at hb;subst hb;exact hn (e ▸ ha)⟩
theorem XK{L:W→Bool}{ls:List UInt8}{t:A2}{r:W}{c:UInt8}(hr:r∈t.rows)(hc:c∈ls)(hm:marks L t.cols (r++[c])∉AH L t):A5 L ls t≠none:=fun h=>hm (FT h r hr c hc)
def Hl(L:W→Bool)(t:A2)(w:W):Bool:=L (t.rows.getD (runM L t 0 w) [])
def Pj(L:W→Bool)(ls:List UInt8)(t:A2)(w:W):Option A2:=(splitAt L t (L w) 0 w).bind fun v=>A9 L ls 13 ⟨t.rows,t.cols++[v]⟩
structure Next (L:W→Bool) (ls:List UInt8) (t:A2) (w v:W) (t':A2):Prop where
 split:splitAt L t (L w) 0 w=some v
 close:A9 L ls 13 ⟨t.rows,t.cols++[v]⟩=some t'
 next:Pj L ls t w=some t'
 ok:A3 L ls t'
 cols:t'.cols=t.cols++[v]
 new:v∉t.cols
 suf:∃p,p≠[]∧w=p++v
 more:t.rows.length < t'.rows.length
 pre:t.rows <+: t'.rows
theorem TOk.closed{L:W→Bool}{ls:List UInt8}{t:A2}(h:TOk L ls t)(ho:A5 L ls t=none):A3 L ls t:=⟨h,FT ho⟩
theorem NX{L:W→Bool}{ls:List UInt8}{n:Nat}(f:Fin L ls n)(hn:n≤12){t:A2}(h:A3 L ls t){w:W}(hw:Al ls w)(hd:Hl L t w≠L w):∃v t',Next L ls t w v t':=by
 obtain⟨v,h1,⟨p,hp,h2⟩,h3,r,hr,c,hc,h4⟩:=PM h (L w) w 0 [] hw h.r0 rfl hd
 have hv:Al ls v:=fun x hx=>hw x (by rw [h2];simp [hx])
 have h5:=h.toTOk.Oq hv h3
 have h6:=XK (t:=⟨t.rows,t.cols++[v]⟩) hr hc h4
 have h0:0 < t.rows.length:=(List.getElem?_eq_some_iff.1 h.r0).1
 obtain⟨t',e1,e2,e3,e4,e5,e6⟩:=Jc f hn 13 _ h5 (by omega)
 exact⟨v,t',h1,e1,by simp [Pj,h1,e1],e2.closed e3,e5,h3,⟨p,hp,h2⟩,e6 h6,e4⟩
def DM(L:W→Bool)(ls:List UInt8)(wr:A2→Option W)(t0:A2):Nat→A2
 | 0=>t0
 | k+1=>match wr (DM L ls wr t0 k) with
  | none=>DM L ls wr t0 k
  | some w=>(Pj L ls (DM L ls wr t0 k) w).getD (DM L ls wr t0 k)
structure Wr (L:W→Bool) (ls:List UInt8) (wr:A2→Option W):Prop where
 on:∀t w,wr t=some w→A3 L ls t→Al ls w∧Hl L t w≠L w
theorem PR{L:W→Bool}{ls:List UInt8}{n:Nat}(f:Fin L ls n)(hn:n≤12){wr:A2→Option W}(hwr:Wr L ls wr){t0:A2}(h0:A3 L ls t0)(hc:t0.cols.length=1):∀k,(∀j,j < k→wr (DM L ls wr t0 j)≠none)→
 A3 L ls (DM L ls wr t0 k)∧k+1≤(DM L ls wr t0 k).rows.length∧(DM L ls wr t0 k).cols.length=k+1
 | 0,_=>⟨h0,(List.getElem?_eq_some_iff.1 h0.r0).1,hc⟩
 | k + 1,h=>by
  obtain⟨h1,h2,h3⟩:=PR f hn hwr h0 hc k fun j hj=>h j (by omega)
  have h4:=h k (by omega)
  unfold DM
  cases hw:wr (DM L ls wr t0 k) with
  | none=>exact absurd hw h4
  | some w=>
   obtain⟨h5,h6⟩:=hwr.on _ w hw h1
   obtain⟨v,t',hN⟩:=NX f hn h1 h5 h6
   simp only [hN.next,Option.getD_some]
   refine⟨hN.ok,by have:=hN.more;omega,by rw [hN.cols];simp [h3]⟩
theorem QG{L:W→Bool}{ls:List UInt8}{n:Nat}(f:Fin L ls n)(hn:n≤12){wr:A2→Option W}(hwr:Wr L ls wr){t0:A2}(h0:A3 L ls t0)(hc:t0.cols.length=1) :
 ∃k,k < 12∧wr (DM L ls wr t0 k)=none∧∀j,j < k→wr (DM L ls wr t0 j)≠none:=by
 have key : ∀m,(∃k,k < m∧wr (DM L ls wr t0 k)=none∧∀j,j < k→wr (DM L ls wr t0 j)≠none)∨∀j,j < m→wr (DM L ls wr t0 j)≠none:=by
  intro m
  induction m with
  | zero=>exact .inr fun j hj=>by omega
  | succ m ih=>
   rcases ih with ⟨k,h1,h2,h3⟩|ih
   ·exact .inl ⟨k,by omega,h2,h3⟩
   ·by_cases hm:wr (DM L ls wr t0 m)=none
    ·exact .inl ⟨m,by omega,hm,ih⟩
    ·refine .inr fun j hj=>?_
     by_cases hjm:j=m
     ·subst hjm;exact hm
     ·exact ih j (by omega)
 rcases key 12 with h|h
 ·exact h
 ·have h1:=PR f hn hwr h0 hc 12 h
  have:=h1.1.ab f
  omega
def AL(a:AN):Int→W→Int
 | q,[]=>q
 | q,c::w=>AL a (Bm a q.toNat ((c.toNat:Int) - 97)) w
def LA(a:AN)(w:W):Bool:=a.ac.getD (AL a 0 w).toNat false
theorem Ck(a:AN):∀(u w:W) (q:Int),AL a q (u++w)=AL a (AL a q u) w
 | [],_,_=>rfl
 | c::u,w,q=>Ck a u w _
theorem Eo{l:Int}(h0:0≤l)(h1:l < 6):((lb l).toNat:Int) - 97=l:=by
 unfold lb
 have:(97+l.toNat) % 256=97+l.toNat:=by omega
 simp [this]
 omega
theorem FK{al:Int}{c:UInt8}(h:c∈AP al):0≤(c.toNat:Int) - 97∧(c.toNat:Int) - 97 < 6:=by
 obtain⟨l,hl,rfl⟩:=List.mem_map.1 h
 have h1:=Au hl
 rw [Eo h1.1 (by omega)]
 omega
theorem Dg{a:AN}(ha:Ay a=true){al:Int}:∀(w:W) (q:Int),Al (AP al) w→0≤q∧q < a.nx.length→0≤AL a q w∧AL a q w < a.nx.length
 | [],q,_,hq=>hq
 | c::w,q,hw,hq=>by
  have h1:=FK (hw c (by simp))
  have h2:=GB ha (q:=q.toNat) (by omega) h1.1 h1.2
  exact Dg ha w _ (fun x hx=>hw x (by simp [hx])) h2
def Tk{a:AN}(ha:Ay a=true)(al:Int):Fin (LA a) (AP al) a.nx.length where
 st w:=(AL a 0 w).toNat
 lt w hw:=by
  have h1:=Ar ha
  have:=Dg ha w 0 hw (by omega)
  omega
 same u w v hu hw hv h:=by
  have h1:=Ar ha
  have h2:=Dg ha u 0 hu (by omega)
  have h3:=Dg ha w 0 hw (by omega)
  have h4:AL a 0 u=AL a 0 w:=by omega
  unfold LA
  rw [Ck,Ck,h4]
section
variable {α:Type}[DecidableEq α]
def Od{α:Type}(f:α→Int→α):α→List Int→α
 | q,[]=>q
 | q,l::w=>Od f (f q l) w
theorem PD{α:Type}(f:α→Int→α):∀(u w:List Int) (q:α),Od f q (u++w)=Od f (Od f q u) w
 | [],_,_=>rfl
 | l::u,w,q=>PD f u w _
def Et(lim:Nat)(f:α→Int→α)(q:α):List α→List Int→List Int→Option (List α×List Int)
 | nd,row,[]=>some (nd,row)
 | nd,row,l::ls=>if f q l∈nd then Et lim f q nd (row++[((nd.idxOf (f q l):Nat):Int)]) ls
  else if nd.length=lim then none else Et lim f q (nd++[f q l]) (row++[(nd.length:Int)]) ls
def E7(lim:Nat)(f:α→Int→α)(ls:List Int):Nat→List α→List (List Int)→Option (List α×List (List Int))
 | 0,nd,rows=>some (nd,rows)
 | k + 1,nd,rows=>match nd[rows.length]? with
  | none=>some (nd,rows)
  | some q=>match Et lim f q nd [] ls with
   | none=>none
   | some p=>E7 lim f ls k p.1 (rows++[p.2])
def Mu(lim:Nat)(f:α→Int→α)(ls:List Int)(s:α):Option (List α×List (List Int)):=E7 lim f ls lim [s] []
structure Part (f:α→Int→α) (ls:List Int) (s:α) (nd:List α) (rows:List (List Int)) (lim:Nat):Prop where
 st:nd[0]? = some s
 nodup:nd.Nodup
 len:rows.length≤nd.length
 lim:nd.length≤lim
 row:∀(i:Nat) (r:List Int),rows[i]? = some r→∃q,nd[i]? = some q∧r=ls.map (fun l=>((nd.idxOf (f q l):Nat):Int))∧∀l∈ls,f q l∈nd
 rc:∀q∈nd,∃w:List Int,(∀l∈w,l∈ls)∧Od f s w=q
theorem NZ{lim:Nat}{f:α→Int→α}{ls:List Int}{s q:α}{rows:List (List Int)}{i:Nat}:∀(rs ds:List Int) {nd:List α} {row:List Int} {nd':List α} {row':List Int},ls=ds++rs→Part f ls s nd rows lim→nd[i]? = some q→row=ds.map (fun l=>((nd.idxOf (f q l):Nat):Int))→(∀l∈ds,f q l∈nd)→
 Et lim f q nd row rs=some (nd',row')→Part f ls s nd' rows lim∧nd'[i]? = some q∧row'=ls.map (fun l=>((nd'.idxOf (f q l):Nat):Int))∧∀l∈ls,f q l∈nd'
 | [],ds,nd,row,nd',row',e,h,hi,hr,hm,hh=>by
  simp only [Et,Option.some.injEq,Prod.mk.injEq] at hh
  obtain⟨rfl,rfl⟩:=hh
  rw [List.append_nil] at e
  subst e
  exact⟨h,hi,hr,hm⟩
 | l :: rs, ds,nd,row,nd',row',e,h,hi,hr,hm,hh=>by
  simp only [Et] at hh
  split at hh
  ·rename_i hin
   exact NZ rs (ds++[l]) (by rw [e];simp) h hi (by rw [hr];simp) (fun m hml=>by
    rcases List.mem_append.1 hml with h1|h1
    ·exact hm m h1
    ·simp at h1;subst h1;exact hin) hh
  ·rename_i hin
   split at hh
   ·cases hh
   ·rename_i hl
    have hix:∀x∈nd,(nd++[f q l]).idxOf x=nd.idxOf x:=fun x hx=>by rw [List.idxOf_append,if_pos hx]
    have hlim:=h.lim
    refine NZ rs (ds++[l]) (by rw [e];simp) ⟨?_,?_,?_,by simp;omega,?_,?_⟩ ?_ ?_ ?_ hh
    ·rw [List.getElem?_append_left (List.getElem?_eq_some_iff.1 h.st).1];exact h.st
    ·exact List.nodup_append.2 ⟨h.nodup,by simp,fun a ha b hb=>by simp at hb;subst hb;exact fun e=>hin (e ▸ ha)⟩
    ·have:=h.len;simp;omega
    ·intro j r hj
     obtain⟨p,h1,h2,h3⟩:=h.row j r hj
     refine⟨p,by rw [List.getElem?_append_left (List.getElem?_eq_some_iff.1 h1).1];exact h1,?_,fun m hml=>List.mem_append_left _ (h3 m hml)⟩
     rw [h2]
     exact List.map_congr_left fun m hml=>by rw [hix _ (h3 m hml)]
    ·intro x hx
     rcases List.mem_append.1 hx with h1|h1
     ·exact h.rc x h1
     ·simp at h1;subst h1
      obtain⟨w,h1,h2⟩:=h.rc q (List.mem_of_getElem? hi)
      refine⟨w++[l],fun m hml=>?_,by rw [PD,h2];rfl⟩
      rcases List.mem_append.1 hml with h3|h3
      ·exact h1 m h3
      ·simp at h3;subst h3;rw [e];simp
    ·rw [List.getElem?_append_left (List.getElem?_eq_some_iff.1 hi).1];exact hi
    ·rw [hr,List.map_append]
     congr 1
     ·exact List.map_congr_left fun m hml=>by rw [hix _ (hm m hml)]
     ·simp [List.idxOf_append,hin]
    ·intro m hml
     rcases List.mem_append.1 hml with h1|h1
     ·exact List.mem_append_left _ (hm m h1)
     ·simp at h1;subst h1;simp
structure Td (f:α→Int→α) (ls:List Int) (s:α) (nd:List α) (rows:List (List Int)):Prop where
 st:nd[0]? = some s
 nodup:nd.Nodup
 len:rows.length=nd.length
 row:∀(i:Nat) (q:α),nd[i]? = some q→rows[i]? = some (ls.map fun l=>((nd.idxOf (f q l):Nat):Int))
 cl:∀q∈nd,∀l∈ls,f q l∈nd
 rc:∀q∈nd,∃w:List Int,(∀l∈w,l∈ls)∧Od f s w=q
theorem Part.done{f:α→Int→α}{ls:List Int}{s:α}{nd:List α}{rows:List (List Int)}{lim:Nat}(h:Part f ls s nd rows lim)(hl:nd.length≤rows.length):Td f ls s nd rows:=by
 have hln:=h.len
 have key:∀(i:Nat) (q:α),nd[i]? = some q→rows[i]? = some (ls.map fun l=>((nd.idxOf (f q l):Nat):Int))∧∀l∈ls,f q l∈nd:=fun i q hi=>by
  have hlt:=(List.getElem?_eq_some_iff.1 hi).1
  obtain⟨r,hr⟩:∃r,rows[i]? = some r:=⟨_,List.getElem?_eq_getElem (by omega)⟩
  obtain⟨p,h1,h2,h3⟩:=h.row i r hr
  rw [hi] at h1;injection h1 with h1;subst h1
  exact⟨by rw [hr,h2],h3⟩
 refine⟨h.st,h.nodup,by omega,fun i q hi=>(key i q hi).1,fun q hq=>?_,h.rc⟩
 obtain⟨i,hi⟩:=List.mem_iff_getElem?.1 hq
 exact(key i q hi).2
theorem Jq{lim lim':Nat}(hl:lim≤lim'){f:α→Int→α}{q:α}:∀(ls:List Int) {nd:List α} {row:List Int} {p:List α×List Int},nd.length≤lim→Et lim f q nd row ls=some p→Et lim' f q nd row ls=some p
 | [],nd,row,p,_,h=>h
 | l :: ls,nd,row,p,hn,h=>by
  simp only [Et] at h ⊢
  split at h
  ·rename_i hin
   rw [if_pos hin];exact Jq hl ls hn h
  ·rename_i hin
   rw [if_neg hin]
   split at h
   ·cases h
   ·rename_i hne
    rw [if_neg (by omega)]
    exact Jq hl ls (by simp;omega) h
theorem Part.push{f:α→Int→α}{ls:List Int}{s q:α}{nd:List α}{rows:List (List Int)}{lim:Nat}{p:List α×List Int}(h:Part f ls s nd rows lim)(hq:nd[rows.length]? = some q)(hp:Et lim f q nd [] ls=some p):Part f ls s p.1 (rows++[p.2]) lim:=by
 obtain⟨h1,h2,h3,h4⟩:=NZ ls [] (row:=[]) (nd':=p.1) (row':=p.2) rfl h hq rfl (by simp) hp
 have hlt:=(List.getElem?_eq_some_iff.1 h2).1
 refine⟨h1.st,h1.nodup,by simp;omega,h1.lim,fun j r hj=>?_,h1.rc⟩
 rcases Nat.lt_or_ge j rows.length with h5|h5
 ·rw [List.getElem?_append_left h5] at hj;exact h1.row j r hj
 ·rw [List.getElem?_append_right h5] at hj
  have h6:j - rows.length < 1:=(List.getElem?_eq_some_iff.1 hj).1
  obtain rfl:j=rows.length:=by omega
  simp at hj;subst hj
  exact⟨q,h2,h3,h4⟩
theorem RM{lim:Nat}{f:α→Int→α}{ls:List Int}{s:α}:∀(k:Nat) {nd:List α} {rows:List (List Int)} {p:List α×List (List Int)},lim≤k+rows.length→Part f ls s nd rows lim→E7 lim f ls k nd rows=some p→Td f ls s p.1 p.2∧p.1.length≤lim∧∀lim' k',lim≤lim'→k≤k'→E7 lim' f ls k' nd rows=some p
 | 0,nd,rows,p,hk,h,hh=>by
  simp only [E7,Option.some.injEq] at hh
  subst hh
  have hlim:=h.lim
  refine⟨h.done (by omega),h.lim,fun lim' k' hl hk'=>?_⟩
  cases k' with
  | zero=>rfl
  | succ k'=>simp only [E7];rw [List.getElem?_eq_none (by omega)]
 | k + 1, nd,rows,p,hk,h,hh=>by
  simp only [E7] at hh
  split at hh
  ·rename_i hn
   simp only [Option.some.injEq] at hh
   subst hh
   refine⟨h.done (by simpa using hn),h.lim,fun lim' k' hl hk'=>?_⟩
   cases k' with
   | zero=>omega
   | succ k'=>simp only [E7];rw [hn]
  ·rename_i q hq
   split at hh
   ·cases hh
   ·rename_i p1 hp
    obtain⟨h1,h2,h3⟩:=RM k (by simp;omega) (h.push hq hp) hh
    refine⟨h1,h2,fun lim' k' hl hk'=>?_⟩
    cases k' with
    | zero=>omega
    | succ k'=>
     simp only [E7]
     rw [hq]
     simp only
     rw [Jq hl ls h.lim hp]
     exact h3 lim' k' hl (by omega)
theorem N0{lim:Nat}{f:α→Int→α}{ls:List Int}{s:α}{nd:List α}{rows:List (List Int)}(h1:1≤lim)(h:Mu lim f ls s=some (nd,rows)):Td f ls s nd rows∧nd.length≤lim∧∀lim',lim≤lim'→Mu lim' f ls s=some (nd,rows):=by
 obtain⟨a,b,c⟩:=RM lim (by simp) ⟨rfl,by simp,by simp,by simpa using h1,by simp,fun q hq=>⟨[],by simp,by simp at hq;subst hq;rfl⟩⟩ h
 exact⟨a,b,fun lim' hl=>c lim' lim' hl hl⟩
end
theorem Xo:∀(n:Nat) (l:List Nat),l.Nodup→(∀x∈l,x < n)→n≤l.length→∀x,x < n→x∈l:=fun n l hd hl hn x hx=>by
 refine Classical.byContradiction fun hc=>?_
 have:=GJ n (x::l) (List.nodup_cons.2 ⟨hc,hd⟩) (fun y hy=>by
  rcases List.mem_cons.1 hy with rfl|h
  ·exact hx
  ·exact hl y h)
 simp at this;omega
theorem UO{n:Nat}{l:List Int}(hd:l.Nodup)(hl:∀x∈l,0≤x∧x < n)(hn:n≤l.length){x:Int}(hx:0≤x∧x < n):x∈l:=by
 have h1:(l.map Int.toNat).Nodup:=by
  unfold List.Nodup at *
  rw [List.pairwise_map]
  refine(List.Pairwise.and_mem.1 hd).imp fun {a b} h e=>?_
  have ha:=hl a h.1
  have hb:=hl b h.2.1
  exact h.2.2 (by omega)
 have h2:=Xo n (l.map Int.toNat) h1 (fun y hy=>by
  obtain⟨z,hz,rfl⟩:=List.mem_map.1 hy
  have:=hl z hz;omega) (by simpa using hn) x.toNat (by omega)
 obtain⟨z,hz,he⟩:=List.mem_map.1 h2
 have:=hl z hz
 obtain rfl:z=x:=by omega
 exact hz
theorem Jr{lim:Nat}{f:Int→Int→Int}{q:Int}(hn:∀nd:List Int,nd.Nodup→(∀x∈nd,0≤x∧x < lim)→nd.length=lim→∀x:Int,0≤x∧x < lim→x∈nd):∀(ls:List Int) {nd row:List Int},nd.Nodup→(∀x∈nd,0≤x∧x < (lim:Int))→(∀l∈ls,0≤f q l∧f q l < lim)→∃p,Et lim f q nd row ls=some p∧p.1.Nodup∧∀x∈p.1,0≤x∧x < (lim:Int)
 | [],nd,row,hd,hb,_=>⟨(nd,row),rfl,hd,hb⟩
 | l :: ls,nd,row,hd,hb,hf=>by
  simp only [Et]
  have hfl:=hf l (by simp)
  by_cases hin:f q l∈nd
  ·rw [if_pos hin];exact Jr hn ls hd hb fun m hm=>hf m (by simp [hm])
  ·rw [if_neg hin,if_neg fun e=>hin (hn nd hd hb e _ hfl)]
   exact Jr hn ls (List.nodup_append.2 ⟨hd,by simp,fun a ha b hb=>by simp at hb;subst hb;exact fun e=>hin (e ▸ ha)⟩) (fun x hx=>by
    rcases List.mem_append.1 hx with h|h
    ·exact hb x h
    ·simp at h;subst h;exact hfl) fun m hm=>hf m (by simp [hm])
theorem MF{lim:Nat}{f:Int→Int→Int}{ls:List Int}(hf:∀q l:Int,0≤q∧q < lim→l∈ls→0≤f q l∧f q l < lim):∀(k:Nat) {nd:List Int} {rows:List (List Int)},nd.Nodup→(∀x∈nd,0≤x∧x < (lim:Int))→∃p,E7 lim f ls k nd rows=some p
 | 0,nd,rows,_,_=>⟨_,rfl⟩
 | k + 1,nd,rows,hd,hb=>by
  simp only [E7]
  split
  ·exact⟨_,rfl⟩
  ·rename_i q hq
   obtain⟨p,h1,h2,h3⟩:=Jr (q:=q) (f:=f) (fun nd hd hb hl x hx=>UO hd hb (by omega) hx) ls (row:=[]) hd hb (fun l hl=>hf q l (hb q (List.mem_of_getElem? hq)) hl)
   rw [h1]
   exact MF hf k h2 h3
theorem TM{lim:Nat}{f:Int→Int→Int}{ls:List Int}{s:Int}(hf:∀q l:Int,0≤q∧q < lim→l∈ls→0≤f q l∧f q l < lim)(hs:0≤s∧s < (lim:Int)):∃p,Mu lim f ls s=some p:=
 MF hf lim (by simp) (fun x hx=>by simp at hx;subst hx;exact hs)
section
variable {α β:Type}[DecidableEq α][DecidableEq β]
theorem RZ{R:α→Prop}{φ:α→β}(hi:∀a b,R a→R b→φ a=φ b→a=b):∀ {nd:List α} {x:α},(∀y∈nd,R y)→R x→((φ x∈nd.map φ↔x∈nd)∧(nd.map φ).idxOf (φ x)=nd.idxOf x)
 | [],x,_,_=>⟨by simp,rfl⟩
 | y :: nd,x,h,hx=>by
  obtain⟨h1,h2⟩:=RZ hi (nd:=nd) (fun z hz=>h z (by simp [hz])) hx
  have e:φ x=φ y↔x=y:=⟨hi x y hx (h y (by simp)),fun e=>by rw [e]⟩
  refine⟨by rw [List.map_cons,List.mem_cons,List.mem_cons,h1,e],?_⟩
  rw [List.map_cons,List.idxOf_cons,List.idxOf_cons,h2]
  by_cases e2:y=x
  ·subst e2;simp
  ·have e3:¬φ y=φ x:=fun h=>e2 (e.1 h.symm).symm
   simp [beq_eq_false_iff_ne.2 e2,beq_eq_false_iff_ne.2 e3]
theorem Lp{lim:Nat}{f:α→Int→α}{g:β→Int→β}{R:α→Prop}{φ:α→β}(hi:∀a b,R a→R b→φ a=φ b→a=b){q:α}:∀(ls:List Int) {nd:List α} {row:List Int},(∀y∈nd,R y)→(∀l∈ls,R (f q l)∧φ (f q l)=g (φ q) l)→
 (Et lim g (φ q) (nd.map φ) row ls=(Et lim f q nd row ls).map fun p=>(p.1.map φ,p.2))∧∀p,Et lim f q nd row ls=some p→∀y∈p.1,R y
 | [],nd,row,h,_=>⟨rfl,fun p hp=>by simp only [Et,Option.some.injEq] at hp;subst hp;exact h⟩
 | l :: ls,nd,row,h,hf=>by
  obtain⟨f1,f2⟩:=hf l (by simp)
  obtain⟨h1,h2⟩:=RZ hi h f1
  simp only [Et]
  rw [←f2,h2]
  by_cases hin:f q l∈nd
  ·rw [if_pos hin,if_pos (h1.2 hin)]
   exact Lp hi ls h fun m hm=>hf m (by simp [hm])
  ·rw [if_neg hin,if_neg (fun e=>hin (h1.1 e)),List.length_map]
   by_cases hl:nd.length=lim
   ·rw [if_pos hl,if_pos hl];exact⟨rfl,fun p hp=>by cases hp⟩
   ·rw [if_neg hl,if_neg hl]
    have e:nd.map φ++[φ (f q l)]=(nd++[f q l]).map φ:=by simp
    rw [e]
    exact Lp hi ls (fun y hy=>by
     rcases List.mem_append.1 hy with h3|h3
     ·exact h y h3
     ·simp at h3;subst h3;exact f1) fun m hm=>hf m (by simp [hm])
theorem OA{lim:Nat}{f:α→Int→α}{g:β→Int→β}{ls:List Int}{R:α→Prop}{φ:α→β}(hi:∀a b,R a→R b→φ a=φ b→a=b)(hR:∀q l,R q→l∈ls→R (f q l)∧φ (f q l)=g (φ q) l):∀(k:Nat) {nd:List α} {rows:List (List Int)},(∀y∈nd,R y)→
 E7 lim g ls k (nd.map φ) rows=(E7 lim f ls k nd rows).map fun p=>(p.1.map φ,p.2)
 | 0,nd,rows,h=>rfl
 | k + 1,nd,rows,h=>by
  simp only [E7]
  rw [List.getElem?_map]
  cases hq:nd[rows.length]? with
  | none=>rfl
  | some q=>
   obtain⟨h1,h2⟩:=Lp (lim:=lim) (f:=f) (g:=g) hi (q:=q) ls (row:=[]) h (fun l hl=>hR q l (h q (List.mem_of_getElem? hq)) hl)
   simp only [Option.map_some]
   rw [h1]
   cases hr:Et lim f q nd [] ls with
   | none=>rfl
   | some p=>exact OA hi hR k (h2 p hr)
theorem VA{lim:Nat}{f:α→Int→α}{g:β→Int→β}{ls:List Int}{R:α→Prop}{φ:α→β}(hi:∀a b,R a→R b→φ a=φ b→a=b)(hR:∀q l,R q→l∈ls→R (f q l)∧φ (f q l)=g (φ q) l){s:α}(hs:R s) :
 Mu lim g ls (φ s)=(Mu lim f ls s).map fun p=>(p.1.map φ,p.2):=OA hi hR lim (nd:=[s]) (fun y hy=>by simp at hy;subst hy;exact hs)
end
end Go.Am
