/-
  The tables that the rows list, as the walks want them.
-/
import Derived.Test.YtkdilmleinnfiaaGreatDoorPart27
import Derived.Test.YtkdilmleinnfiaaGreatDoorPart9
import Derived.Test.YtkdilmleinnfiaaGreatDoorPart14
import Derived.Test.YtkdilmleinnfiaaGreatDoorPart17
import Derived.Test.YtkdilmleinnfiaaGreatDoorPart20
import Derived.Test.YtkdilmleinnfiaaGreatDoorPart22
import Derived.Test.YtkdilmleinnfiaaGreatDoorPart23
set_option linter.constructorNameAsVariable false
set_option linter.unusedSectionVars false
set_option linter.unusedSimpArgs false
set_option linter.unusedVariables false
namespace Go.Proofs.YtkdilmleinnfiaaGreatDoor
open Go Go.Am Go.ChangeShapes Go.WideShapes Go.ChangeAt Go.RowKit
def jf(l:List Value):List Int:=l.map fun v=>match v with|.int _ n=>n|_=>0
theorem jb{P:Program}{W:World}{name:String}{g:Nat}{t e:TypeId}{n:Nat}{zs:List Int}{fuel:Nat}{cs:Array Value}{p:List MemPlace}(hg:P.globalNamed name=some g)(ht:P.underlying t=some (.array n e))(he:P.underlying e=some (.int .u8))(hce:P.cellsOf e=1)(hct:P.cellsOf t=n)
 (hv:W.var? P name=some cs) (hd:DataW.trod (fun _=>()) P W 0 (fun _=>true) false fuel t cs.toList=some (Lib.tabData .u8 zs,p)):∃T fr,W.heap[g]? = some (.cells (zs.map fun z=>Value.int .u8 z).toArray T fr):=by
 have h:=Lib.cells_of_tab ht he hce hct hd
 unfold World.var? at hv
 rw [hg] at hv
 simp only [Option.bind_some] at hv
 split at hv
 ·rename_i c T fr hh
  injection hv with hv
  subst hv
  refine⟨T,fr,?_⟩
  rw [hh,←h]
 ·cases hv
theorem tables {W:World} {rest:List (String×DataW Unit)} (h:laidMet Tryz.prog (("math/bits.deBruijn32tab",Rows.laid_math_bits_deBruijn32tab)::("math/bits.deBruijn64tab",Rows.laid_math_bits_deBruijn64tab)::rest) W):∃tabs:List (Nat×Obj),Fo ⟨tabs,none⟩∧∀x∈(⟨tabs,none⟩:Be),below W x.1∧W.heap[x.1]? = some x.2:=by
 obtain⟨ps,⟨g0,t0,cs0,f0,p0,q0,hg0,ht0,hv0,hd0,⟨g1,t1,cs1,f1,p1,q1,hg1,ht1,hv1,hd1,_,_⟩,_⟩,_,_⟩:=h
 have k0:Tryz.prog.globalNamed "math/bits.deBruijn32tab" = some 1:=by kernel_rfl
 have k1:Tryz.prog.globalNamed "math/bits.deBruijn64tab" = some 2:=by kernel_rfl
 obtain rfl:=Option.some.inj (k0.symm.trans hg0)
 obtain rfl:=Option.some.inj (k1.symm.trans hg1)
 have l0:(Tryz.prog.globals[1]?).map (·.type)=some 306:=by kernel_rfl
 have l1:(Tryz.prog.globals[2]?).map (·.type)=some 307:=by kernel_rfl
 obtain rfl:=Option.some.inj (l0.symm.trans ht0)
 obtain rfl:=Option.some.inj (l1.symm.trans ht1)
 obtain⟨T0,fr0,h0⟩:=jb (zs:=jf FY) k0 Tryz.underlying306 Tryz.underlying5 (by kernel_rfl) (by kernel_rfl) hv0 hd0
 obtain⟨T1,fr1,h1⟩:=jb (zs:=jf B7) k1 Tryz.underlying307 Tryz.underlying5 (by kernel_rfl) (by kernel_rfl) hv1 hd1
 refine⟨[(1,.cells ((jf FY).map fun z=>Value.int .u8 z).toArray T0 fr0),(2,.cells ((jf B7).map fun z=>Value.int .u8 z).toArray T1 fr1)],⟨⟨⟨_,_,_,List.mem_cons_self,fun i v hv=>?_⟩,by decide⟩,⟨⟨_,_,_,List.mem_cons_of_mem _ List.mem_cons_self,fun i v hv=>?_⟩,by decide⟩⟩,?_⟩
 ·have:FY=(jf FY).map fun z=>Value.int .u8 z:=rfl
  rw [List.getElem?_toArray,←this];exact hv
 ·have:B7=(jf B7).map fun z=>Value.int .u8 z:=rfl
  rw [List.getElem?_toArray,←this];exact hv
 ·intro x hx
  have hx:x∈[_,_]:=hx
  simp only [List.mem_cons,List.not_mem_nil,or_false] at hx
  rcases hx with rfl|rfl
  ·exact⟨(Array.getElem?_eq_some_iff.1 h0).1,h0⟩
  ·exact⟨(Array.getElem?_eq_some_iff.1 h1).1,h1⟩
theorem jy{H:Type}{enc:TypeId×Value→H}{P:Program}{w:World}{t:TypeId}{v:Value}{d:DataW H}{ps:List MemPlace}{base:Nat}(ht:P.underlying t=some (.int .i64))(hv:Value.okWide P w .any base t v)(hd:DataW.Trod enc P w 0 (fun _=>true) true t v d ps):∃n : { n:Int // n < 9223372036854775808 },A2 (PB w) (eI .i64 n.1) v:=by
 obtain⟨m,hm⟩:=hd
 obtain⟨n,hc,_,hw⟩:=DataW.trod_int ht hm
 refine⟨⟨n,by have:=bounds_i64 hw;omega⟩,?_⟩
 have:v=.int .i64 n:=by
  unfold Value.okWide Cell.okWide Cell.ok at hv
  simp only [ht] at hv
  split at hv<;>simp_all [Value.cells]
 subst this
 exact .d (.v rfl)
section
variable {w:World}
theorem jC:Rd Tryz.prog w 30 7 (fun t:Am.Sys×Bn×Int=>Ok t.1++(Ed t.2.1++[iD t.2.2])):=
 IG (k0:=3) (k1:=3) (k2:=1) Tryz.underlying30 ⟨rfl,rfl,rfl⟩ ⟨by kernel_rfl,by kernel_rfl,by kernel_rfl,by kernel_rfl⟩ fX fW (IF Tryz.underlying3)
theorem jB:Rd Tryz.prog w 32 11 (fun te:CL=>Ua te.kn te.p te.s te.q te.al):=
 Rd.map (fun y:Bool×Bn×(Am.Sys×Bn×Int)=>(⟨y.1,y.2.1,y.2.2.1,y.2.2.2.1,y.2.2.2.2⟩:CL)) (fun _=>rfl) (IG (k0:=1) (k1:=3) (k2:=7) Tryz.underlying32 ⟨rfl,rfl,rfl⟩ ⟨by kernel_rfl,by kernel_rfl,by kernel_rfl,by kernel_rfl⟩ (Y0 Tryz.underlying4) fW jC)
abbrev jD:={ s:List UInt8 // s.length≤9223372036854775807 }
theorem iL{P:Program}{t:TypeId}(ht:P.underlying t=some .string):Rd P w t 1 (fun s:jD=>[tD s.1]):=fun enc fuel cs x hx=>by
 obtain⟨s,rfl,_,hs⟩:=DataW.trod_string ht hx
 have h2:s.data.toList.length=s.size:=Array.length_toList
 have h3:s.data.toList.length≤9223372036854775807:=by rw [h2];exact hs
 refine⟨⟨s.data.toList,h3⟩,rfl,rfl,Hr ?_⟩
 have:(⟨s.data.toList.toArray⟩:ByteArray)=s:=by cases s;simp
 show Ch _ _ (.v (.string ⟨s.data.toList.toArray⟩)) _
 rw [this]
 exact .v rfl
theorem jt(l:List jD):∀r∈l.map (·.1),r.length≤9223372036854775807:=fun r hr=>by
 obtain⟨y,_,rfl⟩:=List.mem_map.1 hr
 exact y.2
theorem jA:Rd Tryz.prog w 35 2 (fun x : { x:AN // cf x } => [Ba x.1.rows,Ba x.1.cols]):=
 Rd.map (fun y:List jD×List jD=>(⟨⟨y.1.map (·.1),y.2.map (·.1)⟩,jt _,jt _⟩ : { x:AN // cf x })) (fun y=>by show [D.l _,D.l _]=[D.l _,D.l _];simp only [List.map_map];rfl) (bj (k0:=1) (k1:=1) Tryz.underlying35 ⟨rfl,rfl⟩ ⟨by kernel_rfl,by kernel_rfl,by kernel_rfl⟩ (Jw Tryz.underlying33 (by kernel_rfl) (by decide) (iL Tryz.underlying9)) (Jw Tryz.underlying33 (by kernel_rfl) (by decide) (iL Tryz.underlying9)))
end
end Go.Proofs.YtkdilmleinnfiaaGreatDoor
namespace Go.Am
open Go Go.Proofs
set_option maxHeartbeats 1000000
set_option maxRecDepth 4000
attribute [local irreducible] AV BX Lex Bf Av Spec
variable {TB:Be}
theorem iS(l:List (Int))(h:l.length≤1048576):A3 Tryz.prog TB 189 0 [] 0 [Ag l] (fun x σ nx=>x=.o (.arr 0 1 0 l.length)∧σ=[(0,.cells 3 1 (l.map AI))]∧nx=1):=by
 have hren:∀(r:Nat→Nat) k,(C1 (l.map AI) (AI 0) k).map (C.Bp r)=C1 (l.map AI) (AI 0) k:=fun r k=>Hp (fun x hx=>by obtain⟨y,_,rfl⟩:=List.mem_map.1 hx;rfl) rfl
 have hlm:(l.map AI).length=l.length:=by simp
 refine A3.AW (A3.YL (m:=0) (Nat.le_of_ble_eq_true rfl) Tryz.func189 rfl (by kernel_rfl) (Nat.le_of_ble_eq_true rfl) ?_);intro Γ hΓ
 (repeat first |refine sN rfl ?_ |((first|refine sM rfl ?_ ?_|refine s4 rfl ‹_› rfl ?_ ?_);first|exact tI|omega|simp only[oZ] at *;omega) |refine s2 rfl fun _ _hb=>?_ |refine s3 rfl ?_ ?_<;>rintro rfl |refine aU rfl ?_ |refine Aa ?_ |refine rE (by kernel_rfl) ?_)
 (refine Ai rfl ?_;refine B5 (fun _ _=>BQ rfl) rfl ?_)
 (repeat first |refine sN rfl ?_ |((first|refine sM rfl ?_ ?_|refine s4 rfl ‹_› rfl ?_ ?_);first|exact tI|omega|simp only[oZ] at *;omega) |refine s2 rfl fun _ _hb=>?_ |refine s3 rfl ?_ ?_<;>rintro rfl |refine aU rfl ?_ |refine Aa ?_ |refine rE (by kernel_rfl) ?_)
 (refine pW rfl ?_ rfl (by rfl);refine Ep rfl rfl (by rfl) (by rfl) (Nat.le_of_ble_eq_true rfl) (by omega) (by omega) (by omega) ?_)
 (repeat first |refine sN rfl ?_ |((first|refine sM rfl ?_ ?_|refine s4 rfl ‹_› rfl ?_ ?_);first|exact tI|omega|simp only[oZ] at *;omega) |refine s2 rfl fun _ _hb=>?_ |refine s3 rfl ?_ ?_<;>rintro rfl |refine aU rfl ?_ |refine Aa ?_ |refine rE (by kernel_rfl) ?_)
 refine aB ?_
 refine Av.AR (α:={k:Nat // k≤l.length}) (fun ⟨k,hk⟩=>[(0,Ag l),(3,.o (.arr 0 1 0 l.length)),(4,eI .i64 k)]) (fun ⟨k,hk⟩=>[(0,.cells 3 1 (C1 (l.map AI) (AI 0) k))]) 1 (fun ⟨k,hk⟩=>l.length - k) (⟨0,by omega⟩) [0] (Dq hΓ rfl rfl) (by ((repeat' first|exact tI|rfl|refine And.intro ?_ ?_)<;>(simp[cX,zC,hΓ,Mg,hren]))) ?_;rintro⟨k,hk⟩;(try dsimp only)
 (repeat first |refine sN rfl ?_ |((first|refine sM rfl ?_ ?_|refine s4 rfl ‹_› rfl ?_ ?_);first|exact tI|omega|simp only[oZ] at *;omega) |refine s2 rfl fun _ _hb=>?_ |refine s3 rfl ?_ ?_<;>rintro rfl |refine aU rfl ?_ |refine Aa ?_ |refine rE (by kernel_rfl) ?_)
 (refine aC rfl ?_ ?_<;>rintro⟨⟩)
 ·obtain⟨x,hx⟩:=get_some (l:=l) (k:=k) (by first|omega|simp only[oZ] at *;omega)
  have hx':=get_map (g:=Bm) hx
  have hg:=Ho (l:=l.map AI) (z:=AI 0) (k:=k) (by first|omega|simp only[oZ] at *;omega)
  have hs:=Hq (l:=l.map AI) (z:=AI 0) (k:=k) (x:=AI x) (by simp [hx])
  refine aK ?_
  refine aS (aB ?_)
  (repeat first |refine sN rfl ?_ |((first|refine sM rfl ?_ ?_|refine s4 rfl ‹_› rfl ?_ ?_);first|exact tI|omega|simp only[oZ] at *;omega) |refine s2 rfl fun _ _hb=>?_ |refine s3 rfl ?_ ?_<;>rintro rfl |refine aU rfl ?_ |refine Aa ?_ |refine rE (by kernel_rfl) ?_)
  refine⟨⟨k+1,by first|omega|simp only[oZ] at *;omega⟩,by dsimp only;(first|omega|simp only[oZ] at *;omega),[0],?_⟩
  have hsp:AE (AI 0) 0 (eC (eI .i64 x))=AI x:=rfl
  rw [hsp,hs]
  simp[cX,zC,hΓ,hren]
 ·obtain rfl:k=l.length:=by first|omega|simp only[oZ] at *;omega
  have he:C1 (l.map AI) (AI 0) l.length=l.map AI:=by
   have:=Hn (l.map AI) (AI 0)
   rwa [hlm] at this
  rw [he]
  refine aE ?_
  (repeat first |refine sN rfl ?_ |((first|refine sM rfl ?_ ?_|refine s4 rfl ‹_› rfl ?_ ?_);first|exact tI|omega|simp only[oZ] at *;omega) |refine s2 rfl fun _ _hb=>?_ |refine s3 rfl ?_ ?_<;>rintro rfl |refine aU rfl ?_ |refine Aa ?_ |refine rE (by kernel_rfl) ?_)
  exact aR ⟨_,rfl,[0],.o (.arr 0 1 0 l.length),[(0,.cells 3 1 (l.map AI))],⟨fun i hi=>absurd hi (Nat.not_lt_zero i),by decide⟩,rfl,by ((repeat' first|exact tI|rfl|refine And.intro ?_ ?_)<;>(simp[cX,zC,hΓ,hren,cN]<;>rfl)),rfl,rfl,rfl⟩
theorem iO(l:List (Bool))(h:l.length≤1048576):A3 Tryz.prog TB 121 0 [] 0 [Gk l] (fun x σ nx=>x=.o (.arr 0 1 0 l.length)∧σ=[(0,.cells 4 1 (l.map BE))]∧nx=1):=by
 have hren:∀(r:Nat→Nat) k,(C1 (l.map BE) (BE false) k).map (C.Bp r)=C1 (l.map BE) (BE false) k:=fun r k=>Hp (fun x hx=>by obtain⟨y,_,rfl⟩:=List.mem_map.1 hx;rfl) rfl
 have hlm:(l.map BE).length=l.length:=by simp
 refine A3.AW (A3.YL (m:=0) (Nat.le_of_ble_eq_true rfl) Tryz.func121 rfl (by kernel_rfl) (Nat.le_of_ble_eq_true rfl) ?_);intro Γ hΓ
 (repeat first |refine sN rfl ?_ |((first|refine sM rfl ?_ ?_|refine s4 rfl ‹_› rfl ?_ ?_);first|exact tI|omega|simp only[oZ] at *;omega) |refine s2 rfl fun _ _hb=>?_ |refine s3 rfl ?_ ?_<;>rintro rfl |refine aU rfl ?_ |refine Aa ?_ |refine rE (by kernel_rfl) ?_)
 (refine Ai rfl ?_;refine B5 (fun _ _=>BQ rfl) rfl ?_)
 (repeat first |refine sN rfl ?_ |((first|refine sM rfl ?_ ?_|refine s4 rfl ‹_› rfl ?_ ?_);first|exact tI|omega|simp only[oZ] at *;omega) |refine s2 rfl fun _ _hb=>?_ |refine s3 rfl ?_ ?_<;>rintro rfl |refine aU rfl ?_ |refine Aa ?_ |refine rE (by kernel_rfl) ?_)
 (refine pW rfl ?_ rfl (by rfl);refine Ep rfl rfl (by rfl) (by rfl) (Nat.le_of_ble_eq_true rfl) (by omega) (by omega) (by omega) ?_)
 (repeat first |refine sN rfl ?_ |((first|refine sM rfl ?_ ?_|refine s4 rfl ‹_› rfl ?_ ?_);first|exact tI|omega|simp only[oZ] at *;omega) |refine s2 rfl fun _ _hb=>?_ |refine s3 rfl ?_ ?_<;>rintro rfl |refine aU rfl ?_ |refine Aa ?_ |refine rE (by kernel_rfl) ?_)
 refine aB ?_
 refine Av.AR (α:={k:Nat // k≤l.length}) (fun ⟨k,hk⟩=>[(0,Gk l),(3,.o (.arr 0 1 0 l.length)),(4,eI .i64 k)]) (fun ⟨k,hk⟩=>[(0,.cells 4 1 (C1 (l.map BE) (BE false) k))]) 1 (fun ⟨k,hk⟩=>l.length - k) (⟨0,by omega⟩) [0] (Dq hΓ rfl rfl) (by ((repeat' first|exact tI|rfl|refine And.intro ?_ ?_)<;>(simp[cX,zC,hΓ,Mg,hren]))) ?_;rintro⟨k,hk⟩;(try dsimp only)
 (repeat first |refine sN rfl ?_ |((first|refine sM rfl ?_ ?_|refine s4 rfl ‹_› rfl ?_ ?_);first|exact tI|omega|simp only[oZ] at *;omega) |refine s2 rfl fun _ _hb=>?_ |refine s3 rfl ?_ ?_<;>rintro rfl |refine aU rfl ?_ |refine Aa ?_ |refine rE (by kernel_rfl) ?_)
 (refine aC rfl ?_ ?_<;>rintro⟨⟩)
 ·obtain⟨x,hx⟩:=get_some (l:=l) (k:=k) (by first|omega|simp only[oZ] at *;omega)
  have hx':=get_map (g:=Gh) hx
  have hg:=Ho (l:=l.map BE) (z:=BE false) (k:=k) (by first|omega|simp only[oZ] at *;omega)
  have hs:=Hq (l:=l.map BE) (z:=BE false) (k:=k) (x:=BE x) (by simp [hx])
  refine aK ?_
  refine aS (aB ?_)
  (repeat first |refine sN rfl ?_ |((first|refine sM rfl ?_ ?_|refine s4 rfl ‹_› rfl ?_ ?_);first|exact tI|omega|simp only[oZ] at *;omega) |refine s2 rfl fun _ _hb=>?_ |refine s3 rfl ?_ ?_<;>rintro rfl |refine aU rfl ?_ |refine Aa ?_ |refine rE (by kernel_rfl) ?_)
  refine⟨⟨k+1,by first|omega|simp only[oZ] at *;omega⟩,by dsimp only;(first|omega|simp only[oZ] at *;omega),[0],?_⟩
  have hsp:AE (BE false) 0 (eC (eB x))=BE x:=rfl
  rw [hsp,hs]
  simp[cX,zC,hΓ,hren]
 ·obtain rfl:k=l.length:=by first|omega|simp only[oZ] at *;omega
  have he:C1 (l.map BE) (BE false) l.length=l.map BE:=by
   have:=Hn (l.map BE) (BE false)
   rwa [hlm] at this
  rw [he]
  refine aE ?_
  (repeat first |refine sN rfl ?_ |((first|refine sM rfl ?_ ?_|refine s4 rfl ‹_› rfl ?_ ?_);first|exact tI|omega|simp only[oZ] at *;omega) |refine s2 rfl fun _ _hb=>?_ |refine s3 rfl ?_ ?_<;>rintro rfl |refine aU rfl ?_ |refine Aa ?_ |refine rE (by kernel_rfl) ?_)
  exact aR ⟨_,rfl,[0],.o (.arr 0 1 0 l.length),[(0,.cells 4 1 (l.map BE))],⟨fun i hi=>absurd hi (Nat.not_lt_zero i),by decide⟩,rfl,by ((repeat' first|exact tI|rfl|refine And.intro ?_ ?_)<;>(simp[cX,zC,hΓ,hren,cN]<;>rfl)),rfl,rfl,rfl⟩
theorem gV(l:List (W))(h:l.length≤1048576):A3 Tryz.prog TB 74 0 [] 0 [Bl l] (fun x σ nx=>x=.o (.arr 0 1 0 l.length)∧σ=[(0,.cells 9 1 (l.map Bg))]∧nx=1):=by
 have hren:∀(r:Nat→Nat) k,(C1 (l.map Bg) (Bg []) k).map (C.Bp r)=C1 (l.map Bg) (Bg []) k:=fun r k=>Hp (fun x hx=>by obtain⟨y,_,rfl⟩:=List.mem_map.1 hx;rfl) rfl
 have hlm:(l.map Bg).length=l.length:=by simp
 refine A3.AW (A3.YL (m:=0) (Nat.le_of_ble_eq_true rfl) Tryz.func74 rfl (by kernel_rfl) (Nat.le_of_ble_eq_true rfl) ?_);intro Γ hΓ
 (repeat first |refine sN rfl ?_ |((first|refine sM rfl ?_ ?_|refine s4 rfl ‹_› rfl ?_ ?_);first|exact tI|omega|simp only[oZ] at *;omega) |refine s2 rfl fun _ _hb=>?_ |refine s3 rfl ?_ ?_<;>rintro rfl |refine aU rfl ?_ |refine Aa ?_ |refine rE (by kernel_rfl) ?_)
 (refine Ai rfl ?_;refine B5 (fun _ _=>BQ rfl) rfl ?_)
 (repeat first |refine sN rfl ?_ |((first|refine sM rfl ?_ ?_|refine s4 rfl ‹_› rfl ?_ ?_);first|exact tI|omega|simp only[oZ] at *;omega) |refine s2 rfl fun _ _hb=>?_ |refine s3 rfl ?_ ?_<;>rintro rfl |refine aU rfl ?_ |refine Aa ?_ |refine rE (by kernel_rfl) ?_)
 (refine pW rfl ?_ rfl (by rfl);refine Ep rfl rfl (by rfl) (by rfl) (Nat.le_of_ble_eq_true rfl) (by omega) (by omega) (by omega) ?_)
 (repeat first |refine sN rfl ?_ |((first|refine sM rfl ?_ ?_|refine s4 rfl ‹_› rfl ?_ ?_);first|exact tI|omega|simp only[oZ] at *;omega) |refine s2 rfl fun _ _hb=>?_ |refine s3 rfl ?_ ?_<;>rintro rfl |refine aU rfl ?_ |refine Aa ?_ |refine rE (by kernel_rfl) ?_)
 refine aB ?_
 refine Av.AR (α:={k:Nat // k≤l.length}) (fun ⟨k,hk⟩=>[(0,Bl l),(3,.o (.arr 0 1 0 l.length)),(4,eI .i64 k)]) (fun ⟨k,hk⟩=>[(0,.cells 9 1 (C1 (l.map Bg) (Bg []) k))]) 1 (fun ⟨k,hk⟩=>l.length - k) (⟨0,by omega⟩) [0] (Dq hΓ rfl rfl) (by ((repeat' first|exact tI|rfl|refine And.intro ?_ ?_)<;>(simp[cX,zC,hΓ,Mg,hren]))) ?_;rintro⟨k,hk⟩;(try dsimp only)
 (repeat first |refine sN rfl ?_ |((first|refine sM rfl ?_ ?_|refine s4 rfl ‹_› rfl ?_ ?_);first|exact tI|omega|simp only[oZ] at *;omega) |refine s2 rfl fun _ _hb=>?_ |refine s3 rfl ?_ ?_<;>rintro rfl |refine aU rfl ?_ |refine Aa ?_ |refine rE (by kernel_rfl) ?_)
 (refine aC rfl ?_ ?_<;>rintro⟨⟩)
 ·obtain⟨x,hx⟩:=get_some (l:=l) (k:=k) (by first|omega|simp only[oZ] at *;omega)
  have hx':=get_map (g:=BD) hx
  have hg:=Ho (l:=l.map Bg) (z:=Bg []) (k:=k) (by first|omega|simp only[oZ] at *;omega)
  have hs:=Hq (l:=l.map Bg) (z:=Bg []) (k:=k) (x:=Bg x) (by simp [hx])
  refine aK ?_
  refine aS (aB ?_)
  (repeat first |refine sN rfl ?_ |((first|refine sM rfl ?_ ?_|refine s4 rfl ‹_› rfl ?_ ?_);first|exact tI|omega|simp only[oZ] at *;omega) |refine s2 rfl fun _ _hb=>?_ |refine s3 rfl ?_ ?_<;>rintro rfl |refine aU rfl ?_ |refine Aa ?_ |refine rE (by kernel_rfl) ?_)
  refine⟨⟨k+1,by first|omega|simp only[oZ] at *;omega⟩,by dsimp only;(first|omega|simp only[oZ] at *;omega),[0],?_⟩
  have hsp:AE (Bg []) 0 (eC (eT x))=Bg x:=rfl
  rw [hsp,hs]
  simp[cX,zC,hΓ,hren]
 ·obtain rfl:k=l.length:=by first|omega|simp only[oZ] at *;omega
  have he:C1 (l.map Bg) (Bg []) l.length=l.map Bg:=by
   have:=Hn (l.map Bg) (Bg [])
   rwa [hlm] at this
  rw [he]
  refine aE ?_
  (repeat first |refine sN rfl ?_ |((first|refine sM rfl ?_ ?_|refine s4 rfl ‹_› rfl ?_ ?_);first|exact tI|omega|simp only[oZ] at *;omega) |refine s2 rfl fun _ _hb=>?_ |refine s3 rfl ?_ ?_<;>rintro rfl |refine aU rfl ?_ |refine Aa ?_ |refine rE (by kernel_rfl) ?_)
  exact aR ⟨_,rfl,[0],.o (.arr 0 1 0 l.length),[(0,.cells 9 1 (l.map Bg))],⟨fun i hi=>absurd hi (Nat.not_lt_zero i),by decide⟩,rfl,by ((repeat' first|exact tI|rfl|refine And.intro ?_ ?_)<;>(simp[cX,zC,hΓ,hren,cN]<;>rfl)),rfl,rfl,rfl⟩
theorem iP(l:List (Fk))(h:l.length≤1048576):A3 Tryz.prog TB 204 0 [] 0 [Hb l] (fun x σ nx=>x=.o (.arr 0 3 0 l.length)∧σ=[(0,.cells 189 3 (l.map B2))]∧nx=1):=by
 have hren:∀(r:Nat→Nat) k,(C1 (l.map B2) (B2 ⟨0,0,0⟩) k).map (C.Bp r)=C1 (l.map B2) (B2 ⟨0,0,0⟩) k:=fun r k=>Hp (fun x hx=>by obtain⟨y,_,rfl⟩:=List.mem_map.1 hx;rfl) rfl
 have hlm:(l.map B2).length=l.length:=by simp
 refine A3.AW (A3.YL (m:=0) (Nat.le_of_ble_eq_true rfl) Tryz.func204 rfl (by kernel_rfl) (Nat.le_of_ble_eq_true rfl) ?_);intro Γ hΓ
 (repeat first |refine sN rfl ?_ |((first|refine sM rfl ?_ ?_|refine s4 rfl ‹_› rfl ?_ ?_);first|exact tI|omega|simp only[oZ] at *;omega) |refine s2 rfl fun _ _hb=>?_ |refine s3 rfl ?_ ?_<;>rintro rfl |refine aU rfl ?_ |refine Aa ?_ |refine rE (by kernel_rfl) ?_)
 (refine Ai rfl ?_;refine B5 (fun _ _=>BQ rfl) rfl ?_)
 (repeat first |refine sN rfl ?_ |((first|refine sM rfl ?_ ?_|refine s4 rfl ‹_› rfl ?_ ?_);first|exact tI|omega|simp only[oZ] at *;omega) |refine s2 rfl fun _ _hb=>?_ |refine s3 rfl ?_ ?_<;>rintro rfl |refine aU rfl ?_ |refine Aa ?_ |refine rE (by kernel_rfl) ?_)
 (refine pW rfl ?_ rfl (by rfl);refine Ep rfl rfl (by rfl) (by rfl) (Nat.le_of_ble_eq_true rfl) (by omega) (by omega) (by omega) ?_)
 (repeat first |refine sN rfl ?_ |((first|refine sM rfl ?_ ?_|refine s4 rfl ‹_› rfl ?_ ?_);first|exact tI|omega|simp only[oZ] at *;omega) |refine s2 rfl fun _ _hb=>?_ |refine s3 rfl ?_ ?_<;>rintro rfl |refine aU rfl ?_ |refine Aa ?_ |refine rE (by kernel_rfl) ?_)
 refine aB ?_
 refine Av.AR (α:={k:Nat // k≤l.length}) (fun ⟨k,hk⟩=>[(0,Hb l),(3,.o (.arr 0 3 0 l.length)),(4,eI .i64 k)]) (fun ⟨k,hk⟩=>[(0,.cells 189 3 (C1 (l.map B2) (B2 ⟨0,0,0⟩) k))]) 1 (fun ⟨k,hk⟩=>l.length - k) (⟨0,by omega⟩) [0] (Dq hΓ rfl rfl) (by ((repeat' first|exact tI|rfl|refine And.intro ?_ ?_)<;>(simp[cX,zC,hΓ,Mg,hren]))) ?_;rintro⟨k,hk⟩;(try dsimp only)
 (repeat first |refine sN rfl ?_ |((first|refine sM rfl ?_ ?_|refine s4 rfl ‹_› rfl ?_ ?_);first|exact tI|omega|simp only[oZ] at *;omega) |refine s2 rfl fun _ _hb=>?_ |refine s3 rfl ?_ ?_<;>rintro rfl |refine aU rfl ?_ |refine Aa ?_ |refine rE (by kernel_rfl) ?_)
 (refine aC rfl ?_ ?_<;>rintro⟨⟩)
 ·obtain⟨x,hx⟩:=get_some (l:=l) (k:=k) (by first|omega|simp only[oZ] at *;omega)
  have hx':=get_map (g:=CZ) hx
  have hg:=Ho (l:=l.map B2) (z:=B2 ⟨0,0,0⟩) (k:=k) (by first|omega|simp only[oZ] at *;omega)
  have hs:=Hq (l:=l.map B2) (z:=B2 ⟨0,0,0⟩) (k:=k) (x:=B2 x) (by simp [hx])
  refine aK ?_
  refine aS (aB ?_)
  (repeat first |refine sN rfl ?_ |((first|refine sM rfl ?_ ?_|refine s4 rfl ‹_› rfl ?_ ?_);first|exact tI|omega|simp only[oZ] at *;omega) |refine s2 rfl fun _ _hb=>?_ |refine sP rfl (U9 x) rfl ?_ |refine s3 rfl ?_ ?_<;>rintro rfl |refine aU rfl ?_ |refine Aa ?_ |refine rE (by kernel_rfl) ?_)
  refine⟨⟨k+1,by first|omega|simp only[oZ] at *;omega⟩,by dsimp only;(first|omega|simp only[oZ] at *;omega),[0],?_⟩
  have hsp:AE (B2 ⟨0,0,0⟩) 0 (eC (Ng x))=B2 x:=rfl
  rw [hsp,hs]
  simp[cX,zC,hΓ,hren]
 ·obtain rfl:k=l.length:=by first|omega|simp only[oZ] at *;omega
  have he:C1 (l.map B2) (B2 ⟨0,0,0⟩) l.length=l.map B2:=by
   have:=Hn (l.map B2) (B2 ⟨0,0,0⟩)
   rwa [hlm] at this
  rw [he]
  refine aE ?_
  (repeat first |refine sN rfl ?_ |((first|refine sM rfl ?_ ?_|refine s4 rfl ‹_› rfl ?_ ?_);first|exact tI|omega|simp only[oZ] at *;omega) |refine s2 rfl fun _ _hb=>?_ |refine s3 rfl ?_ ?_<;>rintro rfl |refine aU rfl ?_ |refine Aa ?_ |refine rE (by kernel_rfl) ?_)
  exact aR ⟨_,rfl,[0],.o (.arr 0 3 0 l.length),[(0,.cells 189 3 (l.map B2))],⟨fun i hi=>absurd hi (Nat.not_lt_zero i),by decide⟩,rfl,by ((repeat' first|exact tI|rfl|refine And.intro ?_ ?_)<;>(simp[cX,zC,hΓ,hren,cN]<;>rfl)),rfl,rfl,rfl⟩
theorem iQ(a:List (List Int))(h:a.length≤1048576)(hr:∀r∈a,r.length≤1048576):A3 Tryz.prog TB 120 0 [] 0 [BS a] (fun x σ nx=>∃l:Pr,l.map (·.2)=a∧x=.o (.arr 0 1 0 l.length)∧σ=[(0,.cells 84 1 (CQ l)),(1,.sld 3 (sI l))]∧nx=2):=by
 refine A3.AW (A3.YL (m:=0) (Nat.le_of_ble_eq_true rfl) Tryz.func120 rfl (by kernel_rfl) (Nat.le_of_ble_eq_true rfl) ?_);intro Γ hΓ
 (repeat first |refine sN rfl ?_ |((first|refine sM rfl ?_ ?_|refine s4 rfl ‹_› rfl ?_ ?_);first|exact tI|omega|simp only[oZ] at *;omega) |refine s2 rfl fun _ _hb=>?_ |refine s3 rfl ?_ ?_<;>rintro rfl |refine aU rfl ?_ |refine Aa ?_ |refine rE (by kernel_rfl) ?_)
 (refine Ai rfl ?_;refine B5 (fun _ _=>BQ rfl) rfl ?_)
 (repeat first |refine sN rfl ?_ |((first|refine sM rfl ?_ ?_|refine s4 rfl ‹_› rfl ?_ ?_);first|exact tI|omega|simp only[oZ] at *;omega) |refine s2 rfl fun _ _hb=>?_ |refine s3 rfl ?_ ?_<;>rintro rfl |refine aU rfl ?_ |refine Aa ?_ |refine rE (by kernel_rfl) ?_)
 (refine pW rfl ?_ rfl (by rfl);refine Ep rfl rfl (by rfl) (by rfl) (Nat.le_of_ble_eq_true rfl) (by omega) (by omega) (by omega) ?_)
 (repeat first |refine sN rfl ?_ |((first|refine sM rfl ?_ ?_|refine s4 rfl ‹_› rfl ?_ ?_);first|exact tI|omega|simp only[oZ] at *;omega) |refine s2 rfl fun _ _hb=>?_ |refine s3 rfl ?_ ?_<;>rintro rfl |refine aU rfl ?_ |refine Aa ?_ |refine rE (by kernel_rfl) ?_)
 refine aB ?_
 refine Av.gp 3 ?_
 refine aL (α:={s:Nat×Pr // s.1≤a.length∧s.2.map (·.2)=a.take s.1}) [0] [] rfl rfl (fun s=>[(3,.o (.arr 0 1 0 a.length)),(4,eI .i64 s.1.1)]) (fun s=>[(0,.cells 84 1 (CQ s.1.2++List.replicate (a.length - s.1.1) [.d (.l [])])),(1,.sld 3 (sI s.1.2))]) 2 (fun s=>a.length - s.1.1) (⟨⟨0,[]⟩,by simp⟩) hΓ rfl (by ((repeat' first|exact tI|rfl|refine And.intro ?_ ?_)<;>(simp[cX,zC,hΓ,cN,Ef,AE,eC]<;>rfl))) ?_;rintro⟨⟨k,l⟩,hk,hl⟩;(try dsimp only[cA,cB])
 have hk:k≤a.length:=hk
 have hl:l.map (·.2)=a.take k:=hl
 have hll:l.length=k:=by have:=congrArg List.length hl;simp at this;omega
 by_cases hlt:k < a.length
 ·obtain⟨r,hx⟩:=get_some hlt
  have hx':=get_map (g:=Dy) hx
  have hrl:=hr r (List.mem_of_getElem? hx)
  have hc:=iS (TB:=TB) r hrl
  have hrep:List.replicate (a.length - k) ([.d (.l [])]:List C)=[.d (.l [])]::List.replicate (a.length - (k+1)) [.d (.l [])]:=by rw [show a.length - k=(a.length - (k+1))+1 by omega,List.replicate_succ]
  have hset:∀z:List C,(CQ l++List.replicate (a.length - k) ([.d (.l [])]:List C)).set (0+((k:Nat):Int).toNat) z=CQ l++z::List.replicate (a.length - (k+1)) [.d (.l [])]:=fun z=>by rw [Nat.zero_add,Int.toNat_natCast,hrep];exact Sh (by rw [Mw,hll])
  have hset1:=fun z=>hset z
  simp only [Nat.zero_add,Int.toNat_natCast] at hset1
  have hg:(CQ l++List.replicate (a.length - k) ([.d (.l [])]:List C))[0+((k:Nat):Int).toNat]? = some [.d (.l [])]:=by
   rw [Nat.zero_add,Int.toNat_natCast,hrep,List.getElem?_append_right (by rw [Mw];omega),Mw,hll,Nat.sub_self];rfl
  (repeat first |refine sN rfl ?_ |((first|refine sA rfl ?_ ?_|refine s4 rfl ‹_› rfl ?_ ?_);first|exact tI|omega|simp only[oZ] at *;omega) |refine s2 rfl fun _ _hb=>?_ |refine s3 rfl ?_ ?_<;>rintro rfl |refine aU rfl ?_ |refine Aa ?_)
  ((refine aC rfl ?_ ?_<;>rintro⟨⟩);all_goals try(exfalso;first|omega|simp only[oZ] at *;omega))
  refine aK ?_
  refine aS (aB ?_)
  (repeat first |refine sN rfl ?_ |((first|refine sA rfl ?_ ?_|refine s4 rfl ‹_› rfl ?_ ?_);first|exact tI|omega|simp only[oZ] at *;omega) |refine s2 rfl fun _ _hb=>?_ |refine s3 rfl ?_ ?_<;>rintro rfl |refine aU rfl ?_ |refine Aa ?_)
  (refine pW rfl ?_ rfl (by rfl);refine Ez [] rfl rfl 0 (hc) (by decide) ⟨rfl,by decide,by decide⟩ rfl (by simp[cX,zC,hΓ,cN]) ?_;rintro x0 σ1 nx1 ⟨rfl,rfl,rfl⟩ _)
  (repeat first |refine sN rfl ?_ |((first|refine sA rfl ?_ ?_|refine s4 rfl ‹_› rfl ?_ ?_);first|exact tI|omega|simp only[oZ] at *;omega) |refine s2 rfl fun _ _hb=>?_ |refine s3 rfl ?_ ?_<;>rintro rfl)
  refine Aa ?_
  refine Av.Cs [0,3,4] [] rfl rfl [] [(0,.cells 84 1 (CQ l++[.arr 2 1 0 r.length]::List.replicate (a.length - (k+1)) [.d (.l [])])),(1,.sld 3 (sI l)),(2,.cells 3 1 (r.map AI))] [0,1,2] (rl hΓ rfl) (by ((repeat' first|exact tI|rfl|refine And.intro ?_ ?_)<;>(simp[cX,zC,hΓ,cN,AE,eC,hset1]<;>rfl))) ?_;(try dsimp only[cA,cB])
  refine Av.put 0 2 1 (CQ l) (List.replicate (a.length - (k+1)) [.d (.l [])]) r l [] rfl rfl (by rw [List.append_nil];rfl) fun v=>?_
  (repeat first |refine sN rfl ?_ |((first|refine sA rfl ?_ ?_|refine s4 rfl ‹_› rfl ?_ ?_);first|exact tI|omega|simp only[oZ] at *;omega) |refine s2 rfl fun _ _hb=>?_ |refine s3 rfl ?_ ?_<;>rintro rfl |refine aU rfl ?_ |refine Aa ?_)
  refine⟨⟨⟨k+1,l++[(v,r)]⟩,by dsimp only;omega,by dsimp only;rw [List.map_append,hl,List.take_add_one,hx];rfl⟩,by dsimp only;(first|omega|simp only[oZ] at *;omega),[0,1],?_⟩
  (simp[cX,zC,hΓ,cN,CQ,AE,eC]<;>rfl)
 ·obtain rfl:k=a.length:=by omega
  rw [Nat.sub_self,List.replicate_zero,List.append_nil]
  rw [List.take_length] at hl
  (repeat first |refine sN rfl ?_ |((first|refine sA rfl ?_ ?_|refine s4 rfl ‹_› rfl ?_ ?_);first|exact tI|omega|simp only[oZ] at *;omega) |refine s2 rfl fun _ _hb=>?_ |refine s3 rfl ?_ ?_<;>rintro rfl |refine aU rfl ?_ |refine Aa ?_)
  ((refine aC rfl ?_ ?_<;>rintro⟨⟩);all_goals try(exfalso;first|omega|simp only[oZ] at *;omega))
  refine aE ?_
  (repeat first |refine sN rfl ?_ |((first|refine sA rfl ?_ ?_|refine s4 rfl ‹_› rfl ?_ ?_);first|exact tI|omega|simp only[oZ] at *;omega) |refine s2 rfl fun _ _hb=>?_ |refine s3 rfl ?_ ?_<;>rintro rfl |refine aU rfl ?_ |refine Aa ?_)
  refine aR ⟨_,rfl,[0,1],.o (.arr 0 1 0 l.length),[(0,.cells 84 1 (CQ l)),(1,.sld 3 (sI l))],⟨fun i hi=>absurd hi (Nat.not_lt_zero i),by decide⟩,by rw [hll];rfl,by ((repeat' first|exact tI|rfl|refine And.intro ?_ ?_)<;>(simp[cX,zC,hΓ,cN]<;>rfl)),l,hl,rfl,rfl,rfl⟩
theorem gK(a:Bn)(h1:a.nx.length≤1048576)(h2:a.ac.length≤1048576)(h3:∀r∈a.nx,r.length≤1048576):A3 Tryz.prog TB 47 0 [] 0 [Da a] (bW a):=by
 have c1:=iQ (TB:=TB) a.nx h1 h3
 have c2:=iO (TB:=TB) a.ac h2
 refine A3.AW (A3.YL (m:=0) (Nat.le_of_ble_eq_true rfl) Tryz.func47 rfl (by kernel_rfl) (Nat.le_of_ble_eq_true rfl) ?_);intro Γ hΓ
 (repeat first |refine sN rfl ?_ |((first|refine sA rfl ?_ ?_|refine s4 rfl ‹_› rfl ?_ ?_);first|exact tI|omega|simp only[oZ] at *;omega) |refine s2 rfl fun _ _hb=>?_ |refine s3 rfl ?_ ?_<;>rintro rfl |refine aU rfl ?_ |refine Aa ?_)
 (refine pW rfl ?_ rfl (by rfl);refine Ez [] rfl rfl 0 (c1) (by decide) ⟨rfl,by decide,by decide⟩ rfl (by simp[cX,zC,hΓ,cN]) ?_;rintro x0 σ1 nx1 ⟨l,hl,rfl,rfl,rfl⟩ _)
 (repeat first |refine sN rfl ?_ |((first|refine sA rfl ?_ ?_|refine s4 rfl ‹_› rfl ?_ ?_);first|exact tI|omega|simp only[oZ] at *;omega) |refine s2 rfl fun _ _hb=>?_ |refine s3 rfl ?_ ?_<;>rintro rfl |refine aU rfl ?_ |refine Aa ?_)
 (refine pW rfl ?_ rfl (by rfl);refine Ez [] rfl rfl 0 (c2) (by decide) ⟨rfl,by decide,by decide⟩ rfl (by simp[cX,zC,hΓ,cN]) ?_;rintro x0 σ1 nx1 ⟨rfl,rfl,rfl⟩ _)
 (repeat first |refine sN rfl ?_ |((first|refine sA rfl ?_ ?_|refine s4 rfl ‹_› rfl ?_ ?_);first|exact tI|omega|simp only[oZ] at *;omega) |refine s2 rfl fun _ _hb=>?_ |refine s3 rfl ?_ ?_<;>rintro rfl |refine aU rfl ?_ |refine Aa ?_)
 exact aR ⟨_,rfl,[2,4,3],eP a.al 0 1 l.length a.ac.length,[(0,.cells 84 1 (CQ l)),(1,.cells 4 1 (a.ac.map BE)),(2,.sld 3 (sI l))],⟨fun i hi=>absurd hi (Nat.not_lt_zero i),by decide⟩,rfl,by ((repeat' first|exact tI|rfl|refine And.intro ?_ ?_)<;>(simp[cX,zC,hΓ,cN,Ef,AE,eC]<;>rfl)),l,hl,rfl,rfl,rfl⟩
abbrev jj(s:Sys)(i:Nat):List C:=[.d (iD s.al),.d (iD s.st),.arr i 3 0 s.es.length]
theorem iC(s:Sys)(h:s.es.length≤1048576):A3 Tryz.prog TB 143 0 [] 0 [Nh s] (fun x σ nx=>x=.a (jj s 0)∧σ=[(0,.cells 189 3 (s.es.map B2))]∧nx=1):=by
 have c1:=iP (TB:=TB) s.es h
 refine A3.AW (A3.YL (m:=0) (Nat.le_of_ble_eq_true rfl) Tryz.func143 rfl (by kernel_rfl) (Nat.le_of_ble_eq_true rfl) ?_);intro Γ hΓ
 (repeat first |refine sN rfl ?_ |((first|refine sA rfl ?_ ?_|refine s4 rfl ‹_› rfl ?_ ?_);first|exact tI|omega|simp only[oZ] at *;omega) |refine s2 rfl fun _ _hb=>?_ |refine s3 rfl ?_ ?_<;>rintro rfl |refine aU rfl ?_ |refine Aa ?_)
 (refine pW rfl ?_ rfl (by rfl);refine Ez [] rfl rfl 0 (c1) (by decide) ⟨rfl,by decide,by decide⟩ rfl (by simp[cX,zC,hΓ,cN]) ?_;rintro x0 σ1 nx1 ⟨rfl,rfl,rfl⟩ _)
 (repeat first |refine sN rfl ?_ |((first|refine sA rfl ?_ ?_|refine s4 rfl ‹_› rfl ?_ ?_);first|exact tI|omega|simp only[oZ] at *;omega) |refine s2 rfl fun _ _hb=>?_ |refine s3 rfl ?_ ?_<;>rintro rfl |refine aU rfl ?_ |refine Aa ?_)
 exact aR ⟨_,rfl,[2],.a (jj s 0),[(0,.cells 189 3 (s.es.map B2))],⟨fun i hi=>absurd hi (Nat.not_lt_zero i),by decide⟩,rfl,by ((repeat' first|exact tI|rfl|refine And.intro ?_ ?_)<;>(simp[cX,zC,hΓ,cN,Ef,AE,eC]<;>rfl)),rfl,rfl,rfl⟩
abbrev iV(s:Sys)(q:Bn)(al:Int)(i j k n:Nat):List C:=[.d (iD s.al),.d (iD s.st),.arr i 3 0 s.es.length,.d (iD q.al),.arr j 1 0 n,.arr k 1 0 q.ac.length,.d (iD al)]
theorem iT(t:B1)(h0:t.s.es.length≤1048576)(h1:t.q.nx.length≤1048576)(h2:t.q.ac.length≤1048576)(h3:∀r∈t.q.nx,r.length≤1048576):A3 Tryz.prog TB 73 0 [] 0 [J0 t] (fun x σ nx=>∃l:Pr,l.map (·.2)=t.q.nx∧x=.a (iV t.s t.q t.al 0 1 2 l.length)∧σ=[(0,.cells 189 3 (t.s.es.map B2)),(1,.cells 84 1 (CQ l)),(2,.cells 4 1 (t.q.ac.map BE)),(3,.sld 3 (sI l))]∧nx=4):=by
 have c1:=iC (TB:=TB) t.s h0
 have c2:=gK (TB:=TB) t.q h1 h2 h3
 refine A3.AW (A3.YL (m:=0) (Nat.le_of_ble_eq_true rfl) Tryz.func73 rfl (by kernel_rfl) (Nat.le_of_ble_eq_true rfl) ?_);intro Γ hΓ
 (repeat first |refine sN rfl ?_ |((first|refine sA rfl ?_ ?_|refine s4 rfl ‹_› rfl ?_ ?_);first|exact tI|omega|simp only[oZ] at *;omega) |refine s2 rfl fun _ _hb=>?_ |refine s3 rfl ?_ ?_<;>rintro rfl |refine aU rfl ?_ |refine Aa ?_)
 (refine pW rfl ?_ rfl (by rfl);refine Ez [] rfl rfl 0 (c1) (by decide) ⟨rfl,by decide,by decide⟩ rfl (by simp[cX,zC,hΓ,cN]) ?_;rintro x0 σ1 nx1 ⟨rfl,rfl,rfl⟩ _)
 (repeat first |refine sN rfl ?_ |((first|refine sA rfl ?_ ?_|refine s4 rfl ‹_› rfl ?_ ?_);first|exact tI|omega|simp only[oZ] at *;omega) |refine s2 rfl fun _ _hb=>?_ |refine s3 rfl ?_ ?_<;>rintro rfl |refine aU rfl ?_ |refine Aa ?_)
 (refine pW rfl ?_ rfl (by rfl);refine Ez [] rfl rfl 0 (c2) (by decide) ⟨rfl,by decide,by decide⟩ rfl (by simp[cX,zC,hΓ,cN]) ?_;rintro x0 σ1 nx1 ⟨l,hl,rfl,rfl,rfl⟩ _)
 (repeat first |refine sN rfl ?_ |((first|refine sA rfl ?_ ?_|refine s4 rfl ‹_› rfl ?_ ?_);first|exact tI|omega|simp only[oZ] at *;omega) |refine s2 rfl fun _ _hb=>?_ |refine s3 rfl ?_ ?_<;>rintro rfl |refine aU rfl ?_ |refine Aa ?_)
 exact aR ⟨_,rfl,[2,3,4,5],.a (iV t.s t.q t.al 0 1 2 l.length),[(0,.cells 189 3 (t.s.es.map B2)),(1,.cells 84 1 (CQ l)),(2,.cells 4 1 (t.q.ac.map BE)),(3,.sld 3 (sI l))],⟨fun i hi=>absurd hi (Nat.not_lt_zero i),by decide⟩,rfl,by ((repeat' first|exact tI|rfl|refine And.intro ?_ ?_)<;>(simp[cX,zC,hΓ,cN,Ef,AE,eC]<;>rfl)),l,hl,rfl,rfl,rfl⟩
abbrev iF(te:CL)(n m:Nat):List C:=[.d (bD te.kn),.d (iD te.p.al),.arr 0 1 0 n,.arr 1 1 0 te.p.ac.length]++iV te.s te.q te.al 3 4 5 m
abbrev iM(te:CL)(l m:Pr):Ab:=[(0,.cells 84 1 (CQ l)),(1,.cells 4 1 (te.p.ac.map BE)),(2,.sld 3 (sI l)),(3,.cells 189 3 (te.s.es.map B2)),(4,.cells 84 1 (CQ m)),(5,.cells 4 1 (te.q.ac.map BE)),(6,.sld 3 (sI m))]
theorem im(te:CL)(h:Zp te):A3 Tryz.prog TB 19 0 [] 0 [Cj te] (fun x σ nx=>∃l m:Pr,l.map (·.2)=te.p.nx∧m.map (·.2)=te.q.nx∧x=.a (iF te l.length m.length)∧σ=iM te l m∧nx=7):=by
 have c1:=gK (TB:=TB) te.p h.pn h.pa h.pr
 have c2:=iT (TB:=TB) ⟨te.s,te.q,te.al⟩ h.es h.qn h.qa h.qr
 refine A3.AW (A3.YL (m:=0) (Nat.le_of_ble_eq_true rfl) Tryz.func19 rfl (by kernel_rfl) (Nat.le_of_ble_eq_true rfl) ?_);intro Γ hΓ
 (repeat first |refine sN rfl ?_ |((first|refine sA rfl ?_ ?_|refine s4 rfl ‹_› rfl ?_ ?_);first|exact tI|omega|simp only[oZ] at *;omega) |refine s2 rfl fun _ _hb=>?_ |refine s3 rfl ?_ ?_<;>rintro rfl |refine aU rfl ?_ |refine Aa ?_)
 (refine pW rfl ?_ rfl (by rfl);refine Ez [] rfl rfl 0 (c1) (by decide) ⟨rfl,by decide,by decide⟩ rfl (by simp[cX,zC,hΓ,cN]) ?_;rintro x0 σ1 nx1 ⟨l,hl,rfl,rfl,rfl⟩ _)
 (repeat first |refine sN rfl ?_ |((first|refine sA rfl ?_ ?_|refine s4 rfl ‹_› rfl ?_ ?_);first|exact tI|omega|simp only[oZ] at *;omega) |refine s2 rfl fun _ _hb=>?_ |refine s3 rfl ?_ ?_<;>rintro rfl |refine aU rfl ?_ |refine Aa ?_)
 (refine pW rfl ?_ rfl (by rfl);refine Ez [] rfl rfl 0 (c2) (by decide) ⟨rfl,by decide,by decide⟩ rfl (by simp[cX,zC,hΓ,cN]) ?_;rintro x0 σ1 nx1 ⟨m,hm,rfl,rfl,rfl⟩ _)
 (repeat first |refine sN rfl ?_ |((first|refine sA rfl ?_ ?_|refine s4 rfl ‹_› rfl ?_ ?_);first|exact tI|omega|simp only[oZ] at *;omega) |refine s2 rfl fun _ _hb=>?_ |refine s3 rfl ?_ ?_<;>rintro rfl |refine aU rfl ?_ |refine Aa ?_)
 exact aR ⟨_,rfl,[2,3,4,5,6,7,8],.a (iF te l.length m.length),iM te l m,⟨fun i hi=>absurd hi (Nat.not_lt_zero i),by decide⟩,rfl,by ((repeat' first|exact tI|rfl|refine And.intro ?_ ?_)<;>(simp[cX,zC,hΓ,cN,Ef,AE,eC]<;>rfl)),l,m,hl,hm,rfl,rfl,rfl⟩
theorem iR(x:AN)(h1:x.rows.length≤1048576)(h2:x.cols.length≤1048576):A3 Tryz.prog TB 20 0 [] 0 [B8 x] (fun e σ nx=>e=.a [.arr 0 1 0 x.rows.length,.arr 1 1 0 x.cols.length]∧σ=[(0,.cells 9 1 (x.rows.map Bg)),(1,.cells 9 1 (x.cols.map Bg))]∧nx=2):=by
 have c1:=gV (TB:=TB) x.rows h1
 have c2:=gV (TB:=TB) x.cols h2
 refine A3.AW (A3.YL (m:=0) (Nat.le_of_ble_eq_true rfl) Tryz.func20 rfl (by kernel_rfl) (Nat.le_of_ble_eq_true rfl) ?_);intro Γ hΓ
 (repeat first |refine sN rfl ?_ |((first|refine sA rfl ?_ ?_|refine s4 rfl ‹_› rfl ?_ ?_);first|exact tI|omega|simp only[oZ] at *;omega) |refine s2 rfl fun _ _hb=>?_ |refine s3 rfl ?_ ?_<;>rintro rfl |refine aU rfl ?_ |refine Aa ?_)
 (refine pW rfl ?_ rfl (by rfl);refine Ez [] rfl rfl 0 (c1) (by decide) ⟨rfl,by decide,by decide⟩ rfl (by simp[cX,zC,hΓ,cN]) ?_;rintro x0 σ1 nx1 ⟨rfl,rfl,rfl⟩ _)
 (repeat first |refine sN rfl ?_ |((first|refine sA rfl ?_ ?_|refine s4 rfl ‹_› rfl ?_ ?_);first|exact tI|omega|simp only[oZ] at *;omega) |refine s2 rfl fun _ _hb=>?_ |refine s3 rfl ?_ ?_<;>rintro rfl |refine aU rfl ?_ |refine Aa ?_)
 (refine pW rfl ?_ rfl (by rfl);refine Ez [] rfl rfl 0 (c2) (by decide) ⟨rfl,by decide,by decide⟩ rfl (by simp[cX,zC,hΓ,cN]) ?_;rintro x0 σ1 nx1 ⟨rfl,rfl,rfl⟩ _)
 (repeat first |refine sN rfl ?_ |((first|refine sA rfl ?_ ?_|refine s4 rfl ‹_› rfl ?_ ?_);first|exact tI|omega|simp only[oZ] at *;omega) |refine s2 rfl fun _ _hb=>?_ |refine s3 rfl ?_ ?_<;>rintro rfl |refine aU rfl ?_ |refine Aa ?_)
 exact aR ⟨_,rfl,[2,3],.a [.arr 0 1 0 x.rows.length,.arr 1 1 0 x.cols.length],[(0,.cells 9 1 (x.rows.map Bg)),(1,.cells 9 1 (x.cols.map Bg))],⟨fun i hi=>absurd hi (Nat.not_lt_zero i),by decide⟩,rfl,by ((repeat' first|exact tI|rfl|refine And.intro ?_ ?_)<;>(simp[cX,zC,hΓ,cN,Ef,AE,eC]<;>rfl)),rfl,rfl,rfl⟩
end Go.Am
namespace Go.Am
open Go
set_option linter.unusedVariables false
def iE:Nat→Int→W→W
 | 0,_,out=>out
 | f+1,k,out=>if k≤0 then out else iE f (k / 10) (UInt8.ofNat (48+(k % 10).toNat)::out)
def jm(k:Int):W:=if k≤0 then [109,48] else 109::iE 20 k []
theorem jv{f:Nat}{out:W}:iE f 0 out=out:=by cases f<;>simp [iE]
def gD{α:Type}(f:Nat→α)(l:List α)(i:Nat):List α:=(List.range i).map f++l.drop i
section
variable {α:Type}{f:Nat→α}{l:List α}{i:Nat}
theorem hX:gD f l 0=l:=by simp [gD]
theorem gP:gD f l l.length=(List.range l.length).map f:=by simp [gD]
theorem iJ(h:i≤l.length):(gD f l i).length=l.length:=by simp [gD];omega
theorem gR{x:α}(h:l[i]? = some x):(gD f l i)[i]? = some x:=by
 unfold gD
 rw [List.getElem?_append_right (by simp)]
 simp [h]
theorem gT{x:α}(h:l[i]? = some x):(gD f l i).set i (f i)=gD f l (i+1):=by
 have hi:=(List.getElem?_eq_some_iff.1 h).1
 unfold gD
 rw [List.set_append_right _ _ (by simp)]
 have e:l.drop i=x::l.drop (i+1):=by
  rw [List.drop_eq_getElem_cons hi]
  congr 1
  rw [List.getElem?_eq_getElem hi] at h
  injection h
 rw [e]
 simp [List.range_succ]
end
theorem iZ{α:Type}{l:List α}{k:Nat}{x d:α}(h:l[k]? = some x):l.getD k d=x:=by rw [List.getD_eq_getElem?_getD,h];rfl
def ir(k:Int)(n:Nat):List Int:=(List.range n).map fun i:Nat=>k+i
def gX(k:Int)(n:Nat):List Bool:=(List.range n).map fun i:Nat=>decide ((k+i) % 3=0)
def je(k:Int)(n:Nat):List W:=(List.range n).map fun i:Nat=>jm (k+i)
def jx(k:Int)(n:Nat):List Fk:=(List.range n).map fun i:Nat=>⟨k+3*i,k+3*i+1,k+3*i+2⟩
def gz(ns:List Nat)(i:Nat):Nat:=(ns.take i).sum
def ia(k:Int)(ns:List Nat):List (List Int):=(List.range ns.length).map fun i:Nat=>ir (k+gz ns i) (ns.getD i 0)
theorem ja(k:Int)(n:Nat):(ir k n).length=n:=by simp [ir]
theorem hY(k:Int)(n:Nat):(gX k n).length=n:=by simp [gX]
theorem jr(k:Int)(n:Nat):(je k n).length=n:=by simp [je]
theorem iK(k:Int)(ns:List Nat):(ia k ns).length=ns.length:=by simp [ia]
theorem gU{α:Type}{f:Nat→α}{n i:Nat}(h:i < n):((List.range n).map f)[i]? = some (f i):=by simp [h]
theorem ic{ns:List Nat}{i n:Nat}(h:ns[i]? = some n):gz ns (i+1)=gz ns i+n:=by
 unfold gz
 rw [List.take_add_one,h];simp
theorem ib:∀(ns:List Nat) (i:Nat),gz ns i≤ns.sum
 | [],i=>by simp [gz]
 | n::ns,0=>by simp [gz]
 | n::ns,i+1=>by
  have:=ib ns i
  unfold gz at *
  simp;omega
theorem iu(ns:List Nat):gz ns ns.length=ns.sum:=by simp [gz]
end Go.Am
namespace Go.Am
open Go Go.Proofs
set_option maxHeartbeats 1000000
set_option maxRecDepth 4000
attribute [local irreducible] AV BX Lex Bf Av Spec
end Go.Am
namespace Go.Am
open Go Go.Proofs
set_option maxHeartbeats 1000000
set_option maxRecDepth 4000
attribute [local irreducible] AV BX Lex Bf Av Spec
variable {TB:Be}
theorem jw:(10:Int) ^ 20=100000000000000000000:=by decide
theorem g9(k:Int)(h1:k≤4611686018427387904):Pure Tryz.prog TB 153 [eI .i64 k] (eT (jm k)):=by
 unfold jm
 refine eG Tryz.func153 rfl (by kernel_rfl) rfl ?_;intro Γ hΓ
 (repeat first |refine sN rfl ?_ |((first|refine sA rfl ?_ ?_|refine s4 rfl ‹_› rfl ?_ ?_);first|exact tI|omega|simp only[oZ] at *;omega) |refine s2 rfl fun _ _hb=>?_ |refine s3 rfl ?_ ?_<;>rintro rfl |refine aU rfl ?_ |refine Aa ?_)
 (refine aC rfl ?_ ?_<;>rintro⟨⟩)
 ·rw [if_pos (by first|omega|simp only[oZ] at *;omega)]
  (repeat first |refine sN rfl ?_ |((first|refine sA rfl ?_ ?_|refine s4 rfl ‹_› rfl ?_ ?_);first|exact tI|omega|simp only[oZ] at *;omega) |refine s2 rfl fun _ _hb=>?_ |refine s3 rfl ?_ ?_<;>rintro rfl |refine aU rfl ?_ |refine Aa ?_)
  (subst_vars;exact aR ⟨_,rfl,rfl⟩)
 have h0:0 < k:=by first|omega|simp only[oZ] at *;omega
 rw [if_neg (by omega)]
 have ht:=jw
 generalize hA:iE 20 k []=A
 refine aK ?_
 (repeat first |refine sN rfl ?_ |((first|refine sA rfl ?_ ?_|refine s4 rfl ‹_› rfl ?_ ?_);first|exact tI|omega|simp only[oZ] at *;omega) |refine s2 rfl fun _ _hb=>?_ |refine s3 rfl ?_ ?_<;>rintro rfl |refine aU rfl ?_ |refine Aa ?_)
 refine aB ?_
 refine aL (α:={s:(Int×W)×Nat // iE s.2 s.1.1 s.1.2=A∧(0≤s.1.1∧s.1.1≤k∧s.1.1 < 10 ^ s.2)∧s.1.2.length+s.2≤20}) [] [] rfl rfl (fun s=>[(0,eI .i64 s.1.1.1),(3,eT s.1.1.2)]) (fun s=>[]) 0 (fun s=>s.1.2) (⟨⟨⟨k,[]⟩,20⟩,hA,⟨by dsimp only;omega,by dsimp only;omega,by dsimp only;omega⟩,by simp⟩) hΓ rfl (by ((repeat' first|exact tI|rfl|refine And.intro ?_ ?_)<;>(simp[cX,zC,hΓ]<;>rfl))) ?_;rintro⟨⟨⟨q,out⟩,f⟩,hD,hq,hol⟩;(try dsimp only[cA,cB])
 have hD:iE f q out=A:=hD
 have hq:0≤q∧q≤k∧q < 10 ^ f:=hq
 have hol:out.length+f≤20:=hol
 by_cases hq1:0 < q
 ·cases f with
  | zero=>
   exfalso
   have:=hq.2.2
   simp at this
   omega
  | succ f=>
   simp only [iE] at hD
   rw [if_neg (by omega)] at hD
   have hd:q / 10 < 10 ^ f:=Int.ediv_lt_of_lt_mul (by decide) (by have:=hq.2.2;rwa [Int.pow_succ] at this)
   (repeat first |refine sN rfl ?_ |((first|refine sA rfl ?_ ?_|refine s4 rfl ‹_› rfl ?_ ?_);first|exact tI|omega|simp only[oZ] at *;omega) |refine s2 rfl fun _ _hb=>?_ |refine s3 rfl ?_ ?_<;>rintro rfl |refine aU rfl ?_ |refine Aa ?_)
   ((refine aC rfl ?_ ?_<;>rintro⟨⟩);all_goals try(exfalso;first|omega|simp only[oZ] at *;omega))
   refine aK ?_
   refine aB ?_
   (repeat first |refine sN rfl ?_ |((first|refine sA rfl ?_ ?_|refine s4 rfl ‹_› rfl ?_ ?_);first|exact tI|omega|simp only[oZ] at *;omega) |refine s2 rfl fun _ _hb=>?_ |refine s3 rfl ?_ ?_<;>rintro rfl |refine aU rfl ?_ |refine Aa ?_)
   (refine Ai rfl ?_;refine B5 (fun _ _=>YZ [UInt8.ofNat (48+(q % 10).toNat)] rfl (by
    have h2:(48+(q % 10).toNat) % 256=48+(q % 10).toNat:=Nat.mod_eq_of_lt (by omega)
    have h3:(48+q % 10:Int)=((48+(q % 10).toNat:Nat):Int):=by omega
    simp [eO,h2,h3])) rfl ?_)
   (repeat first |refine sN rfl ?_ |((first|refine sA rfl ?_ ?_|refine s4 rfl ‹_› rfl ?_ ?_);first|exact tI|omega|simp only[oZ] at *;omega) |refine s2 rfl fun _ _hb=>?_|(refine Ai rfl ?_;refine gA rfl ?_;first|refine gS (fun _ _=>c7 rfl rfl (by simp;omega)) ?_) |refine s3 rfl ?_ ?_<;>rintro rfl |refine aU rfl ?_ |refine Aa ?_)
   refine⟨⟨⟨⟨q / 10,UInt8.ofNat (48+(q % 10).toNat)::out⟩,f⟩,hD,⟨by dsimp only;omega,by dsimp only;omega,hd⟩,by simp;omega⟩,by dsimp only;(first|omega|simp only[oZ] at *;omega),[],?_⟩
   simp[cX,zC,hΓ]
 ·obtain rfl:q=0:=by omega
  rw [jv] at hD
  subst hD
  (repeat first |refine sN rfl ?_ |((first|refine sA rfl ?_ ?_|refine s4 rfl ‹_› rfl ?_ ?_);first|exact tI|omega|simp only[oZ] at *;omega) |refine s2 rfl fun _ _hb=>?_ |refine s3 rfl ?_ ?_<;>rintro rfl |refine aU rfl ?_ |refine Aa ?_)
  ((refine aC rfl ?_ ?_<;>rintro⟨⟩);all_goals try(exfalso;first|omega|simp only[oZ] at *;omega))
  refine aE ?_
  (repeat first |refine sN rfl ?_ |((first|refine sA rfl ?_ ?_|refine s4 rfl ‹_› rfl ?_ ?_);first|exact tI|omega|simp only[oZ] at *;omega) |refine s2 rfl fun _ _hb=>?_|(refine Ai rfl ?_;refine gA rfl ?_;first|refine gS (fun _ _=>c7 rfl rfl (by simp;omega)) ?_) |refine s3 rfl ?_ ?_<;>rintro rfl |refine aU rfl ?_ |refine Aa ?_)
  (subst_vars;exact aR ⟨_,rfl,rfl⟩)
theorem iH(l:List Int)(k:Int)(h0:0≤k)(h1:k≤1152921504606846976)(h2:l.length≤1152921504606846976):Spec Tryz.prog TB 164 [(0,.cells 3 1 (l.map AI))] 1 [.o (.arr 0 1 0 l.length),eI .i64 k] (fun x σ nx=>x=eI .i64 (k+l.length)∧nx=1∧σ=[(0,.cells 3 1 ((ir k l.length).map AI))]):=by
 refine eR Tryz.func164 rfl (by kernel_rfl) rfl ?_;intro Γ hΓ
 (repeat first |refine sN rfl ?_ |((first|refine sA rfl ?_ ?_|refine s4 rfl ‹_› rfl ?_ ?_);first|exact tI|omega|simp only[oZ] at *;omega) |refine s2 rfl fun _ _hb=>?_ |refine s3 rfl ?_ ?_<;>rintro rfl |refine aU rfl ?_ |refine Aa ?_)
 refine aB ?_
 refine aL (α:={i:Nat // i≤l.length}) [0] [] rfl rfl (fun s=>[(1,eI .i64 (k+s.1)),(5,eI .i64 s.1)]) (fun s=>[(0,.cells 3 1 ((gD (fun j:Nat=>k+(j:Int)) l s.1).map AI))]) 1 (fun s=>l.length - s.1) (⟨0,by omega⟩) hΓ rfl (by ((repeat' first|exact tI|rfl|refine And.intro ?_ ?_)<;>(simp[cX,zC,hΓ,cN,hX]<;>rfl))) ?_;rintro⟨i,hi⟩;(try dsimp only[cA,cB])
 by_cases hlt:i < l.length
 ·obtain⟨x,hx⟩:=get_some hlt
  have hg:((gD (fun j:Nat=>k+(j:Int)) l i).map AI)[0+((i:Nat):Int).toNat]? = some (AI x):=by rw [Nat.zero_add,Int.toNat_natCast,List.getElem?_map,gR hx];rfl
  have hs:((gD (fun j:Nat=>k+(j:Int)) l i).map AI).set (0+((i:Nat):Int).toNat) (AI (k+i))=(gD (fun j:Nat=>k+(j:Int)) l (i+1)).map AI:=by rw [Nat.zero_add,Int.toNat_natCast,←List.map_set,gT hx]
  (repeat first |refine sN rfl ?_ |((first|refine sA rfl ?_ ?_|refine s4 rfl ‹_› rfl ?_ ?_);first|exact tI|omega|simp only[oZ] at *;omega) |refine s2 rfl fun _ _hb=>?_ |refine s3 rfl ?_ ?_<;>rintro rfl |refine aU rfl ?_ |refine Aa ?_)
  ((refine aC rfl ?_ ?_<;>rintro⟨⟩);all_goals try(exfalso;first|omega|simp only[oZ] at *;omega))
  refine aK ?_
  refine aS (aB ?_)
  (repeat first |refine sN rfl ?_ |((first|refine sA rfl ?_ ?_|refine s4 rfl ‹_› rfl ?_ ?_);first|exact tI|omega|simp only[oZ] at *;omega) |refine s2 rfl fun _ _hb=>?_ |refine s3 rfl ?_ ?_<;>rintro rfl |refine aU rfl ?_ |refine Aa ?_)
  refine⟨⟨i+1,by first|omega|simp only[oZ] at *;omega⟩,by dsimp only;(first|omega|simp only[oZ] at *;omega),[0],?_⟩
  have hsp:AE (AI x) 0 (eC (eI .i64 (k+i)))=AI (k+i):=rfl
  rw [hsp,hs]
  simp[cX,zC,hΓ,cN,Int.add_assoc]
 ·obtain rfl:i=l.length:=by omega
  rw [gP]
  (repeat first |refine sN rfl ?_ |((first|refine sA rfl ?_ ?_|refine s4 rfl ‹_› rfl ?_ ?_);first|exact tI|omega|simp only[oZ] at *;omega) |refine s2 rfl fun _ _hb=>?_ |refine s3 rfl ?_ ?_<;>rintro rfl |refine aU rfl ?_ |refine Aa ?_)
  ((refine aC rfl ?_ ?_<;>rintro⟨⟩);all_goals try(exfalso;first|omega|simp only[oZ] at *;omega))
  refine aE ?_
  (repeat first |refine sN rfl ?_ |((first|refine sA rfl ?_ ?_|refine s4 rfl ‹_› rfl ?_ ?_);first|exact tI|omega|simp only[oZ] at *;omega) |refine s2 rfl fun _ _hb=>?_ |refine s3 rfl ?_ ?_<;>rintro rfl |refine aU rfl ?_ |refine Aa ?_)
  exact aR ⟨_,rfl,[0],eI .i64 (k+l.length),[(0,.cells 3 1 ((ir k l.length).map AI))],⟨by intro i hi;match i with|0=>rfl,by decide⟩,rfl,by ((repeat' first|exact tI|rfl|refine And.intro ?_ ?_)<;>(simp[cX,zC,hΓ,cN,ir]<;>rfl)),rfl,rfl,rfl⟩
theorem iz(l:List Bool)(k:Int)(h0:0≤k)(h1:k≤1152921504606846976)(h2:l.length≤1152921504606846976):Spec Tryz.prog TB 103 [(0,.cells 4 1 (l.map BE))] 1 [.o (.arr 0 1 0 l.length),eI .i64 k] (fun x σ nx=>x=eI .i64 (k+l.length)∧nx=1∧σ=[(0,.cells 4 1 ((gX k l.length).map BE))]):=by
 refine eR Tryz.func103 rfl (by kernel_rfl) rfl ?_;intro Γ hΓ
 (repeat first |refine sN rfl ?_ |((first|refine sA rfl ?_ ?_|refine s4 rfl ‹_› rfl ?_ ?_);first|exact tI|omega|simp only[oZ] at *;omega) |refine s2 rfl fun _ _hb=>?_ |refine s3 rfl ?_ ?_<;>rintro rfl |refine aU rfl ?_ |refine Aa ?_)
 refine aB ?_
 refine aL (α:={i:Nat // i≤l.length}) [0] [] rfl rfl (fun s=>[(1,eI .i64 (k+s.1)),(5,eI .i64 s.1)]) (fun s=>[(0,.cells 4 1 ((gD (fun j:Nat=>decide ((k+(j:Int)) % 3=0)) l s.1).map BE))]) 1 (fun s=>l.length - s.1) (⟨0,by omega⟩) hΓ rfl (by ((repeat' first|exact tI|rfl|refine And.intro ?_ ?_)<;>(simp[cX,zC,hΓ,cN,hX]<;>rfl))) ?_;rintro⟨i,hi⟩;(try dsimp only[cA,cB])
 by_cases hlt:i < l.length
 ·obtain⟨x,hx⟩:=get_some hlt
  have hg:((gD (fun j:Nat=>decide ((k+(j:Int)) % 3=0)) l i).map BE)[0+((i:Nat):Int).toNat]? = some (BE x):=by rw [Nat.zero_add,Int.toNat_natCast,List.getElem?_map,gR hx];rfl
  have hs:((gD (fun j:Nat=>decide ((k+(j:Int)) % 3=0)) l i).map BE).set (0+((i:Nat):Int).toNat) (BE (decide ((k+(i:Int)) % 3=0)))=(gD (fun j:Nat=>decide ((k+(j:Int)) % 3=0)) l (i+1)).map BE:=by rw [Nat.zero_add,Int.toNat_natCast,←List.map_set,gT hx]
  (repeat first |refine sN rfl ?_ |((first|refine sA rfl ?_ ?_|refine s4 rfl ‹_› rfl ?_ ?_);first|exact tI|omega|simp only[oZ] at *;omega) |refine s2 rfl fun _ _hb=>?_ |refine s3 rfl ?_ ?_<;>rintro rfl |refine aU rfl ?_ |refine Aa ?_)
  ((refine aC rfl ?_ ?_<;>rintro⟨⟩);all_goals try(exfalso;first|omega|simp only[oZ] at *;omega))
  refine aK ?_
  refine aS (aB ?_)
  (repeat first |refine sN rfl ?_ |((first|refine sA rfl ?_ ?_|refine s4 rfl ‹_› rfl ?_ ?_);first|exact tI|omega|simp only[oZ] at *;omega) |refine s2 rfl fun _ _hb=>?_ |refine s3 rfl ?_ ?_<;>rintro rfl |refine aU rfl ?_ |refine Aa ?_)
  subst _hb
  refine⟨⟨i+1,by first|omega|simp only[oZ] at *;omega⟩,by dsimp only;(first|omega|simp only[oZ] at *;omega),[0],?_⟩
  have hsp:AE (BE x) 0 (eC (eB (decide ((k+(i:Int)) % 3=0))))=BE (decide ((k+(i:Int)) % 3=0)):=rfl
  rw [hsp,hs]
  simp[cX,zC,hΓ,cN,Int.add_assoc]
 ·obtain rfl:i=l.length:=by omega
  rw [gP]
  (repeat first |refine sN rfl ?_ |((first|refine sA rfl ?_ ?_|refine s4 rfl ‹_› rfl ?_ ?_);first|exact tI|omega|simp only[oZ] at *;omega) |refine s2 rfl fun _ _hb=>?_ |refine s3 rfl ?_ ?_<;>rintro rfl |refine aU rfl ?_ |refine Aa ?_)
  ((refine aC rfl ?_ ?_<;>rintro⟨⟩);all_goals try(exfalso;first|omega|simp only[oZ] at *;omega))
  refine aE ?_
  (repeat first |refine sN rfl ?_ |((first|refine sA rfl ?_ ?_|refine s4 rfl ‹_› rfl ?_ ?_);first|exact tI|omega|simp only[oZ] at *;omega) |refine s2 rfl fun _ _hb=>?_ |refine s3 rfl ?_ ?_<;>rintro rfl |refine aU rfl ?_ |refine Aa ?_)
  exact aR ⟨_,rfl,[0],eI .i64 (k+l.length),[(0,.cells 4 1 ((gX k l.length).map BE))],⟨by intro i hi;match i with|0=>rfl,by decide⟩,rfl,by ((repeat' first|exact tI|rfl|refine And.intro ?_ ?_)<;>(simp[cX,zC,hΓ,cN,gX]<;>rfl)),rfl,rfl,rfl⟩
theorem gM(l:List W)(k:Int)(h0:0≤k)(h1:k≤1152921504606846976)(h2:l.length≤1152921504606846976):Spec Tryz.prog TB 82 [(0,.cells 9 1 (l.map Bg))] 1 [.o (.arr 0 1 0 l.length),eI .i64 k] (fun x σ nx=>x=eI .i64 (k+l.length)∧nx=1∧σ=[(0,.cells 9 1 ((je k l.length).map Bg))]):=by
 refine eR Tryz.func82 rfl (by kernel_rfl) rfl ?_;intro Γ hΓ
 (repeat first |refine sN rfl ?_ |((first|refine sA rfl ?_ ?_|refine s4 rfl ‹_› rfl ?_ ?_);first|exact tI|omega|simp only[oZ] at *;omega) |refine s2 rfl fun _ _hb=>?_ |refine s3 rfl ?_ ?_<;>rintro rfl |refine aU rfl ?_ |refine Aa ?_)
 refine aB ?_
 refine aL (α:={i:Nat // i≤l.length}) [0] [] rfl rfl (fun s=>[(1,eI .i64 (k+s.1)),(5,eI .i64 s.1)]) (fun s=>[(0,.cells 9 1 ((gD (fun j:Nat=>jm (k+(j:Int))) l s.1).map Bg))]) 1 (fun s=>l.length - s.1) (⟨0,by omega⟩) hΓ rfl (by ((repeat' first|exact tI|rfl|refine And.intro ?_ ?_)<;>(simp[cX,zC,hΓ,cN,hX]<;>rfl))) ?_;rintro⟨i,hi⟩;(try dsimp only[cA,cB])
 by_cases hlt:i < l.length
 ·obtain⟨x,hx⟩:=get_some hlt
  have hg:((gD (fun j:Nat=>jm (k+(j:Int))) l i).map Bg)[0+((i:Nat):Int).toNat]? = some (Bg x):=by rw [Nat.zero_add,Int.toNat_natCast,List.getElem?_map,gR hx];rfl
  have hs:((gD (fun j:Nat=>jm (k+(j:Int))) l i).map Bg).set (0+((i:Nat):Int).toNat) (Bg (jm (k+(i:Int))))=(gD (fun j:Nat=>jm (k+(j:Int))) l (i+1)).map Bg:=by rw [Nat.zero_add,Int.toNat_natCast,←List.map_set,gT hx]
  have hmt:=g9 (TB:=TB) (k+i) (by omega)
  (repeat first |refine sN rfl ?_ |((first|refine sA rfl ?_ ?_|refine s4 rfl ‹_› rfl ?_ ?_);first|exact tI|omega|simp only[oZ] at *;omega) |refine s2 rfl fun _ _hb=>?_ |refine s3 rfl ?_ ?_<;>rintro rfl |refine aU rfl ?_ |refine Aa ?_)
  ((refine aC rfl ?_ ?_<;>rintro⟨⟩);all_goals try(exfalso;first|omega|simp only[oZ] at *;omega))
  refine aK ?_
  refine aS (aB ?_)
  (repeat first |refine sN rfl ?_ |((first|refine sA rfl ?_ ?_|refine s4 rfl ‹_› rfl ?_ ?_);first|exact tI|omega|simp only[oZ] at *;omega) |refine s2 rfl fun _ _hb=>?_ |refine sP rfl (hmt) rfl ?_ |refine s3 rfl ?_ ?_<;>rintro rfl |refine aU rfl ?_ |refine Aa ?_)
  refine⟨⟨i+1,by first|omega|simp only[oZ] at *;omega⟩,by dsimp only;(first|omega|simp only[oZ] at *;omega),[0],?_⟩
  have hsp:AE (Bg x) 0 (eC (eT (jm (k+(i:Int)))))=Bg (jm (k+(i:Int))):=rfl
  rw [hsp,hs]
  simp[cX,zC,hΓ,cN,Int.add_assoc]
 ·obtain rfl:i=l.length:=by omega
  rw [gP]
  (repeat first |refine sN rfl ?_ |((first|refine sA rfl ?_ ?_|refine s4 rfl ‹_› rfl ?_ ?_);first|exact tI|omega|simp only[oZ] at *;omega) |refine s2 rfl fun _ _hb=>?_ |refine s3 rfl ?_ ?_<;>rintro rfl |refine aU rfl ?_ |refine Aa ?_)
  ((refine aC rfl ?_ ?_<;>rintro⟨⟩);all_goals try(exfalso;first|omega|simp only[oZ] at *;omega))
  refine aE ?_
  (repeat first |refine sN rfl ?_ |((first|refine sA rfl ?_ ?_|refine s4 rfl ‹_› rfl ?_ ?_);first|exact tI|omega|simp only[oZ] at *;omega) |refine s2 rfl fun _ _hb=>?_ |refine s3 rfl ?_ ?_<;>rintro rfl |refine aU rfl ?_ |refine Aa ?_)
  exact aR ⟨_,rfl,[0],eI .i64 (k+l.length),[(0,.cells 9 1 ((je k l.length).map Bg))],⟨by intro i hi;match i with|0=>rfl,by decide⟩,rfl,by ((repeat' first|exact tI|rfl|refine And.intro ?_ ?_)<;>(simp[cX,zC,hΓ,cN,je]<;>rfl)),rfl,rfl,rfl⟩
theorem iG(n:Nat)(k:Int)(h0:0≤k)(h1:k≤1152921504606846976)(h2:n≤1152921504606846976):Pure Tryz.prog TB 165 [Ag (ir k n),eI .i64 k] (eI .i64 (k+n)):=by
 have hl:=ja k n
 refine eG Tryz.func165 rfl (by kernel_rfl) rfl ?_;intro Γ hΓ
 (repeat first |refine sN rfl ?_ |((first|refine sA rfl ?_ ?_|refine s4 rfl ‹_› rfl ?_ ?_);first|exact tI|omega|simp only[oZ] at *;omega) |refine s2 rfl fun _ _hb=>?_ |refine s3 rfl ?_ ?_<;>rintro rfl |refine aU rfl ?_ |refine Aa ?_)
 refine aB ?_
 refine aL (α:={i:Nat // i≤n}) [0] [] rfl rfl (fun s=>[(1,eI .i64 (k+s.1)),(5,eI .i64 s.1)]) (fun s=>[]) 0 (fun s=>n - s.1) (⟨0,by omega⟩) hΓ rfl (by ((repeat' first|exact tI|rfl|refine And.intro ?_ ?_)<;>(simp[cX,zC,hΓ]<;>rfl))) ?_;rintro⟨i,hi⟩;(try dsimp only[cA,cB])
 by_cases hlt:i < n
 ·have hx:(ir k n)[i]? = some (k+i):=gU hlt
  have hx':=get_map (g:=Bm) hx
  (repeat first |refine sN rfl ?_ |((first|refine sA rfl ?_ ?_|refine s4 rfl ‹_› rfl ?_ ?_);first|exact tI|omega|simp only[oZ] at *;omega) |refine s2 rfl fun _ _hb=>?_ |refine s3 rfl ?_ ?_<;>rintro rfl |refine aU rfl ?_ |refine Aa ?_)
  ((refine aC rfl ?_ ?_<;>rintro⟨⟩);all_goals try(exfalso;first|omega|simp only[oZ] at *;omega))
  refine aK ?_
  refine aS (aB ?_)
  (repeat first |refine sN rfl ?_ |((first|refine sA rfl ?_ ?_|refine s4 rfl ‹_› rfl ?_ ?_);first|exact tI|omega|simp only[oZ] at *;omega) |refine s2 rfl fun _ _hb=>?_ |refine s3 rfl ?_ ?_<;>rintro rfl |refine aU rfl ?_ |refine Aa ?_)
  ((refine aC rfl ?_ ?_<;>rintro⟨⟩);all_goals try(exfalso;first|omega|simp only[oZ] at *;omega))
  refine aK ?_
  (repeat first |refine sN rfl ?_ |((first|refine sA rfl ?_ ?_|refine s4 rfl ‹_› rfl ?_ ?_);first|exact tI|omega|simp only[oZ] at *;omega) |refine s2 rfl fun _ _hb=>?_ |refine s3 rfl ?_ ?_<;>rintro rfl |refine aU rfl ?_ |refine Aa ?_)
  refine⟨⟨i+1,by first|omega|simp only[oZ] at *;omega⟩,by dsimp only;(first|omega|simp only[oZ] at *;omega),[],?_⟩
  simp[cX,zC,hΓ,Int.add_assoc]
 ·obtain rfl:i=n:=by omega
  (repeat first |refine sN rfl ?_ |((first|refine sA rfl ?_ ?_|refine s4 rfl ‹_› rfl ?_ ?_);first|exact tI|omega|simp only[oZ] at *;omega) |refine s2 rfl fun _ _hb=>?_ |refine s3 rfl ?_ ?_<;>rintro rfl |refine aU rfl ?_ |refine Aa ?_)
  ((refine aC rfl ?_ ?_<;>rintro⟨⟩);all_goals try(exfalso;first|omega|simp only[oZ] at *;omega))
  refine aE ?_
  (repeat first |refine sN rfl ?_ |((first|refine sA rfl ?_ ?_|refine s4 rfl ‹_› rfl ?_ ?_);first|exact tI|omega|simp only[oZ] at *;omega) |refine s2 rfl fun _ _hb=>?_ |refine s3 rfl ?_ ?_<;>rintro rfl |refine aU rfl ?_ |refine Aa ?_)
  (subst_vars;exact aR ⟨_,rfl,rfl⟩)
theorem iv(n:Nat)(k:Int)(h0:0≤k)(h1:k≤1152921504606846976)(h2:n≤1152921504606846976):Pure Tryz.prog TB 105 [Gk (gX k n),eI .i64 k] (eI .i64 (k+n)):=by
 have hl:=hY k n
 refine eG Tryz.func105 rfl (by kernel_rfl) rfl ?_;intro Γ hΓ
 (repeat first |refine sN rfl ?_ |((first|refine sA rfl ?_ ?_|refine s4 rfl ‹_› rfl ?_ ?_);first|exact tI|omega|simp only[oZ] at *;omega) |refine s2 rfl fun _ _hb=>?_ |refine s3 rfl ?_ ?_<;>rintro rfl |refine aU rfl ?_ |refine Aa ?_)
 refine aB ?_
 refine aL (α:={i:Nat // i≤n}) [0] [] rfl rfl (fun s=>[(1,eI .i64 (k+s.1)),(5,eI .i64 s.1)]) (fun s=>[]) 0 (fun s=>n - s.1) (⟨0,by omega⟩) hΓ rfl (by ((repeat' first|exact tI|rfl|refine And.intro ?_ ?_)<;>(simp[cX,zC,hΓ]<;>rfl))) ?_;rintro⟨i,hi⟩;(try dsimp only[cA,cB])
 by_cases hlt:i < n
 ·have hx:(gX k n)[i]? = some (decide ((k+(i:Int)) % 3=0)):=gU hlt
  have hx':=get_map (g:=Gh) hx
  (repeat first |refine sN rfl ?_ |((first|refine sA rfl ?_ ?_|refine s4 rfl ‹_› rfl ?_ ?_);first|exact tI|omega|simp only[oZ] at *;omega) |refine s2 rfl fun _ _hb=>?_ |refine s3 rfl ?_ ?_<;>rintro rfl |refine aU rfl ?_ |refine Aa ?_)
  ((refine aC rfl ?_ ?_<;>rintro⟨⟩);all_goals try(exfalso;first|omega|simp only[oZ] at *;omega))
  refine aK ?_
  refine aS (aB ?_)
  (repeat first |refine sN rfl ?_ |((first|refine sA rfl ?_ ?_|refine s4 rfl ‹_› rfl ?_ ?_);first|exact tI|omega|simp only[oZ] at *;omega) |refine s2 rfl fun _ _hb=>?_ |refine s3 rfl ?_ ?_<;>rintro rfl |refine aU rfl ?_ |refine Aa ?_)
  (refine aC rfl ?_ ?_<;>rintro⟨⟩)
  ·exfalso
   simp_all
  refine aK ?_
  (repeat first |refine sN rfl ?_ |((first|refine sA rfl ?_ ?_|refine s4 rfl ‹_› rfl ?_ ?_);first|exact tI|omega|simp only[oZ] at *;omega) |refine s2 rfl fun _ _hb=>?_ |refine s3 rfl ?_ ?_<;>rintro rfl |refine aU rfl ?_ |refine Aa ?_)
  refine⟨⟨i+1,by first|omega|simp only[oZ] at *;omega⟩,by dsimp only;(first|omega|simp only[oZ] at *;omega),[],?_⟩
  simp[cX,zC,hΓ,Int.add_assoc]
 ·obtain rfl:i=n:=by omega
  (repeat first |refine sN rfl ?_ |((first|refine sA rfl ?_ ?_|refine s4 rfl ‹_› rfl ?_ ?_);first|exact tI|omega|simp only[oZ] at *;omega) |refine s2 rfl fun _ _hb=>?_ |refine s3 rfl ?_ ?_<;>rintro rfl |refine aU rfl ?_ |refine Aa ?_)
  ((refine aC rfl ?_ ?_<;>rintro⟨⟩);all_goals try(exfalso;first|omega|simp only[oZ] at *;omega))
  refine aE ?_
  (repeat first |refine sN rfl ?_ |((first|refine sA rfl ?_ ?_|refine s4 rfl ‹_› rfl ?_ ?_);first|exact tI|omega|simp only[oZ] at *;omega) |refine s2 rfl fun _ _hb=>?_ |refine s3 rfl ?_ ?_<;>rintro rfl |refine aU rfl ?_ |refine Aa ?_)
  (subst_vars;exact aR ⟨_,rfl,rfl⟩)
theorem gL(n:Nat)(k:Int)(h0:0≤k)(h1:k≤1152921504606846976)(h2:n≤1152921504606846976):Pure Tryz.prog TB 83 [Bl (je k n),eI .i64 k] (eI .i64 (k+n)):=by
 have hl:=jr k n
 refine eG Tryz.func83 rfl (by kernel_rfl) rfl ?_;intro Γ hΓ
 (repeat first |refine sN rfl ?_ |((first|refine sA rfl ?_ ?_|refine s4 rfl ‹_› rfl ?_ ?_);first|exact tI|omega|simp only[oZ] at *;omega) |refine s2 rfl fun _ _hb=>?_ |refine s3 rfl ?_ ?_<;>rintro rfl |refine aU rfl ?_ |refine Aa ?_)
 refine aB ?_
 refine aL (α:={i:Nat // i≤n}) [0] [] rfl rfl (fun s=>[(1,eI .i64 (k+s.1)),(5,eI .i64 s.1)]) (fun s=>[]) 0 (fun s=>n - s.1) (⟨0,by omega⟩) hΓ rfl (by ((repeat' first|exact tI|rfl|refine And.intro ?_ ?_)<;>(simp[cX,zC,hΓ]<;>rfl))) ?_;rintro⟨i,hi⟩;(try dsimp only[cA,cB])
 by_cases hlt:i < n
 ·have hx:(je k n)[i]? = some (jm (k+i)):=gU hlt
  have hx':=get_map (g:=BD) hx
  have hmt:=g9 (TB:=TB) (k+i) (by omega)
  (repeat first |refine sN rfl ?_ |((first|refine sA rfl ?_ ?_|refine s4 rfl ‹_› rfl ?_ ?_);first|exact tI|omega|simp only[oZ] at *;omega) |refine s2 rfl fun _ _hb=>?_ |refine s3 rfl ?_ ?_<;>rintro rfl |refine aU rfl ?_ |refine Aa ?_)
  ((refine aC rfl ?_ ?_<;>rintro⟨⟩);all_goals try(exfalso;first|omega|simp only[oZ] at *;omega))
  refine aK ?_
  refine aS (aB ?_)
  (repeat first |refine sN rfl ?_ |((first|refine sA rfl ?_ ?_|refine s4 rfl ‹_› rfl ?_ ?_);first|exact tI|omega|simp only[oZ] at *;omega) |refine s2 rfl fun _ _hb=>?_ |refine s3 rfl ?_ ?_<;>rintro rfl |refine aU rfl ?_ |refine Aa ?_)
  refine rG (J6 []) (by kernel_rfl) ?_
  (repeat first |refine sN rfl ?_ |((first|refine sA rfl ?_ ?_|refine s4 rfl ‹_› rfl ?_ ?_);first|exact tI|omega|simp only[oZ] at *;omega) |refine s2 rfl fun _ _hb=>?_ |refine sP rfl (hmt) rfl ?_ |refine s3 rfl ?_ ?_<;>rintro rfl |refine aU rfl ?_ |refine Aa ?_)
  (refine aC rfl ?_ ?_<;>rintro⟨⟩)
  ·exfalso
   simp_all
  refine aK ?_
  (repeat first |refine sN rfl ?_ |((first|refine sA rfl ?_ ?_|refine s4 rfl ‹_› rfl ?_ ?_);first|exact tI|omega|simp only[oZ] at *;omega) |refine s2 rfl fun _ _hb=>?_ |refine s3 rfl ?_ ?_<;>rintro rfl |refine aU rfl ?_ |refine Aa ?_)
  refine⟨⟨i+1,by first|omega|simp only[oZ] at *;omega⟩,by dsimp only;(first|omega|simp only[oZ] at *;omega),[],?_⟩
  simp[cX,zC,hΓ,Int.add_assoc]
 ·obtain rfl:i=n:=by omega
  (repeat first |refine sN rfl ?_ |((first|refine sA rfl ?_ ?_|refine s4 rfl ‹_› rfl ?_ ?_);first|exact tI|omega|simp only[oZ] at *;omega) |refine s2 rfl fun _ _hb=>?_ |refine s3 rfl ?_ ?_<;>rintro rfl |refine aU rfl ?_ |refine Aa ?_)
  ((refine aC rfl ?_ ?_<;>rintro⟨⟩);all_goals try(exfalso;first|omega|simp only[oZ] at *;omega))
  refine aE ?_
  (repeat first |refine sN rfl ?_ |((first|refine sA rfl ?_ ?_|refine s4 rfl ‹_› rfl ?_ ?_);first|exact tI|omega|simp only[oZ] at *;omega) |refine s2 rfl fun _ _hb=>?_ |refine s3 rfl ?_ ?_<;>rintro rfl |refine aU rfl ?_ |refine Aa ?_)
  (subst_vars;exact aR ⟨_,rfl,rfl⟩)
theorem iw(ns:List Nat)(k:Int)(h0:0≤k)(h1:k+ns.sum≤1152921504606846976)(h2:ns.length≤1152921504606846976):Pure Tryz.prog TB 104 [BS (ia k ns),eI .i64 k] (eI .i64 (k+ns.sum)):=by
 have hl:=iK k ns
 refine eG Tryz.func104 rfl (by kernel_rfl) rfl ?_;intro Γ hΓ
 (repeat first |refine sN rfl ?_ |((first|refine sA rfl ?_ ?_|refine s4 rfl ‹_› rfl ?_ ?_);first|exact tI|omega|simp only[oZ] at *;omega) |refine s2 rfl fun _ _hb=>?_ |refine s3 rfl ?_ ?_<;>rintro rfl |refine aU rfl ?_ |refine Aa ?_)
 refine aB ?_
 refine aL (α:={i:Nat // i≤ns.length}) [0] [] rfl rfl (fun s=>[(1,eI .i64 (k+gz ns s.1)),(5,eI .i64 s.1)]) (fun s=>[]) 0 (fun s=>ns.length - s.1) (⟨0,by omega⟩) hΓ rfl (by ((repeat' first|exact tI|rfl|refine And.intro ?_ ?_)<;>(simp[cX,zC,hΓ,gz]<;>rfl))) ?_;rintro⟨i,hi⟩;(try dsimp only[cA,cB])
 by_cases hlt:i < ns.length
 ·obtain⟨n,hn⟩:=get_some hlt
  have hx:(ia k ns)[i]? = some (ir (k+gz ns i) n):=by
   have:=gU (f:=fun i=>ir (k+gz ns i) (ns.getD i 0)) hlt
   rw [iZ hn] at this
   exact this
  have hx':=get_map (g:=Dy) hx
  have hs:=ic hn
  have hle:=ib ns (i+1)
  have hc:=iG (TB:=TB) n (k+gz ns i) (by omega) (by omega) (by omega)
  have ek:k+((gz ns (i+1):Nat):Int)=k+gz ns i+n:=by rw [hs];omega
  (repeat first |refine sN rfl ?_ |((first|refine sA rfl ?_ ?_|refine s4 rfl ‹_› rfl ?_ ?_);first|exact tI|omega|simp only[oZ] at *;omega) |refine s2 rfl fun _ _hb=>?_ |refine s3 rfl ?_ ?_<;>rintro rfl |refine aU rfl ?_ |refine Aa ?_)
  ((refine aC rfl ?_ ?_<;>rintro⟨⟩);all_goals try(exfalso;first|omega|simp only[oZ] at *;omega))
  refine aK ?_
  refine aS (aB ?_)
  (repeat first |refine sN rfl ?_ |((first|refine sA rfl ?_ ?_|refine s4 rfl ‹_› rfl ?_ ?_);first|exact tI|omega|simp only[oZ] at *;omega) |refine s2 rfl fun _ _hb=>?_ |refine sP rfl (hc) rfl ?_ |refine s3 rfl ?_ ?_<;>rintro rfl |refine aU rfl ?_ |refine Aa ?_)
  ((refine aC rfl ?_ ?_<;>rintro⟨⟩);all_goals try(exfalso;first|omega|simp only[oZ] at *;omega))
  refine aK ?_
  (repeat first |refine sN rfl ?_ |((first|refine sA rfl ?_ ?_|refine s4 rfl ‹_› rfl ?_ ?_);first|exact tI|omega|simp only[oZ] at *;omega) |refine s2 rfl fun _ _hb=>?_ |refine s3 rfl ?_ ?_<;>rintro rfl |refine aU rfl ?_ |refine Aa ?_)
  refine⟨⟨i+1,by first|omega|simp only[oZ] at *;omega⟩,by dsimp only;(first|omega|simp only[oZ] at *;omega),[],?_⟩
  simp[cX,zC,hΓ,ek]
 ·obtain rfl:i=ns.length:=by omega
  rw [iu]
  (repeat first |refine sN rfl ?_ |((first|refine sA rfl ?_ ?_|refine s4 rfl ‹_› rfl ?_ ?_);first|exact tI|omega|simp only[oZ] at *;omega) |refine s2 rfl fun _ _hb=>?_ |refine s3 rfl ?_ ?_<;>rintro rfl |refine aU rfl ?_ |refine Aa ?_)
  ((refine aC rfl ?_ ?_<;>rintro⟨⟩);all_goals try(exfalso;first|omega|simp only[oZ] at *;omega))
  refine aE ?_
  (repeat first |refine sN rfl ?_ |((first|refine sA rfl ?_ ?_|refine s4 rfl ‹_› rfl ?_ ?_);first|exact tI|omega|simp only[oZ] at *;omega) |refine s2 rfl fun _ _hb=>?_ |refine s3 rfl ?_ ?_<;>rintro rfl |refine aU rfl ?_ |refine Aa ?_)
  (subst_vars;exact aR ⟨_,rfl,rfl⟩)
theorem gH(al:Int)(ns:List Nat)(n:Nat)(k:Int)(h0:0≤k)(h1:k+ns.sum+n≤1152921504606846976)(h2:ns.length≤1152921504606846976):Pure Tryz.prog TB 35 [Da ⟨al,ia k ns,gX (k+ns.sum) n⟩,eI .i64 k] (eI .i64 (k+ns.sum+n)):=by
 have c1:=iw (TB:=TB) ns k h0 (by omega) h2
 have c2:=iv (TB:=TB) n (k+ns.sum) (by omega) (by omega) (by omega)
 refine eG Tryz.func35 rfl (by kernel_rfl) rfl ?_;intro Γ hΓ
 (repeat first |refine sN rfl ?_ |((first|refine sA rfl ?_ ?_|refine s4 rfl ‹_› rfl ?_ ?_);first|exact tI|omega|simp only[oZ] at *;omega) |refine s2 rfl fun _ _hb=>?_ |refine sP rfl (c1) rfl ?_ |refine s3 rfl ?_ ?_<;>rintro rfl |refine aU rfl ?_ |refine Aa ?_)
 ((refine aC rfl ?_ ?_<;>rintro⟨⟩);all_goals try(exfalso;first|omega|simp only[oZ] at *;omega))
 refine aK ?_
 (repeat first |refine sN rfl ?_ |((first|refine sA rfl ?_ ?_|refine s4 rfl ‹_› rfl ?_ ?_);first|exact tI|omega|simp only[oZ] at *;omega) |refine s2 rfl fun _ _hb=>?_ |refine sP rfl (c2) rfl ?_ |refine s3 rfl ?_ ?_<;>rintro rfl |refine aU rfl ?_ |refine Aa ?_)
 ((refine aC rfl ?_ ?_<;>rintro⟨⟩);all_goals try(exfalso;first|omega|simp only[oZ] at *;omega))
 refine aK ?_
 (repeat first |refine sN rfl ?_ |((first|refine sA rfl ?_ ?_|refine s4 rfl ‹_› rfl ?_ ?_);first|exact tI|omega|simp only[oZ] at *;omega) |refine s2 rfl fun _ _hb=>?_ |refine s3 rfl ?_ ?_<;>rintro rfl |refine aU rfl ?_ |refine Aa ?_)
 (subst_vars;exact aR ⟨_,rfl,rfl⟩)
theorem ix(n m:Nat)(k:Int)(h0:0≤k)(h1:k+n+m≤1152921504606846976):Pure Tryz.prog TB 26 [B8 ⟨je k n,je (k+n) m⟩,eI .i64 k] (eI .i64 (k+n+m)):=by
 have c1:=gL (TB:=TB) n k h0 (by omega) (by omega)
 have c2:=gL (TB:=TB) m (k+n) (by omega) (by omega) (by omega)
 refine eG Tryz.func26 rfl (by kernel_rfl) rfl ?_;intro Γ hΓ
 (repeat first |refine sN rfl ?_ |((first|refine sA rfl ?_ ?_|refine s4 rfl ‹_› rfl ?_ ?_);first|exact tI|omega|simp only[oZ] at *;omega) |refine s2 rfl fun _ _hb=>?_ |refine sP rfl (c1) rfl ?_ |refine s3 rfl ?_ ?_<;>rintro rfl |refine aU rfl ?_ |refine Aa ?_)
 ((refine aC rfl ?_ ?_<;>rintro⟨⟩);all_goals try(exfalso;first|omega|simp only[oZ] at *;omega))
 refine aK ?_
 (repeat first |refine sN rfl ?_ |((first|refine sA rfl ?_ ?_|refine s4 rfl ‹_› rfl ?_ ?_);first|exact tI|omega|simp only[oZ] at *;omega) |refine s2 rfl fun _ _hb=>?_ |refine sP rfl (c2) rfl ?_ |refine s3 rfl ?_ ?_<;>rintro rfl |refine aU rfl ?_ |refine Aa ?_)
 ((refine aC rfl ?_ ?_<;>rintro⟨⟩);all_goals try(exfalso;first|omega|simp only[oZ] at *;omega))
 refine aK ?_
 (repeat first |refine sN rfl ?_ |((first|refine sA rfl ?_ ?_|refine s4 rfl ‹_› rfl ?_ ?_);first|exact tI|omega|simp only[oZ] at *;omega) |refine s2 rfl fun _ _hb=>?_ |refine s3 rfl ?_ ?_<;>rintro rfl |refine aU rfl ?_ |refine Aa ?_)
 (subst_vars;exact aR ⟨_,rfl,rfl⟩)
end Go.Am
