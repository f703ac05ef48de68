/-
  The tables that the rows list, as the walks want them.
-/
import Derived.Test.YtkdilmleinnfiaaGreatDoorPart27
import Derived.Test.YtkdilmleinnfiaaGreatDoorPart9
import Derived.Test.YtkdilmleinnfiaaGreatDoorPart14
import Derived.Test.YtkdilmleinnfiaaGreatDoorPart17
import Derived.Test.YtkdilmleinnfiaaGreatDoorPart20
import Derived.Test.YtkdilmleinnfiaaGreatDoorPart23
set_option linter.constructorNameAsVariable false
set_option linter.unusedSectionVars false
set_option linter.unusedSimpArgs false
set_option linter.unusedVariables false
namespace Go.Proofs.YtkdilmleinnfiaaGreatDoor
open Go Go.Am Go.ChangeShapes Go.WideShapes Go.ChangeAt Go.RowKit
def gF(l:List Value):List Int:=l.map fun v=>match v with|.int _ n=>n|_=>0
theorem gE{P:Program}{W:World}{name:String}{g:Nat}{t e:TypeId}{n:Nat}{zs:List Int}{fuel:Nat}{cs:Array Value}{p:List MemPlace}(hg:P.globalNamed name=some g)(ht:P.underlying t=some (.array n e))(he:P.underlying e=some (.int .u8))(hce:P.cellsOf e=1)(hct:P.cellsOf t=n)
 (hv:W.var? P name=some cs) (hd:DataW.trod (fun _=>()) P W 0 (fun _=>true) false fuel t cs.toList=some (Lib.tabData .u8 zs,p)):∃T fr,W.heap[g]? = some (.cells (zs.map fun z=>Value.int .u8 z).toArray T fr):=by
 have h:=Lib.cells_of_tab ht he hce hct hd
 unfold World.var? at hv
 rw [hg] at hv
 simp only [Option.bind_some] at hv
 split at hv
 ·rename_i c T fr hh
  injection hv with hv
  subst hv
  refine⟨T,fr,?_⟩
  rw [hh,←h]
 ·cases hv
theorem tables {W:World} {rest:List (String×DataW Unit)} (h:laidMet Tryz.prog (("math/bits.deBruijn32tab",Rows.laid_math_bits_deBruijn32tab)::("math/bits.deBruijn64tab",Rows.laid_math_bits_deBruijn64tab)::rest) W):∃tabs:List (Nat×Obj),Fo ⟨tabs,none⟩∧∀x∈(⟨tabs,none⟩:Be),below W x.1∧W.heap[x.1]? = some x.2:=by
 obtain⟨ps,⟨g0,t0,cs0,f0,p0,q0,hg0,ht0,hv0,hd0,⟨g1,t1,cs1,f1,p1,q1,hg1,ht1,hv1,hd1,_,_⟩,_⟩,_,_⟩:=h
 have k0:Tryz.prog.globalNamed "math/bits.deBruijn32tab" = some 1:=by kernel_rfl
 have k1:Tryz.prog.globalNamed "math/bits.deBruijn64tab" = some 2:=by kernel_rfl
 obtain rfl:=Option.some.inj (k0.symm.trans hg0)
 obtain rfl:=Option.some.inj (k1.symm.trans hg1)
 have l0:(Tryz.prog.globals[1]?).map (·.type)=some 306:=by kernel_rfl
 have l1:(Tryz.prog.globals[2]?).map (·.type)=some 307:=by kernel_rfl
 obtain rfl:=Option.some.inj (l0.symm.trans ht0)
 obtain rfl:=Option.some.inj (l1.symm.trans ht1)
 obtain⟨T0,fr0,h0⟩:=gE (zs:=gF FY) k0 Tryz.underlying306 Tryz.underlying5 (by kernel_rfl) (by kernel_rfl) hv0 hd0
 obtain⟨T1,fr1,h1⟩:=gE (zs:=gF B7) k1 Tryz.underlying307 Tryz.underlying5 (by kernel_rfl) (by kernel_rfl) hv1 hd1
 refine⟨[(1,.cells ((gF FY).map fun z=>Value.int .u8 z).toArray T0 fr0),(2,.cells ((gF B7).map fun z=>Value.int .u8 z).toArray T1 fr1)],⟨⟨⟨_,_,_,List.mem_cons_self,fun i v hv=>?_⟩,by decide⟩,⟨⟨_,_,_,List.mem_cons_of_mem _ List.mem_cons_self,fun i v hv=>?_⟩,by decide⟩⟩,?_⟩
 ·have:FY=(gF FY).map fun z=>Value.int .u8 z:=rfl
  rw [List.getElem?_toArray,←this];exact hv
 ·have:B7=(gF B7).map fun z=>Value.int .u8 z:=rfl
  rw [List.getElem?_toArray,←this];exact hv
 ·intro x hx
  have hx:x∈[_,_]:=hx
  simp only [List.mem_cons,List.not_mem_nil,or_false] at hx
  rcases hx with rfl|rfl
  ·exact⟨(Array.getElem?_eq_some_iff.1 h0).1,h0⟩
  ·exact⟨(Array.getElem?_eq_some_iff.1 h1).1,h1⟩
theorem gM{H:Type}{enc:TypeId×Value→H}{P:Program}{w:World}{t:TypeId}{v:Value}{d:DataW H}{ps:List MemPlace}{base:Nat}(ht:P.underlying t=some (.int .i64))(hv:Value.okWide P w .any base t v)(hd:DataW.Trod enc P w 0 (fun _=>true) true t v d ps):∃n : { n:Int // n < 9223372036854775808 },A2 (PB w) (eI .i64 n.1) v:=by
 obtain⟨m,hm⟩:=hd
 obtain⟨n,hc,_,hw⟩:=DataW.trod_int ht hm
 refine⟨⟨n,by have:=bounds_i64 hw;omega⟩,?_⟩
 have:v=.int .i64 n:=by
  unfold Value.okWide Cell.okWide Cell.ok at hv
  simp only [ht] at hv
  split at hv<;>simp_all [Value.cells]
 subst this
 exact .d (.v rfl)
section
variable {w:World}
theorem gR:Rd Tryz.prog w 30 7 (fun t:Am.Sys×Bn×Int=>Ok t.1++(Ed t.2.1++[iD t.2.2])):=
 IG (k0:=3) (k1:=3) (k2:=1) Tryz.underlying30 ⟨rfl,rfl,rfl⟩ ⟨by kernel_rfl,by kernel_rfl,by kernel_rfl,by kernel_rfl⟩ fX fW (IF Tryz.underlying3)
theorem gP:Rd Tryz.prog w 32 11 (fun te:CL=>Ua te.kn te.p te.s te.q te.al):=
 Rd.map (fun y:Bool×Bn×(Am.Sys×Bn×Int)=>(⟨y.1,y.2.1,y.2.2.1,y.2.2.2.1,y.2.2.2.2⟩:CL)) (fun _=>rfl) (IG (k0:=1) (k1:=3) (k2:=7) Tryz.underlying32 ⟨rfl,rfl,rfl⟩ ⟨by kernel_rfl,by kernel_rfl,by kernel_rfl,by kernel_rfl⟩ (Y0 Tryz.underlying4) fW gR)
abbrev gT:={ s:List UInt8 // s.length≤9223372036854775807 }
theorem gC{P:Program}{t:TypeId}(ht:P.underlying t=some .string):Rd P w t 1 (fun s:gT=>[tD s.1]):=fun enc fuel cs x hx=>by
 obtain⟨s,rfl,_,hs⟩:=DataW.trod_string ht hx
 have h2:s.data.toList.length=s.size:=Array.length_toList
 have h3:s.data.toList.length≤9223372036854775807:=by rw [h2];exact hs
 refine⟨⟨s.data.toList,h3⟩,rfl,rfl,Hr ?_⟩
 have:(⟨s.data.toList.toArray⟩:ByteArray)=s:=by cases s;simp
 show Ch _ _ (.v (.string ⟨s.data.toList.toArray⟩)) _
 rw [this]
 exact .v rfl
theorem gL(l:List gT):∀r∈l.map (·.1),r.length≤9223372036854775807:=fun r hr=>by
 obtain⟨y,_,rfl⟩:=List.mem_map.1 hr
 exact y.2
theorem gO:Rd Tryz.prog w 35 2 (fun x : { x:AN // cf x } => [Ba x.1.rows,Ba x.1.cols]):=
 Rd.map (fun y:List gT×List gT=>(⟨⟨y.1.map (·.1),y.2.map (·.1)⟩,gL _,gL _⟩ : { x:AN // cf x })) (fun y=>by show [D.l _,D.l _]=[D.l _,D.l _];simp only [List.map_map];rfl) (bj (k0:=1) (k1:=1) Tryz.underlying35 ⟨rfl,rfl⟩ ⟨by kernel_rfl,by kernel_rfl,by kernel_rfl⟩ (Jw Tryz.underlying33 (by kernel_rfl) (by decide) (gC Tryz.underlying9)) (Jw Tryz.underlying33 (by kernel_rfl) (by decide) (gC Tryz.underlying9)))
end
end Go.Proofs.YtkdilmleinnfiaaGreatDoor
namespace Go.Am
open Go Go.Proofs
set_option maxHeartbeats 1000000
set_option maxRecDepth 4000
attribute [local irreducible] AV BX Lex Bf Av Spec
variable {tabs:List (Nat×Obj)}
theorem gK(te:CL):0≤Dt te→Bb (Dt te)=true:=fun h=>by
 unfold Dt at *
 split at h
 ·rename_i hk;rw [if_pos hk];exact CJ hk
 ·omega
theorem gz[Fo ⟨tabs,none⟩](te:CL)(x : {x:AN // cf x})(w:W):Pure Tryz.prog ⟨tabs,none⟩ 4 [Cj te,B8 x.1,eT w] (eB true):=by
 obtain⟨x,hln⟩:=x
 dsimp only
 have h1:=dF (te:=te) (left:=1048576) (by omega) (by omega)
 have h2:=fun h=>dE (x:=x) (left:=Oo te 1048576) h (by omega)
 refine eG Tryz.func4 rfl (by kernel_rfl) rfl ?_;intro Γ hΓ
 (repeat first |refine sN rfl ?_ |((first|refine sA rfl ?_ ?_|refine s4 rfl ‹_› rfl ?_ ?_);first|exact tI|omega|simp only[oZ] at *;omega) |refine s2 rfl fun _ _hb=>?_ |refine s3 rfl ?_ ?_<;>rintro rfl |refine aU rfl ?_ |refine Aa ?_)
 (refine aC rfl ?_ ?_<;>rintro⟨⟩)
 ·(repeat first |refine sN rfl ?_ |((first|refine sA rfl ?_ ?_|refine s4 rfl ‹_› rfl ?_ ?_);first|exact tI|omega|simp only[oZ] at *;omega) |refine s2 rfl fun _ _hb=>?_ |refine s3 rfl ?_ ?_<;>rintro rfl |refine aU rfl ?_ |refine Aa ?_)
  (subst_vars;exact aR ⟨_,rfl,rfl⟩)
 have hwl:w.length≤1048576:=by first|omega|simp only[oZ] at *;omega
 refine aK ?_
 (repeat first |refine sN rfl ?_ |((first|refine sA rfl ?_ ?_|refine s4 rfl ‹_› rfl ?_ ?_);first|exact tI|omega|simp only[oZ] at *;omega) |refine s2 rfl fun _ _hb=>?_ |refine sP rfl (Zh te 1048576 (by omega) (by omega)) rfl ?_ |refine s3 rfl ?_ ?_<;>rintro rfl |refine aU rfl ?_ |refine Aa ?_)
 (refine aC rfl ?_ ?_<;>rintro⟨⟩)
 ·(repeat first |refine sN rfl ?_ |((first|refine sA rfl ?_ ?_|refine s4 rfl ‹_› rfl ?_ ?_);first|exact tI|omega|simp only[oZ] at *;omega) |refine s2 rfl fun _ _hb=>?_ |refine s3 rfl ?_ ?_<;>rintro rfl |refine aU rfl ?_ |refine Aa ?_)
  (subst_vars;exact aR ⟨_,rfl,rfl⟩)
 have k1:0≤Oo te 1048576:=by first|omega|simp only[oZ] at *;omega
 have h2:=h2 k1
 refine aK ?_
 (repeat first |refine sN rfl ?_ |((first|refine sA rfl ?_ ?_|refine s4 rfl ‹_› rfl ?_ ?_);first|exact tI|omega|simp only[oZ] at *;omega) |refine s2 rfl fun _ _hb=>?_ |refine sP rfl (br x hln (Oo te 1048576) (by omega) (by omega)) rfl ?_ |refine s3 rfl ?_ ?_<;>rintro rfl |refine aU rfl ?_ |refine Aa ?_)
 (refine aC rfl ?_ ?_<;>rintro⟨⟩)
 ·(repeat first |refine sN rfl ?_ |((first|refine sA rfl ?_ ?_|refine s4 rfl ‹_› rfl ?_ ?_);first|exact tI|omega|simp only[oZ] at *;omega) |refine s2 rfl fun _ _hb=>?_ |refine s3 rfl ?_ ?_<;>rintro rfl |refine aU rfl ?_ |refine Aa ?_)
  (subst_vars;exact aR ⟨_,rfl,rfl⟩)
 have k2:0≤On x (Oo te 1048576):=by first|omega|simp only[oZ] at *;omega
 refine aK ?_
 obtain⟨hz,hr,hc⟩:=h2.2.2 k2
 have ht:=h1.2.2 k1
 have c1:=Zk (TB:=⟨tabs,none⟩) te ht
 have c2:=bz (TB:=⟨tabs,none⟩) x hr hc
 have e1:=Nt (eH (TB:=⟨tabs,none⟩) te) (gK te) x hz w hwl
 rw [XD] at e1
 have e2:=Ux (tabs:=tabs) (te:=te) x hz w (by omega)
 have e3:=X8 (TB:=⟨tabs,none⟩) te
 have e4:=ZX (TB:=⟨tabs,none⟩) x
 generalize DV te x w=o at *
 cases o with
 | none=>
  (repeat first |refine sN rfl ?_ |((first|refine sA rfl ?_ ?_|refine s4 rfl ‹_› rfl ?_ ?_);first|exact tI|omega|simp only[oZ] at *;omega) |refine s2 rfl fun _ _hb=>?_ |refine s3 rfl ?_ ?_<;>rintro rfl |refine aU rfl ?_ |refine Aa ?_)
  refine rG (J6 []) (by kernel_rfl) ?_
  (repeat first |refine sN rfl ?_ |((first|refine sA rfl ?_ ?_|refine s4 rfl ‹_› rfl ?_ ?_);first|exact tI|omega|simp only[oZ] at *;omega) |refine s2 rfl fun _ _hb=>?_ |refine sP rfl (c1) rfl ?_|refine sP rfl (c2) rfl ?_|refine sP rfl (e1) rfl ?_|refine sP rfl (e2) rfl ?_ |refine s3 rfl ?_ ?_<;>rintro rfl |refine aU rfl ?_ |refine Aa ?_)
  (repeat' first |refine sN rfl ?_ |((first|refine sA rfl ?_ ?_|refine s4 rfl ‹_› rfl ?_ ?_);first|exact tI|omega|simp only[oZ] at *;omega) |refine s2 rfl fun _ _hb=>?_ |refine sP rfl (c1) rfl ?_|refine sP rfl (c2) rfl ?_|refine sP rfl (e1) rfl ?_|refine sP rfl (e2) rfl ?_ |refine s3 rfl ?_ ?_<;>rintro rfl |refine aU rfl ?_ |refine Aa ?_|(refine aC rfl ?_ ?_<;>rintro⟨⟩));all_goals try contradiction
  all_goals try (exfalso;simp at *;done)
  refine aK ?_
  (repeat first |refine sN rfl ?_ |((first|refine sA rfl ?_ ?_|refine s4 rfl ‹_› rfl ?_ ?_);first|exact tI|omega|simp only[oZ] at *;omega) |refine s2 rfl fun _ _hb=>?_ |refine s3 rfl ?_ ?_<;>rintro rfl |refine aU rfl ?_ |refine Aa ?_)
  refine rG (J6 []) (by kernel_rfl) ?_
  (repeat' first |refine sN rfl ?_ |((first|refine sA rfl ?_ ?_|refine s4 rfl ‹_› rfl ?_ ?_);first|exact tI|omega|simp only[oZ] at *;omega) |refine s2 rfl fun _ _hb=>?_ |refine sP rfl (c1) rfl ?_|refine sP rfl (e3) rfl ?_ |refine s3 rfl ?_ ?_<;>rintro rfl |refine aU rfl ?_ |refine Aa ?_|(refine aC rfl ?_ ?_<;>rintro⟨⟩));all_goals try contradiction
  refine aK ?_
  (repeat first |refine sN rfl ?_ |((first|refine sA rfl ?_ ?_|refine s4 rfl ‹_› rfl ?_ ?_);first|exact tI|omega|simp only[oZ] at *;omega) |refine s2 rfl fun _ _hb=>?_ |refine s3 rfl ?_ ?_<;>rintro rfl |refine aU rfl ?_ |refine Aa ?_)
  refine rG (J6 []) (by kernel_rfl) ?_
  (repeat' first |refine sN rfl ?_ |((first|refine sA rfl ?_ ?_|refine s4 rfl ‹_› rfl ?_ ?_);first|exact tI|omega|simp only[oZ] at *;omega) |refine s2 rfl fun _ _hb=>?_ |refine sP rfl (c2) rfl ?_|refine sP rfl (e4) rfl ?_ |refine s3 rfl ?_ ?_<;>rintro rfl |refine aU rfl ?_ |refine Aa ?_|(refine aC rfl ?_ ?_<;>rintro⟨⟩));all_goals try contradiction
  refine aK ?_
  (repeat first |refine sN rfl ?_ |((first|refine sA rfl ?_ ?_|refine s4 rfl ‹_› rfl ?_ ?_);first|exact tI|omega|simp only[oZ] at *;omega) |refine s2 rfl fun _ _hb=>?_ |refine s3 rfl ?_ ?_<;>rintro rfl |refine aU rfl ?_ |refine Aa ?_)
  (subst_vars;exact aR ⟨_,rfl,rfl⟩)
 | some v=>
  (repeat first |refine sN rfl ?_ |((first|refine sA rfl ?_ ?_|refine s4 rfl ‹_› rfl ?_ ?_);first|exact tI|omega|simp only[oZ] at *;omega) |refine s2 rfl fun _ _hb=>?_ |refine s3 rfl ?_ ?_<;>rintro rfl |refine aU rfl ?_ |refine Aa ?_)
  refine rG (J6 []) (by kernel_rfl) ?_
  (repeat first |refine sN rfl ?_ |((first|refine sA rfl ?_ ?_|refine s4 rfl ‹_› rfl ?_ ?_);first|exact tI|omega|simp only[oZ] at *;omega) |refine s2 rfl fun _ _hb=>?_ |refine sP rfl (c1) rfl ?_|refine sP rfl (c2) rfl ?_|refine sP rfl (e1) rfl ?_|refine sP rfl (e2) rfl ?_ |refine s3 rfl ?_ ?_<;>rintro rfl |refine aU rfl ?_ |refine Aa ?_)
  (repeat' first |refine sN rfl ?_ |((first|refine sA rfl ?_ ?_|refine s4 rfl ‹_› rfl ?_ ?_);first|exact tI|omega|simp only[oZ] at *;omega) |refine s2 rfl fun _ _hb=>?_ |refine sP rfl (c1) rfl ?_|refine sP rfl (c2) rfl ?_|refine sP rfl (e1) rfl ?_|refine sP rfl (e2) rfl ?_ |refine s3 rfl ?_ ?_<;>rintro rfl |refine aU rfl ?_ |refine Aa ?_|(refine aC rfl ?_ ?_<;>rintro⟨⟩));all_goals try contradiction
  all_goals try (exfalso;simp at *;done)
  refine aK ?_
  (repeat first |refine sN rfl ?_ |((first|refine sA rfl ?_ ?_|refine s4 rfl ‹_› rfl ?_ ?_);first|exact tI|omega|simp only[oZ] at *;omega) |refine s2 rfl fun _ _hb=>?_ |refine s3 rfl ?_ ?_<;>rintro rfl |refine aU rfl ?_ |refine Aa ?_)
  refine rG (J6 []) (by kernel_rfl) ?_
  (repeat' first |refine sN rfl ?_ |((first|refine sA rfl ?_ ?_|refine s4 rfl ‹_› rfl ?_ ?_);first|exact tI|omega|simp only[oZ] at *;omega) |refine s2 rfl fun _ _hb=>?_ |refine sP rfl (c1) rfl ?_|refine sP rfl (e3) rfl ?_ |refine s3 rfl ?_ ?_<;>rintro rfl |refine aU rfl ?_ |refine Aa ?_|(refine aC rfl ?_ ?_<;>rintro⟨⟩));all_goals try contradiction
  refine aK ?_
  (repeat first |refine sN rfl ?_ |((first|refine sA rfl ?_ ?_|refine s4 rfl ‹_› rfl ?_ ?_);first|exact tI|omega|simp only[oZ] at *;omega) |refine s2 rfl fun _ _hb=>?_ |refine s3 rfl ?_ ?_<;>rintro rfl |refine aU rfl ?_ |refine Aa ?_)
  refine rG (J6 []) (by kernel_rfl) ?_
  (repeat' first |refine sN rfl ?_ |((first|refine sA rfl ?_ ?_|refine s4 rfl ‹_› rfl ?_ ?_);first|exact tI|omega|simp only[oZ] at *;omega) |refine s2 rfl fun _ _hb=>?_ |refine sP rfl (c2) rfl ?_|refine sP rfl (e4) rfl ?_ |refine s3 rfl ?_ ?_<;>rintro rfl |refine aU rfl ?_ |refine Aa ?_|(refine aC rfl ?_ ?_<;>rintro⟨⟩));all_goals try contradiction
  refine aK ?_
  (repeat first |refine sN rfl ?_ |((first|refine sA rfl ?_ ?_|refine s4 rfl ‹_› rfl ?_ ?_);first|exact tI|omega|simp only[oZ] at *;omega) |refine s2 rfl fun _ _hb=>?_ |refine s3 rfl ?_ ?_<;>rintro rfl |refine aU rfl ?_ |refine Aa ?_)
  (subst_vars;exact aR ⟨_,rfl,rfl⟩)
end Go.Am
