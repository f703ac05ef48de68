/-
  Copies of the law's arguments, of the caller's own: walked.
-/
import Derived.Test.YtbfgijpfhgmepaaGreatDoorPart15
import Derived.Test.YtbfgijpfhgmepaaGreatDoorPart17
import Derived.Test.YtbfgijpfhgmepaaGreatDoorPart21
import Derived.Test.YtbfgijpfhgmepaaGreatDoorPart18
import Derived.Test.YtbfgijpfhgmepaaGreatDoorPart10
import Derived.Test.YtbfgijpfhgmepaaGreatDoorPart16
import Derived.Test.YtbfgijpfhgmepaaGreatDoorPart20
set_option linter.constructorNameAsVariable false
set_option linter.unusedSectionVars false
set_option linter.unusedSimpArgs false
set_option linter.unusedVariables false
namespace Go.Am
open Go Go.Proofs
set_option maxHeartbeats 1000000
attribute [local irreducible] AS BT Lex Bc Au Spec
variable {TB:Bt}
theorem Xs(l:List (Int))(h:l.length≤1048576):AD Tryz.prog TB 87 0 [] 0 [Ag l] (fun x σ nx=>x=.o (.arr 0 1 0 l.length)∧σ=[(0,.cells 3 1 (l.map Al))]∧nx=1):=by
 have hren:∀(r:Nat→Nat) k,(C3 (l.map Al) (Al 0) k).map (C.BB r)=C3 (l.map Al) (Al 0) k:=fun r k=>GI (fun x hx=>by obtain⟨y,_,rfl⟩:=List.mem_map.1 hx;rfl) rfl
 have hlm:(l.map Al).length=l.length:=by simp
 refine AD.A3 (AD.P6 (m:=0) (Nat.le_of_ble_eq_true rfl) Tryz.func87 rfl (by kernel_rfl) (Nat.le_of_ble_eq_true rfl) ?_);intro Γ hΓ
 (repeat first |refine sN rfl ?_ |((first|refine sM rfl ?_ ?_|refine s4 rfl ‹_› rfl ?_ ?_);first|exact tI|omega|simp only[oZ] at *;omega) |refine s2 rfl fun _ _hb=>?_ |refine s3 rfl ?_ ?_<;>rintro rfl |refine aU rfl ?_ |refine Aa ?_ |refine rE (by kernel_rfl) ?_)
 (refine Ai rfl ?_;refine Bs (fun _ _=>Br rfl) rfl ?_)
 (repeat first |refine sN rfl ?_ |((first|refine sM rfl ?_ ?_|refine s4 rfl ‹_› rfl ?_ ?_);first|exact tI|omega|simp only[oZ] at *;omega) |refine s2 rfl fun _ _hb=>?_ |refine s3 rfl ?_ ?_<;>rintro rfl |refine aU rfl ?_ |refine Aa ?_ |refine rE (by kernel_rfl) ?_)
 (refine pW rfl ?_ rfl (by rfl);refine Eo rfl rfl (by rfl) (by rfl) (Nat.le_of_ble_eq_true rfl) (by omega) (by omega) (by omega) ?_)
 (repeat first |refine sN rfl ?_ |((first|refine sM rfl ?_ ?_|refine s4 rfl ‹_› rfl ?_ ?_);first|exact tI|omega|simp only[oZ] at *;omega) |refine s2 rfl fun _ _hb=>?_ |refine s3 rfl ?_ ?_<;>rintro rfl |refine aU rfl ?_ |refine Aa ?_ |refine rE (by kernel_rfl) ?_)
 refine aB ?_
 refine Au.AP (α:={k:Nat // k≤l.length}) (fun ⟨k,hk⟩=>[(0,Ag l),(3,.o (.arr 0 1 0 l.length)),(4,eI .i64 k)]) (fun ⟨k,hk⟩=>[(0,.cells 3 1 (C3 (l.map Al) (Al 0) k))]) 1 (fun ⟨k,hk⟩=>l.length - k) (⟨0,by omega⟩) [0] (Di hΓ rfl rfl) (by ((repeat' first|exact tI|rfl|refine And.intro ?_ ?_)<;>(simp[cX,zC,hΓ,Km,hren]))) ?_;rintro⟨k,hk⟩;(try dsimp only)
 (repeat first |refine sN rfl ?_ |((first|refine sM rfl ?_ ?_|refine s4 rfl ‹_› rfl ?_ ?_);first|exact tI|omega|simp only[oZ] at *;omega) |refine s2 rfl fun _ _hb=>?_ |refine s3 rfl ?_ ?_<;>rintro rfl |refine aU rfl ?_ |refine Aa ?_ |refine rE (by kernel_rfl) ?_)
 (refine aC rfl ?_ ?_<;>rintro⟨⟩)
 ·obtain⟨x,hx⟩:=get_some (l:=l) (k:=k) (by first|omega|simp only[oZ] at *;omega)
  have hx':=get_map (g:=Bm) hx
  have hg:=GH (l:=l.map Al) (z:=Al 0) (k:=k) (by first|omega|simp only[oZ] at *;omega)
  have hs:=GJ (l:=l.map Al) (z:=Al 0) (k:=k) (x:=Al x) (by simp [hx])
  refine aK ?_
  refine aS (aB ?_)
  (repeat first |refine sN rfl ?_ |((first|refine sM rfl ?_ ?_|refine s4 rfl ‹_› rfl ?_ ?_);first|exact tI|omega|simp only[oZ] at *;omega) |refine s2 rfl fun _ _hb=>?_ |refine s3 rfl ?_ ?_<;>rintro rfl |refine aU rfl ?_ |refine Aa ?_ |refine rE (by kernel_rfl) ?_)
  refine⟨⟨k+1,by first|omega|simp only[oZ] at *;omega⟩,by dsimp only;(first|omega|simp only[oZ] at *;omega),[0],?_⟩
  have hsp:Af (Al 0) 0 (eC (eI .i64 x))=Al x:=rfl
  rw [hsp,hs]
  simp[cX,zC,hΓ,hren]
 ·obtain rfl:k=l.length:=by first|omega|simp only[oZ] at *;omega
  have he:C3 (l.map Al) (Al 0) l.length=l.map Al:=by
   have:=GG (l.map Al) (Al 0)
   rwa [hlm] at this
  rw [he]
  refine aE ?_
  (repeat first |refine sN rfl ?_ |((first|refine sM rfl ?_ ?_|refine s4 rfl ‹_› rfl ?_ ?_);first|exact tI|omega|simp only[oZ] at *;omega) |refine s2 rfl fun _ _hb=>?_ |refine s3 rfl ?_ ?_<;>rintro rfl |refine aU rfl ?_ |refine Aa ?_ |refine rE (by kernel_rfl) ?_)
  exact aR ⟨_,rfl,[0],.o (.arr 0 1 0 l.length),[(0,.cells 3 1 (l.map Al))],⟨fun i hi=>absurd hi (Nat.not_lt_zero i),by decide⟩,rfl,by ((repeat' first|exact tI|rfl|refine And.intro ?_ ?_)<;>(simp[cX,zC,hΓ,hren,cN]<;>rfl)),rfl,rfl,rfl⟩
theorem VC(l:List (Bool))(h:l.length≤1048576):AD Tryz.prog TB 46 0 [] 0 [EG l] (fun x σ nx=>x=.o (.arr 0 1 0 l.length)∧σ=[(0,.cells 4 1 (l.map Ax))]∧nx=1):=by
 have hren:∀(r:Nat→Nat) k,(C3 (l.map Ax) (Ax false) k).map (C.BB r)=C3 (l.map Ax) (Ax false) k:=fun r k=>GI (fun x hx=>by obtain⟨y,_,rfl⟩:=List.mem_map.1 hx;rfl) rfl
 have hlm:(l.map Ax).length=l.length:=by simp
 refine AD.A3 (AD.P6 (m:=0) (Nat.le_of_ble_eq_true rfl) Tryz.func46 rfl (by kernel_rfl) (Nat.le_of_ble_eq_true rfl) ?_);intro Γ hΓ
 (repeat first |refine sN rfl ?_ |((first|refine sM rfl ?_ ?_|refine s4 rfl ‹_› rfl ?_ ?_);first|exact tI|omega|simp only[oZ] at *;omega) |refine s2 rfl fun _ _hb=>?_ |refine s3 rfl ?_ ?_<;>rintro rfl |refine aU rfl ?_ |refine Aa ?_ |refine rE (by kernel_rfl) ?_)
 (refine Ai rfl ?_;refine Bs (fun _ _=>Br rfl) rfl ?_)
 (repeat first |refine sN rfl ?_ |((first|refine sM rfl ?_ ?_|refine s4 rfl ‹_› rfl ?_ ?_);first|exact tI|omega|simp only[oZ] at *;omega) |refine s2 rfl fun _ _hb=>?_ |refine s3 rfl ?_ ?_<;>rintro rfl |refine aU rfl ?_ |refine Aa ?_ |refine rE (by kernel_rfl) ?_)
 (refine pW rfl ?_ rfl (by rfl);refine Eo rfl rfl (by rfl) (by rfl) (Nat.le_of_ble_eq_true rfl) (by omega) (by omega) (by omega) ?_)
 (repeat first |refine sN rfl ?_ |((first|refine sM rfl ?_ ?_|refine s4 rfl ‹_› rfl ?_ ?_);first|exact tI|omega|simp only[oZ] at *;omega) |refine s2 rfl fun _ _hb=>?_ |refine s3 rfl ?_ ?_<;>rintro rfl |refine aU rfl ?_ |refine Aa ?_ |refine rE (by kernel_rfl) ?_)
 refine aB ?_
 refine Au.AP (α:={k:Nat // k≤l.length}) (fun ⟨k,hk⟩=>[(0,EG l),(3,.o (.arr 0 1 0 l.length)),(4,eI .i64 k)]) (fun ⟨k,hk⟩=>[(0,.cells 4 1 (C3 (l.map Ax) (Ax false) k))]) 1 (fun ⟨k,hk⟩=>l.length - k) (⟨0,by omega⟩) [0] (Di hΓ rfl rfl) (by ((repeat' first|exact tI|rfl|refine And.intro ?_ ?_)<;>(simp[cX,zC,hΓ,Km,hren]))) ?_;rintro⟨k,hk⟩;(try dsimp only)
 (repeat first |refine sN rfl ?_ |((first|refine sM rfl ?_ ?_|refine s4 rfl ‹_› rfl ?_ ?_);first|exact tI|omega|simp only[oZ] at *;omega) |refine s2 rfl fun _ _hb=>?_ |refine s3 rfl ?_ ?_<;>rintro rfl |refine aU rfl ?_ |refine Aa ?_ |refine rE (by kernel_rfl) ?_)
 (refine aC rfl ?_ ?_<;>rintro⟨⟩)
 ·obtain⟨x,hx⟩:=get_some (l:=l) (k:=k) (by first|omega|simp only[oZ] at *;omega)
  have hx':=get_map (g:=Ib) hx
  have hg:=GH (l:=l.map Ax) (z:=Ax false) (k:=k) (by first|omega|simp only[oZ] at *;omega)
  have hs:=GJ (l:=l.map Ax) (z:=Ax false) (k:=k) (x:=Ax x) (by simp [hx])
  refine aK ?_
  refine aS (aB ?_)
  (repeat first |refine sN rfl ?_ |((first|refine sM rfl ?_ ?_|refine s4 rfl ‹_› rfl ?_ ?_);first|exact tI|omega|simp only[oZ] at *;omega) |refine s2 rfl fun _ _hb=>?_ |refine s3 rfl ?_ ?_<;>rintro rfl |refine aU rfl ?_ |refine Aa ?_ |refine rE (by kernel_rfl) ?_)
  refine⟨⟨k+1,by first|omega|simp only[oZ] at *;omega⟩,by dsimp only;(first|omega|simp only[oZ] at *;omega),[0],?_⟩
  have hsp:Af (Ax false) 0 (eC (eB x))=Ax x:=rfl
  rw [hsp,hs]
  simp[cX,zC,hΓ,hren]
 ·obtain rfl:k=l.length:=by first|omega|simp only[oZ] at *;omega
  have he:C3 (l.map Ax) (Ax false) l.length=l.map Ax:=by
   have:=GG (l.map Ax) (Ax false)
   rwa [hlm] at this
  rw [he]
  refine aE ?_
  (repeat first |refine sN rfl ?_ |((first|refine sM rfl ?_ ?_|refine s4 rfl ‹_› rfl ?_ ?_);first|exact tI|omega|simp only[oZ] at *;omega) |refine s2 rfl fun _ _hb=>?_ |refine s3 rfl ?_ ?_<;>rintro rfl |refine aU rfl ?_ |refine Aa ?_ |refine rE (by kernel_rfl) ?_)
  exact aR ⟨_,rfl,[0],.o (.arr 0 1 0 l.length),[(0,.cells 4 1 (l.map Ax))],⟨fun i hi=>absurd hi (Nat.not_lt_zero i),by decide⟩,rfl,by ((repeat' first|exact tI|rfl|refine And.intro ?_ ?_)<;>(simp[cX,zC,hΓ,hren,cN]<;>rfl)),rfl,rfl,rfl⟩
theorem VD(l:List (ET))(h:l.length≤1048576):AD Tryz.prog TB 44 0 [] 0 [HE l] (fun x σ nx=>x=.o (.arr 0 3 0 l.length)∧σ=[(0,.cells 126 3 (l.map AA))]∧nx=1):=by
 have hren:∀(r:Nat→Nat) k,(C3 (l.map AA) (AA ⟨0,0,0⟩) k).map (C.BB r)=C3 (l.map AA) (AA ⟨0,0,0⟩) k:=fun r k=>GI (fun x hx=>by obtain⟨y,_,rfl⟩:=List.mem_map.1 hx;rfl) rfl
 have hlm:(l.map AA).length=l.length:=by simp
 refine AD.A3 (AD.P6 (m:=0) (Nat.le_of_ble_eq_true rfl) Tryz.func44 rfl (by kernel_rfl) (Nat.le_of_ble_eq_true rfl) ?_);intro Γ hΓ
 (repeat first |refine sN rfl ?_ |((first|refine sM rfl ?_ ?_|refine s4 rfl ‹_› rfl ?_ ?_);first|exact tI|omega|simp only[oZ] at *;omega) |refine s2 rfl fun _ _hb=>?_ |refine s3 rfl ?_ ?_<;>rintro rfl |refine aU rfl ?_ |refine Aa ?_ |refine rE (by kernel_rfl) ?_)
 (refine Ai rfl ?_;refine Bs (fun _ _=>Br rfl) rfl ?_)
 (repeat first |refine sN rfl ?_ |((first|refine sM rfl ?_ ?_|refine s4 rfl ‹_› rfl ?_ ?_);first|exact tI|omega|simp only[oZ] at *;omega) |refine s2 rfl fun _ _hb=>?_ |refine s3 rfl ?_ ?_<;>rintro rfl |refine aU rfl ?_ |refine Aa ?_ |refine rE (by kernel_rfl) ?_)
 (refine pW rfl ?_ rfl (by rfl);refine Eo rfl rfl (by rfl) (by rfl) (Nat.le_of_ble_eq_true rfl) (by omega) (by omega) (by omega) ?_)
 (repeat first |refine sN rfl ?_ |((first|refine sM rfl ?_ ?_|refine s4 rfl ‹_› rfl ?_ ?_);first|exact tI|omega|simp only[oZ] at *;omega) |refine s2 rfl fun _ _hb=>?_ |refine s3 rfl ?_ ?_<;>rintro rfl |refine aU rfl ?_ |refine Aa ?_ |refine rE (by kernel_rfl) ?_)
 refine aB ?_
 refine Au.AP (α:={k:Nat // k≤l.length}) (fun ⟨k,hk⟩=>[(0,HE l),(3,.o (.arr 0 3 0 l.length)),(4,eI .i64 k)]) (fun ⟨k,hk⟩=>[(0,.cells 126 3 (C3 (l.map AA) (AA ⟨0,0,0⟩) k))]) 1 (fun ⟨k,hk⟩=>l.length - k) (⟨0,by omega⟩) [0] (Di hΓ rfl rfl) (by ((repeat' first|exact tI|rfl|refine And.intro ?_ ?_)<;>(simp[cX,zC,hΓ,Km,hren]))) ?_;rintro⟨k,hk⟩;(try dsimp only)
 (repeat first |refine sN rfl ?_ |((first|refine sM rfl ?_ ?_|refine s4 rfl ‹_› rfl ?_ ?_);first|exact tI|omega|simp only[oZ] at *;omega) |refine s2 rfl fun _ _hb=>?_ |refine s3 rfl ?_ ?_<;>rintro rfl |refine aU rfl ?_ |refine Aa ?_ |refine rE (by kernel_rfl) ?_)
 (refine aC rfl ?_ ?_<;>rintro⟨⟩)
 ·obtain⟨x,hx⟩:=get_some (l:=l) (k:=k) (by first|omega|simp only[oZ] at *;omega)
  have hx':=get_map (g:=C9) hx
  have hg:=GH (l:=l.map AA) (z:=AA ⟨0,0,0⟩) (k:=k) (by first|omega|simp only[oZ] at *;omega)
  have hs:=GJ (l:=l.map AA) (z:=AA ⟨0,0,0⟩) (k:=k) (x:=AA x) (by simp [hx])
  refine aK ?_
  refine aS (aB ?_)
  (repeat first |refine sN rfl ?_ |((first|refine sM rfl ?_ ?_|refine s4 rfl ‹_› rfl ?_ ?_);first|exact tI|omega|simp only[oZ] at *;omega) |refine s2 rfl fun _ _hb=>?_ |refine sP rfl (RN x) rfl ?_ |refine s3 rfl ?_ ?_<;>rintro rfl |refine aU rfl ?_ |refine Aa ?_ |refine rE (by kernel_rfl) ?_)
  refine⟨⟨k+1,by first|omega|simp only[oZ] at *;omega⟩,by dsimp only;(first|omega|simp only[oZ] at *;omega),[0],?_⟩
  have hsp:Af (AA ⟨0,0,0⟩) 0 (eC (OI x))=AA x:=rfl
  rw [hsp,hs]
  simp[cX,zC,hΓ,hren]
 ·obtain rfl:k=l.length:=by first|omega|simp only[oZ] at *;omega
  have he:C3 (l.map AA) (AA ⟨0,0,0⟩) l.length=l.map AA:=by
   have:=GG (l.map AA) (AA ⟨0,0,0⟩)
   rwa [hlm] at this
  rw [he]
  refine aE ?_
  (repeat first |refine sN rfl ?_ |((first|refine sM rfl ?_ ?_|refine s4 rfl ‹_› rfl ?_ ?_);first|exact tI|omega|simp only[oZ] at *;omega) |refine s2 rfl fun _ _hb=>?_ |refine s3 rfl ?_ ?_<;>rintro rfl |refine aU rfl ?_ |refine Aa ?_ |refine rE (by kernel_rfl) ?_)
  exact aR ⟨_,rfl,[0],.o (.arr 0 3 0 l.length),[(0,.cells 126 3 (l.map AA))],⟨fun i hi=>absurd hi (Nat.not_lt_zero i),by decide⟩,rfl,by ((repeat' first|exact tI|rfl|refine And.intro ?_ ?_)<;>(simp[cX,zC,hΓ,hren,cN]<;>rfl)),rfl,rfl,rfl⟩
abbrev Wu(al:Int)(i j:Nat)(n m:Nat):E:=.a [.d (iD al),.arr i 1 0 n,.arr j 1 0 m]
structure gE (m:Nat) (a:AU):Prop where
 nx:a.nx.length≤m
 ac:a.ac.length≤m
 row:∀r∈a.nx,r.length≤m
def IP(a:AU)(x:E)(σ:Ab)(nx:Nat):Prop:=∃l:Ga,l.map (·.2)=a.nx∧
 x=Wu a.al 0 1 l.length a.ac.length∧σ=[(0,.cells 62 1 (A6 l)),(1,.cells 4 1 (a.ac.map Ax)),(2,.sld 3 (sI l))]∧nx=3
theorem QX(a:AU)(ha:gE 1000000 a):AD Tryz.prog TB 71 0 [] 0 [Bp a] (IP a):=by
 have ha1:=ha.nx
 have ha2:=ha.ac
 refine AD.A3 (AD.P6 (m:=0) (Nat.le_of_ble_eq_true rfl) Tryz.func71 rfl (by kernel_rfl) (Nat.le_of_ble_eq_true rfl) ?_);intro Γ hΓ
 (repeat first|refine tA rfl ?_ |refine aU rfl ?_ |refine Aa ?_)
 refine R.NR [(0,2),(1,2),(3,2),(4,2),(7,3),(2,1),(5,1),(6,1),(8,5)] mixed (by kernel_rfl) rfl (by kernel_rfl) ?_
 (repeat ((refine R.Ai rfl ?_;first|(refine R.yQ (md:=false) rfl rfl rfl ?_ ?_;exact tI) |refine R.yP rfl rfl rfl rfl ?_ )))
 (refine R.Ai rfl ?_;refine R.NQ (fun _=>?_) rfl rfl;refine BP rfl rfl rfl rfl (by simp) (by rfl) (by rfl) (by rfl) (by rfl) ?_)
 (refine R.Ai rfl ?_;refine R.NQ (fun _=>?_) rfl rfl;refine AH rfl rfl rfl (by simp) rfl (by intro r hr;simp only [List.map_map,List.mem_map] at hr;obtain⟨_,_,rfl⟩:=hr;rfl) (by rfl) (Nat.le_of_ble_eq_true rfl) (by simp;omega) ?_)
 (refine R.Ai rfl ?_;refine R.NQ (fun _=>?_) rfl rfl;refine Pa 1 1 62 rfl rfl rfl (by rfl) (by rfl) ?_)
 (repeat ((refine R.Ai rfl ?_;first|refine R.yA rfl rfl rfl rfl ?_ )))
 refine R.NM ?_
 refine aS ?_
 (repeat first|refine tA rfl ?_ |refine aU rfl ?_ |refine Aa ?_)
 refine aB ?_
 refine Au.dT 3 ?_
 refine aL (α:={s:Nat×Ga // s.1≤a.nx.length∧s.2.map (·.2)=a.nx.take s.1}) [1,2,3] [] rfl rfl (fun s=>[(4,eI .i64 s.1.1)]) (fun s=>[(0,.cells 29 3 [[.d (iD 0),.d (.l []),.d (.l [])]]),(2,.cells 4 1 (a.ac.map Ax)),(3,.cells 62 1 (A6 s.1.2)),(4,.cells 29 3 [[.d (iD a.al),.arr 3 1 0 s.1.2.length,.arr 2 1 0 a.ac.length]]),(5,.sld 3 (sI s.1.2))]) 6 (fun s=>a.nx.length - s.1.1) (⟨⟨0,[]⟩,by simp⟩) hΓ rfl (by (simp[cX,zC,hΓ,cN,Bi,Af,eC]<;>rfl)) ?_;rintro⟨⟨k,l⟩,hk,hl⟩;(try dsimp only[cA,cB])
 have hk:k≤a.nx.length:=hk
 have hl:l.map (·.2)=a.nx.take k:=hl
 have hll:l.length=k:=by have:=congrArg List.length hl;simp at this;omega
 (repeat first|refine sN rfl ?_ |refine tA rfl ?_ |refine s2 rfl fun _ _hb=>?_ |refine aU rfl ?_ |refine Aa ?_)
 ((refine aC rfl ?_ ?_<;>rintro⟨⟩);all_goals try (simp at _hb;done))
 ·have hlt:k < a.nx.length:=by (simp only[oZ] at *;omega)
  obtain⟨r,hx⟩:=get_some (l:=a.nx) (k:=k) hlt
  have hx':=get_map (g:=Dw) hx
  have hr:=ha.row r (List.mem_of_getElem? hx)
  refine aK ?_
  refine aS (aB ?_)
  refine rG ⟨ON [(1,14),(2,1016),(8,1016),(9,1016),(10,1),(12,1)],jY [0,1,3,4,5,6,7,2,8,9,10,11,12]⟩ (by kernel_rfl) ?_
  (repeat first|refine tX rfl ?_ |(refine s4 rfl ‹_› rfl ?_ ?_;omega))
  (refine Ai rfl ?_;refine Pj ?_ rfl ⟨rfl,rfl⟩;refine BP rfl rfl rfl rfl (by simp) (by rfl) (by rfl) (by rfl) (by rfl) ?_;refine⟨Nh 4 rfl rfl,?_⟩)
  (refine Ai rfl ?_;refine Pj ?_ rfl ⟨rfl,rfl⟩;refine AH rfl rfl rfl (by simp) rfl (by intro r hr;simp only [List.map_map,List.mem_map] at hr;obtain⟨_,_,rfl⟩:=hr;rfl) (by rfl) (Nat.le_of_ble_eq_true rfl) (by simp;omega) ?_;refine⟨Nh 4 rfl rfl,?_⟩)
  (refine Ai rfl ?_;refine Pj ?_ rfl ⟨rfl,rfl⟩;refine BP rfl rfl rfl rfl (by simp [eC]) (by rfl) (by rfl) (by rfl) (by rfl) ?_;refine⟨Nh 4 rfl rfl,?_⟩)
  (refine pW rfl ?_ rfl (by rfl);refine AH rfl rfl rfl (Ec _) rfl (by intro r hr;simp at hr;subst hr;rfl) (by rfl) (Nat.le_of_ble_eq_true rfl) (by simp;omega) ?_)
  (repeat first|refine tA rfl ?_)
  refine Aa ?_
  refine Au.BR [1,2,3,4] [] rfl rfl [] [(0,.cells 29 3 [[.d (iD 0),.d (.l []),.d (.l [])]]),(1,.cells 3 1 (r.map Al)),(2,.cells 4 1 (a.ac.map Ax)),(3,.cells 62 1 (A6 l++[[.arr 1 1 0 r.length]])),(4,.cells 29 3 [[.d (iD a.al),.arr 3 1 0 (l.length+1),.arr 2 1 0 a.ac.length]]),(5,.sld 3 (sI l))] [0,7,2,9,4,5] (rl hΓ rfl) (by (simp[cX,zC,hΓ,cN,Bi,Af,eC])) ?_;(try dsimp only[cA,cB])
  refine Au.WW 3 1 5 l r rfl rfl rfl fun v=>?_
  (repeat first|(refine sA rfl ?_ ?_;first|exact tI|omega) |refine aU rfl ?_ |refine Aa ?_)
  refine⟨⟨⟨k+1,l++[(v,r)]⟩,by dsimp only;omega,by dsimp only;rw [List.map_append,hl,List.take_add_one,hx];rfl⟩,by dsimp only;(omega),[0,1,2,3,4,5],?_⟩
  (simp[cX,zC,hΓ,cN]<;>rfl)
 have hkn:k=a.nx.length:=by (simp only[oZ] at *;omega)
 refine aE ?_
 (repeat first|refine tA rfl ?_ |refine aU rfl ?_ |refine Aa ?_)
 have hll:l.map (·.2)=a.nx:=by rw [hl,hkn,List.take_length]
 refine aR ⟨_,rfl,[3,2,5],Wu a.al 0 1 l.length a.ac.length,[(0,.cells 62 1 (A6 l)),(1,.cells 4 1 (a.ac.map Ax)),(2,.sld 3 (sI l))],⟨by intro i hi;omega,by decide⟩,rfl,by (simp[cX,zC,hΓ,cN]),l,hll,rfl,rfl,rfl⟩
theorem VE(a:List (List Int))(h:a.length≤1048576)(hr:∀r∈a,r.length≤1048576):AD Tryz.prog TB 45 0 [] 0 [Cm a] (fun x σ nx=>∃l:Ga,l.map (·.2)=a∧x=.o (.arr 0 1 0 l.length)∧σ=[(0,.cells 62 1 (A6 l)),(1,.sld 3 (sI l))]∧nx=2):=by
 refine AD.A3 (AD.P6 (m:=0) (Nat.le_of_ble_eq_true rfl) Tryz.func45 rfl (by kernel_rfl) (Nat.le_of_ble_eq_true rfl) ?_);intro Γ hΓ
 (repeat first |refine sN rfl ?_ |((first|refine sM rfl ?_ ?_|refine s4 rfl ‹_› rfl ?_ ?_);first|exact tI|omega|simp only[oZ] at *;omega) |refine s2 rfl fun _ _hb=>?_ |refine s3 rfl ?_ ?_<;>rintro rfl |refine aU rfl ?_ |refine Aa ?_ |refine rE (by kernel_rfl) ?_)
 (refine Ai rfl ?_;refine Bs (fun _ _=>Br rfl) rfl ?_)
 (repeat first |refine sN rfl ?_ |((first|refine sM rfl ?_ ?_|refine s4 rfl ‹_› rfl ?_ ?_);first|exact tI|omega|simp only[oZ] at *;omega) |refine s2 rfl fun _ _hb=>?_ |refine s3 rfl ?_ ?_<;>rintro rfl |refine aU rfl ?_ |refine Aa ?_ |refine rE (by kernel_rfl) ?_)
 (refine pW rfl ?_ rfl (by rfl);refine Eo rfl rfl (by rfl) (by rfl) (Nat.le_of_ble_eq_true rfl) (by omega) (by omega) (by omega) ?_)
 (repeat first |refine sN rfl ?_ |((first|refine sM rfl ?_ ?_|refine s4 rfl ‹_› rfl ?_ ?_);first|exact tI|omega|simp only[oZ] at *;omega) |refine s2 rfl fun _ _hb=>?_ |refine s3 rfl ?_ ?_<;>rintro rfl |refine aU rfl ?_ |refine Aa ?_ |refine rE (by kernel_rfl) ?_)
 refine aB ?_
 refine Au.dT 3 ?_
 refine aL (α:={s:Nat×Ga // s.1≤a.length∧s.2.map (·.2)=a.take s.1}) [0] [] rfl rfl (fun s=>[(3,.o (.arr 0 1 0 a.length)),(4,eI .i64 s.1.1)]) (fun s=>[(0,.cells 62 1 (A6 s.1.2++List.replicate (a.length - s.1.1) [.d (.l [])])),(1,.sld 3 (sI s.1.2))]) 2 (fun s=>a.length - s.1.1) (⟨⟨0,[]⟩,by simp⟩) hΓ rfl (by ((repeat' first|exact tI|rfl|refine And.intro ?_ ?_)<;>(simp[cX,zC,hΓ,cN,Bi,Af,eC]<;>rfl))) ?_;rintro⟨⟨k,l⟩,hk,hl⟩;(try dsimp only[cA,cB])
 have hk:k≤a.length:=hk
 have hl:l.map (·.2)=a.take k:=hl
 have hll:l.length=k:=by have:=congrArg List.length hl;simp at this;omega
 by_cases hlt:k < a.length
 ·obtain⟨r,hx⟩:=get_some hlt
  have hx':=get_map (g:=Dw) hx
  have hrl:=hr r (List.mem_of_getElem? hx)
  have hc:=Xs (TB:=TB) r hrl
  have hrep:List.replicate (a.length - k) ([.d (.l [])]:List C)=[.d (.l [])]::List.replicate (a.length - (k+1)) [.d (.l [])]:=by rw [show a.length - k=(a.length - (k+1))+1 by omega,List.replicate_succ]
  have hset:∀z:List C,(A6 l++List.replicate (a.length - k) ([.d (.l [])]:List C)).set (0+((k:Nat):Int).toNat) z=A6 l++z::List.replicate (a.length - (k+1)) [.d (.l [])]:=fun z=>by rw [Nat.zero_add,Int.toNat_natCast,hrep];exact Tn (by rw [Ec,hll])
  have hset1:=fun z=>hset z
  simp only [Nat.zero_add,Int.toNat_natCast] at hset1
  have hg:(A6 l++List.replicate (a.length - k) ([.d (.l [])]:List C))[0+((k:Nat):Int).toNat]? = some [.d (.l [])]:=by
   rw [Nat.zero_add,Int.toNat_natCast,hrep,List.getElem?_append_right (by rw [Ec];omega),Ec,hll,Nat.sub_self];rfl
  (repeat first |refine sN rfl ?_ |((first|refine sA rfl ?_ ?_|refine s4 rfl ‹_› rfl ?_ ?_);first|exact tI|omega|simp only[oZ] at *;omega) |refine s2 rfl fun _ _hb=>?_ |refine s3 rfl ?_ ?_<;>rintro rfl |refine aU rfl ?_ |refine Aa ?_)
  ((refine aC rfl ?_ ?_<;>rintro⟨⟩);all_goals try(exfalso;first|omega|simp only[oZ] at *;omega))
  refine aK ?_
  refine aS (aB ?_)
  (repeat first |refine sN rfl ?_ |((first|refine sA rfl ?_ ?_|refine s4 rfl ‹_› rfl ?_ ?_);first|exact tI|omega|simp only[oZ] at *;omega) |refine s2 rfl fun _ _hb=>?_ |refine s3 rfl ?_ ?_<;>rintro rfl |refine aU rfl ?_ |refine Aa ?_)
  (refine pW rfl ?_ rfl (by rfl);refine BO [] rfl rfl 0 (hc) (by decide) ⟨rfl,by decide,by decide⟩ rfl (by simp[cX,zC,hΓ,cN]) ?_;rintro x0 σ1 nx1 ⟨rfl,rfl,rfl⟩ _)
  (repeat first |refine sN rfl ?_ |((first|refine sA rfl ?_ ?_|refine s4 rfl ‹_› rfl ?_ ?_);first|exact tI|omega|simp only[oZ] at *;omega) |refine s2 rfl fun _ _hb=>?_ |refine s3 rfl ?_ ?_<;>rintro rfl)
  refine Aa ?_
  refine Au.BR [0,3,4] [] rfl rfl [] [(0,.cells 62 1 (A6 l++[.arr 2 1 0 r.length]::List.replicate (a.length - (k+1)) [.d (.l [])])),(1,.sld 3 (sI l)),(2,.cells 3 1 (r.map Al))] [0,1,2] (rl hΓ rfl) (by ((repeat' first|exact tI|rfl|refine And.intro ?_ ?_)<;>(simp[cX,zC,hΓ,cN,Af,eC,hset1]<;>rfl))) ?_;(try dsimp only[cA,cB])
  refine Au.put 0 2 1 (A6 l) (List.replicate (a.length - (k+1)) [.d (.l [])]) r l [] rfl rfl (by rw [List.append_nil];rfl) fun v=>?_
  (repeat first |refine sN rfl ?_ |((first|refine sA rfl ?_ ?_|refine s4 rfl ‹_› rfl ?_ ?_);first|exact tI|omega|simp only[oZ] at *;omega) |refine s2 rfl fun _ _hb=>?_ |refine s3 rfl ?_ ?_<;>rintro rfl |refine aU rfl ?_ |refine Aa ?_)
  refine⟨⟨⟨k+1,l++[(v,r)]⟩,by dsimp only;omega,by dsimp only;rw [List.map_append,hl,List.take_add_one,hx];rfl⟩,by dsimp only;(first|omega|simp only[oZ] at *;omega),[0,1],?_⟩
  (simp[cX,zC,hΓ,cN,A6,Af,eC]<;>rfl)
 ·obtain rfl:k=a.length:=by omega
  rw [Nat.sub_self,List.replicate_zero,List.append_nil]
  rw [List.take_length] at hl
  (repeat first |refine sN rfl ?_ |((first|refine sA rfl ?_ ?_|refine s4 rfl ‹_› rfl ?_ ?_);first|exact tI|omega|simp only[oZ] at *;omega) |refine s2 rfl fun _ _hb=>?_ |refine s3 rfl ?_ ?_<;>rintro rfl |refine aU rfl ?_ |refine Aa ?_)
  ((refine aC rfl ?_ ?_<;>rintro⟨⟩);all_goals try(exfalso;first|omega|simp only[oZ] at *;omega))
  refine aE ?_
  (repeat first |refine sN rfl ?_ |((first|refine sA rfl ?_ ?_|refine s4 rfl ‹_› rfl ?_ ?_);first|exact tI|omega|simp only[oZ] at *;omega) |refine s2 rfl fun _ _hb=>?_ |refine s3 rfl ?_ ?_<;>rintro rfl |refine aU rfl ?_ |refine Aa ?_)
  refine aR ⟨_,rfl,[0,1],.o (.arr 0 1 0 l.length),[(0,.cells 62 1 (A6 l)),(1,.sld 3 (sI l))],⟨fun i hi=>absurd hi (Nat.not_lt_zero i),by decide⟩,by rw [hll];rfl,by ((repeat' first|exact tI|rfl|refine And.intro ?_ ?_)<;>(simp[cX,zC,hΓ,cN]<;>rfl)),l,hl,rfl,rfl,rfl⟩
theorem NV(a:AU)(h1:a.nx.length≤1048576)(h2:a.ac.length≤1048576)(h3:∀r∈a.nx,r.length≤1048576):AD Tryz.prog TB 17 0 [] 0 [Bp a] (IP a):=by
 have c1:=VE (TB:=TB) a.nx h1 h3
 have c2:=VC (TB:=TB) a.ac h2
 refine AD.A3 (AD.P6 (m:=0) (Nat.le_of_ble_eq_true rfl) Tryz.func17 rfl (by kernel_rfl) (Nat.le_of_ble_eq_true rfl) ?_);intro Γ hΓ
 (repeat first |refine sN rfl ?_ |((first|refine sA rfl ?_ ?_|refine s4 rfl ‹_› rfl ?_ ?_);first|exact tI|omega|simp only[oZ] at *;omega) |refine s2 rfl fun _ _hb=>?_ |refine s3 rfl ?_ ?_<;>rintro rfl |refine aU rfl ?_ |refine Aa ?_)
 (refine pW rfl ?_ rfl (by rfl);refine BO [] rfl rfl 0 (c1) (by decide) ⟨rfl,by decide,by decide⟩ rfl (by simp[cX,zC,hΓ,cN]) ?_;rintro x0 σ1 nx1 ⟨l,hl,rfl,rfl,rfl⟩ _)
 (repeat first |refine sN rfl ?_ |((first|refine sA rfl ?_ ?_|refine s4 rfl ‹_› rfl ?_ ?_);first|exact tI|omega|simp only[oZ] at *;omega) |refine s2 rfl fun _ _hb=>?_ |refine s3 rfl ?_ ?_<;>rintro rfl |refine aU rfl ?_ |refine Aa ?_)
 (refine pW rfl ?_ rfl (by rfl);refine BO [] rfl rfl 0 (c2) (by decide) ⟨rfl,by decide,by decide⟩ rfl (by simp[cX,zC,hΓ,cN]) ?_;rintro x0 σ1 nx1 ⟨rfl,rfl,rfl⟩ _)
 (repeat first |refine sN rfl ?_ |((first|refine sA rfl ?_ ?_|refine s4 rfl ‹_› rfl ?_ ?_);first|exact tI|omega|simp only[oZ] at *;omega) |refine s2 rfl fun _ _hb=>?_ |refine s3 rfl ?_ ?_<;>rintro rfl |refine aU rfl ?_ |refine Aa ?_)
 exact aR ⟨_,rfl,[2,4,3],Wu a.al 0 1 l.length a.ac.length,[(0,.cells 62 1 (A6 l)),(1,.cells 4 1 (a.ac.map Ax)),(2,.sld 3 (sI l))],⟨fun i hi=>absurd hi (Nat.not_lt_zero i),by decide⟩,rfl,by ((repeat' first|exact tI|rfl|refine And.intro ?_ ?_)<;>(simp[cX,zC,hΓ,cN,Bi,Af,eC]<;>rfl)),l,hl,rfl,rfl,rfl⟩
abbrev OJ(s:Sys)(i:Nat):List C:=[.d (iD s.al),.d (iD s.st),.arr i 3 0 s.es.length]
theorem LK(s:Sys)(h:s.es.length≤1048576):AD Tryz.prog TB 16 0 [] 0 [Bv s] (fun x σ nx=>x=.a (OJ s 0)∧σ=[(0,.cells 126 3 (s.es.map AA))]∧nx=1):=by
 have c1:=VD (TB:=TB) s.es h
 refine AD.A3 (AD.P6 (m:=0) (Nat.le_of_ble_eq_true rfl) Tryz.func16 rfl (by kernel_rfl) (Nat.le_of_ble_eq_true rfl) ?_);intro Γ hΓ
 (repeat first |refine sN rfl ?_ |((first|refine sA rfl ?_ ?_|refine s4 rfl ‹_› rfl ?_ ?_);first|exact tI|omega|simp only[oZ] at *;omega) |refine s2 rfl fun _ _hb=>?_ |refine s3 rfl ?_ ?_<;>rintro rfl |refine aU rfl ?_ |refine Aa ?_)
 (refine pW rfl ?_ rfl (by rfl);refine BO [] rfl rfl 0 (c1) (by decide) ⟨rfl,by decide,by decide⟩ rfl (by simp[cX,zC,hΓ,cN]) ?_;rintro x0 σ1 nx1 ⟨rfl,rfl,rfl⟩ _)
 (repeat first |refine sN rfl ?_ |((first|refine sA rfl ?_ ?_|refine s4 rfl ‹_› rfl ?_ ?_);first|exact tI|omega|simp only[oZ] at *;omega) |refine s2 rfl fun _ _hb=>?_ |refine s3 rfl ?_ ?_<;>rintro rfl |refine aU rfl ?_ |refine Aa ?_)
 exact aR ⟨_,rfl,[2],.a (OJ s 0),[(0,.cells 126 3 (s.es.map AA))],⟨fun i hi=>absurd hi (Nat.not_lt_zero i),by decide⟩,rfl,by ((repeat' first|exact tI|rfl|refine And.intro ?_ ?_)<;>(simp[cX,zC,hΓ,cN,Bi,Af,eC]<;>rfl)),rfl,rfl,rfl⟩
end Go.Am
namespace Go.Am
open Go
set_option linter.unusedVariables false
def FP{α:Type}(f:Nat→α)(l:List α)(i:Nat):List α:=(List.range i).map f++l.drop i
section
variable {α:Type}{f:Nat→α}{l:List α}{i:Nat}
theorem SG:FP f l 0=l:=by simp [FP]
theorem K8:FP f l l.length=(List.range l.length).map f:=by simp [FP]
theorem UG(h:i≤l.length):(FP f l i).length=l.length:=by simp [FP];omega
theorem K9{x:α}(h:l[i]? = some x):(FP f l i)[i]? = some x:=by
 unfold FP
 rw [List.getElem?_append_right (by simp)]
 simp [h]
theorem La{x:α}(h:l[i]? = some x):(FP f l i).set i (f i)=FP f l (i+1):=by
 have hi:=(List.getElem?_eq_some_iff.1 h).1
 unfold FP
 rw [List.set_append_right _ _ (by simp)]
 have e:l.drop i=x::l.drop (i+1):=by
  rw [List.drop_eq_getElem_cons hi]
  congr 1
  rw [List.getElem?_eq_getElem hi] at h
  injection h
 rw [e]
 simp [List.range_succ]
end
theorem X9{α:Type}{l:List α}{k:Nat}{x d:α}(h:l[k]? = some x):l.getD k d=x:=by rw [List.getD_eq_getElem?_getD,h];rfl
def Rq(k:Int)(n:Nat):List Int:=(List.range n).map fun i:Nat=>k+i
def Mu(k:Int)(n:Nat):List Bool:=(List.range n).map fun i:Nat=>decide ((k+i) % 3=0)
def kv(k:Int)(n:Nat):List ET:=(List.range n).map fun i:Nat=>⟨k+3*i,k+3*i+1,k+3*i+2⟩
def Cw(ns:List Nat)(i:Nat):Nat:=(ns.take i).sum
def O8(k:Int)(ns:List Nat):List (List Int):=(List.range ns.length).map fun i:Nat=>Rq (k+Cw ns i) (ns.getD i 0)
theorem YC(k:Int)(n:Nat):(Rq k n).length=n:=by simp [Rq]
theorem O7(k:Int)(n:Nat):(Mu k n).length=n:=by simp [Mu]
theorem UI(k:Int)(ns:List Nat):(O8 k ns).length=ns.length:=by simp [O8]
theorem MD{α:Type}{f:Nat→α}{n i:Nat}(h:i < n):((List.range n).map f)[i]? = some (f i):=by simp [h]
theorem PI{ns:List Nat}{i n:Nat}(h:ns[i]? = some n):Cw ns (i+1)=Cw ns i+n:=by
 unfold Cw
 rw [List.take_add_one,h];simp
theorem PH:∀(ns:List Nat) (i:Nat),Cw ns i≤ns.sum
 | [],i=>by simp [Cw]
 | n::ns,0=>by simp [Cw]
 | n::ns,i+1=>by
  have:=PH ns i
  unfold Cw at *
  simp;omega
theorem RL(ns:List Nat):Cw ns ns.length=ns.sum:=by simp [Cw]
end Go.Am
namespace Go.Am
open Go Go.Proofs
set_option maxHeartbeats 1000000
attribute [local irreducible] AS BT Lex Bc Au Spec
variable {TB:Bt}
def Ie(A:W→Bool)(al:Int)(t:AW):Option AW:=if AX A al t then Bf A (AZ al) 13 t else none
def LB(A:W→Bool)(al:Int)(t:AW)(w:W):Option AW:=(Fi A al t w).bind fun v=>(Ou A al t v).bind fun u=>Ie A al u
theorem Xl{A:W→Bool}{al:Int}{t:AW}{w v:W}(h:Fi A al t w=some v):v.length≤w.length:=by
 unfold Fi at h
 split at h
 ·obtain⟨p,_,rfl⟩:=Iz h
  simp
 ·cases h
theorem eJ{A:W→Bool}{al:Int}{t u:AW}{w:W}(h:Ou A al t w=some u):VN u:=by
 unfold Ou at h
 split at h
 ·rename_i hv
  rw [Bool.and_eq_true] at hv
  have hsh:=(Ee hv.1).1
  have hw:=OX hv.2
  unfold Fu at h
  split at h
  ·cases h
  ·injection h with h
   subst h
   have hz:=hsh.sz
   have hcl:=hsh.cl
   refine⟨hz.rl,by simp;omega,hz.rb,fun x hx=>?_⟩
   rcases List.mem_append.1 hx with hx|hx
   ·exact hz.cb x hx
   ·simp at hx;subst hx;omega
 ·cases h
theorem Qp{t:Ew}{al:Int}{A:W→Bool}(hT:J0 Tryz.prog TB 120 175 t al A)(hal:0≤al→A4 al=true)(tab:AW)(hz:VN tab)(w:W)(hw:w.length≤1048576) :
 Pure Tryz.prog TB 73 [EC t,DW tab,eT w] (IB (LB A al tab w)):=by
 have h1:=Qx hT hal tab hz w hw
 rcases hs:Fi A al tab w with _|v
 ·have hn:LB A al tab w=none:=by unfold LB;rw [hs];rfl
  rw [hn]
  rw [hs] at h1
  refine eG Tryz.func73 rfl (by kernel_rfl) rfl ?_;intro Γ hΓ
  (repeat' first|refine tA rfl ?_ |(refine s2 rfl fun _ _hb=>?_;try (simp only[Bool.not_true,Bool.not_false] at _hb;subst _hb)) |refine sP rfl (h1) rfl ?_|(refine Ai rfl ?_;refine gA rfl ?_;first| refine gS (fun _ _=>AQ rfl rfl (by rfl) (by rfl)) ?_) |refine aU rfl ?_ |refine Aa ?_|(refine aC rfl ?_ ?_<;>rintro⟨⟩)|refine aK ?_|refine aE ?_|refine aB ?_|refine aR ⟨_,rfl,?_⟩)
  all_goals rfl
 ·rw [hs] at h1
  have hv:=Xl hs
  have h2:=Qb hT tab hz v (by omega)
  rcases ha:Ou A al tab v with _|u
  ·have hn:LB A al tab w=none:=by unfold LB;rw [hs];simp [ha]
   rw [hn]
   rw [ha] at h2
   refine eG Tryz.func73 rfl (by kernel_rfl) rfl ?_;intro Γ hΓ
   (repeat' first|refine tA rfl ?_ |(refine s2 rfl fun _ _hb=>?_;try (simp only[Bool.not_true,Bool.not_false] at _hb;subst _hb)) |refine sP rfl (h1) rfl ?_|refine sP rfl (h2) rfl ?_|(refine Ai rfl ?_;refine gA rfl ?_;first| refine gS (fun _ _=>AQ rfl rfl (by rfl) (by rfl)) ?_) |refine aU rfl ?_ |refine Aa ?_|(refine aC rfl ?_ ?_<;>rintro⟨⟩)|refine aK ?_|refine aE ?_|refine aB ?_|refine aR ⟨_,rfl,?_⟩)
   all_goals rfl
  ·have hn:LB A al tab w=Ie A al u:=by unfold LB;rw [hs];simp [ha]
   rw [hn]
   rw [ha] at h2
   have h3:Pure Tryz.prog TB 118 [EC t,DW u] (IB (Ie A al u)):=IV hT u (eJ ha)
   rcases hc:Ie A al u with _|x<;>rw [hc] at h3<;>(
    refine eG Tryz.func73 rfl (by kernel_rfl) rfl ?_;intro Γ hΓ
    (repeat' first|refine tA rfl ?_ |(refine s2 rfl fun _ _hb=>?_;try (simp only[Bool.not_true,Bool.not_false] at _hb;subst _hb)) |refine sP rfl (h1) rfl ?_|refine sP rfl (h2) rfl ?_|refine sP rfl (h3) rfl ?_|(refine Ai rfl ?_;refine gA rfl ?_;first| refine gS (fun _ _=>AQ rfl rfl (by rfl) (by rfl)) ?_) |refine aU rfl ?_ |refine Aa ?_|(refine aC rfl ?_ ?_<;>rintro⟨⟩)|refine aK ?_|refine aE ?_|refine aB ?_|refine aR ⟨_,rfl,?_⟩)
    all_goals rfl)
end Go.Am
namespace Go.Am
open Go
set_option linter.unusedVariables false
theorem bp{p:AU}(hp:AN p=true):TC (P9 p) (LA p) p.al:=fun w hw hl=>by
 unfold P9
 rw [hp,GF hw hl (AG hp).1];rfl
theorem br{A L:W→Bool}{al:Int}{b:Nat}{t:AW}(h:TC A L al)(ht:GY al b t)(hb:b≤20100)(hk:BL L (AZ al) t){w:W}(hw:AK (AZ al) w):LZ A t w=LZ L t w:=by
 rw [←KC (hk.lR h ht hb) hw,←KC hk hw,TW h ht hb]
theorem Xk{A L:W→Bool}{al:Int}{b:Nat}{t:AW}(h:TC A L al)(ht:GY al b t)(hb:b≤20100)(hk:BL L (AZ al) t){w:W}(hw:AK (AZ al) w)(hl:w.length≤20000):CC A t w=CC L t w:=by
 have h0:0 < t.rows.length:=(List.getElem?_eq_some_iff.1 hk.r0).1
 unfold CC
 rw [br h ht hb hk hw,h w hw (by omega),Nt h ht hb hk (L w) w 0 h0 hw hl]
end Go.Am
namespace Go.Am
open Go Go.Proofs
set_option maxHeartbeats 1000000
attribute [local irreducible] AS BT Lex Bc Au Spec
variable {TB:Bt}
noncomputable def ES(te:Ew)(w:W):Bool:=if te.kn then P9 te.p w else JZ ⟨te.s,te.q,te.al⟩ w
def DK(te:Ew):Int:=if CG te then AY te else -1
theorem RH{t:CD}(ht:A9 t=true):TC (JZ t) (LS t) t.al:=fun w hw hl=>by
 have hta:A4 t.al=true:=by unfold A9 at ht;simp only [Bool.and_eq_true] at ht;exact ht.2.2
 unfold JZ
 rw [ht,GF hw hl hta];rfl
theorem HW{te:Ew}(hok:CG te=true):TC (ES te) (BV te) (AY te):=by
 obtain⟨kn,p,s,q,al⟩:=te
 cases kn with
 | true=>exact bp hok
 | false=>exact RH (t:=⟨s,q,al⟩) hok
theorem aN{A:W→Bool}{t:AW}:AX A (-1) t=false:=by
 cases h:AX A (-1) t
 ·rfl
 ·have:=(Ee h).1.pos;omega
theorem Xw{A L:W→Bool}{al:Int}(h:TC A L al)(t:AW):AX A al t=AX L al t:=by
 unfold AX
 cases hs:FU al t
 ·rfl
 ·rw [HS h (Vn hs).bd (by omega)]
theorem Dc(te:Ew)(x:AW):(CG te && AX (BV te) (AY te) x)=AX (ES te) (DK te) x:=by
 unfold DK
 cases hok:CG te
 ·simp [aN]
 ·rw [if_pos rfl,Bool.true_and,Xw (HW hok)]
theorem Dp{te:Ew}{x:AW}(h:AX (ES te) (DK te) x=true):CG te=true∧DK te=AY te∧AX (BV te) (AY te) x=true∧bm (AY te) x∧(AF (BV te) x).Nodup:=by
 rw [←Dc,Bool.and_eq_true] at h
 exact⟨h.1,by unfold DK;rw [if_pos h.1],h.2,(Ee h.2).1,(Ee h.2).2⟩
theorem Yw{al:Int}(ha:A4 al=true){w:W}(h:AK (AZ al) w)(hl:w.length≤4000):Ge al w=true:=by
 unfold Ge
 rw [GF h (by omega) ha,decide_eq_true hl];rfl
theorem cx{L:W→Bool}{x:AW}(h:(AF L x).Nodup){i k:Nat}{u w:W}(hi:x.rows[i]? = some u)(hk:x.rows[k]? = some w)(hne:k < i):marks L x.cols u≠marks L x.cols w:=by
 intro he
 have h1:(AF L x)[i]? = some (marks L x.cols u):=by unfold AF;simp [hi]
 have h2:(AF L x)[k]? = some (marks L x.cols u):=by unfold AF;simp [hk,he]
 obtain⟨a1,a2⟩:=List.getElem?_eq_some_iff.1 h1
 obtain⟨b1,b2⟩:=List.getElem?_eq_some_iff.1 h2
 exact List.pairwise_iff_getElem.1 h k i b1 a1 hne (by rw [a2,b2])
theorem OC{L:W→Bool}{ls:List UInt8}:∀ {n:Nat} {t u:AW},TOk L ls t→Bf L ls n t=some u→TOk L ls u∧A8 L ls u=none∧t.rows <+: u.rows∧u.cols=t.cols∧(t.rows.length≤12→u.rows.length≤12)∧(A8 L ls t≠none→t.rows.length < u.rows.length)∧(A8 L ls t=none→u=t)
 | 0,t,u,_,h=>by simp [Bf] at h
 | n + 1,t,u,hk,h=>by
  unfold Bf at h
  cases ho:A8 L ls t with
  | none=>
   rw [ho] at h
   injection h with h;subst h
   exact⟨hk,ho,List.prefix_refl _,rfl,id,fun h=>absurd rfl h,fun _=>rfl⟩
  | some w=>
   rw [ho] at h
   dsimp only at h
   split at h
   ·cases h
   ·rename_i hn
    obtain⟨h1,h2,h3,h4,h5,h6,h7⟩:=OC (hk.push ho) h
    have hp:=(List.prefix_append t.rows [w]).trans h3
    refine⟨h1,h2,hp,h4,fun h=>h5 (by simp;omega),fun _=>?_,fun h=>by cases h⟩
    have:=h3.length_le
    simp at this;omega
theorem eW{te:Ew}{x u:AW}(h:AX (ES te) (DK te) x=true)(hc:Hr te x=some u):AX (ES te) (DK te) u=true∧A8 (BV te) (AZ (AY te)) u=none∧x.rows <+: u.rows∧u.cols=x.cols∧(A8 (BV te) (AZ (AY te)) x≠none→x.rows.length < u.rows.length)∧(A8 (BV te) (AZ (AY te)) x=none→u=x):=by
 obtain⟨h1,h2,h3,h4,h5⟩:=Dp h
 unfold Hr at hc
 rw [h1,h3,Bool.true_and,if_pos rfl] at hc
 obtain⟨k1,k2,k3,k4,k5,k6,k7⟩:=OC (IA h3) hc
 refine⟨?_,k2,k3,k4,k6,k7⟩
 rw [←Dc,h1,Bool.true_and]
 have hl:=k5 h4.rl
 refine JJ (GW h1) h4.pos k1 hl (by rw [k4];exact h4.cl) (fun w hw=>?_) (fun w hw=>by rw [k4] at hw;exact(h4.cw w hw).1)
 obtain⟨i,hi,he⟩:=List.getElem_of_mem hw
 have:=k1.short i w (by rw [List.getElem?_eq_getElem hi,he])
 omega
theorem T9(te:Ew)(x:AW):(if AX (ES te) (DK te) x then Bf (ES te) (AZ (DK te)) 13 x else none)=Hr te x:=by
 unfold Hr
 rw [Dc]
 by_cases hv:AX (ES te) (DK te) x=true
 ·obtain⟨h1,h2,h3,h4,h5⟩:=Dp hv
  rw [hv,h2,if_pos rfl,if_pos rfl]
  exact OB (HW h1) 13 h4.bd (by omega)
 ·rw [Bool.not_eq_true] at hv;rw [hv,if_neg Bool.false_ne_true,if_neg Bool.false_ne_true]
theorem QJ{te:Ew}{x:AW}(h:AX (ES te) (DK te) x=true):(CG te && Bu (BV te) (AY te) x)=(A8 (BV te) (AZ (AY te)) x).isNone:=by
 obtain⟨h1,h2,h3,h4,h5⟩:=Dp h
 rw [h1,Dd,h3];rfl
def X6(al n:Int):List ET→Ab
 | []=>[(1,.cells 25 3 [[.d (iD al),.d (iD n),.d (.v (.slice none 0 0))]])]
 | e::l=>[(1,.cells 25 3 [[.d (iD al),.d (iD n),.arr 2 3 0 (l.length+1)]]),(2,.cells 126 3 ((e::l).map AA))]
def JY(m n:Nat):Nat:=(List.range n).countP (m.testBit ·)
theorem Pm(m n:Nat):JY m (n+1)=if m.testBit n then JY m n+1 else JY m n:=by
 unfold JY
 rw [List.range_succ,List.countP_append]
 cases h:m.testBit n<;>simp [h]
theorem dy(m n:Nat):JY m n≤n:=by
 unfold JY
 have:=List.countP_le_length (p:=(m.testBit ·)) (l:=List.range n)
 rwa [List.length_range] at this
theorem Ms(m:Nat)(hm:m < 2 ^ 62)(n:Nat)(hn:n≤60):Pure Tryz.prog TB 169 [eI .i64 (m:Nat),eI .i64 (n:Nat)] (eI .i64 (JY m n:Nat)):=by
 refine eG Tryz.func169 rfl (by kernel_rfl) rfl ?_;intro Γ hΓ
 (repeat first|refine tA rfl ?_ |refine aU rfl ?_ |refine Aa ?_)
 refine aB ?_
 refine aL (α:={k:Nat // k≤n}) [0,1] [] rfl rfl (fun ⟨k,hk⟩=>[(5,eI .i64 (JY m k:Nat)),(6,eI .i64 k)]) (fun ⟨k,hk⟩=>[]) 0 (fun ⟨k,hk⟩=>n - k) (⟨0,by omega⟩) hΓ rfl (by (simp[cX,zC,hΓ]<;>rfl)) ?_;rintro⟨k,hk⟩;(try dsimp only[cA,cB])
 by_cases hlt:k < n
 ·have hr:=dy m k
  have hs:=Pm m k
  have hh:=CY (TB:=TB) (m:Nat) (k:Int) (by omega) (by omega)
  rw [C8 hm (by omega)] at hh
  (repeat first|refine tA rfl ?_ |refine s2 rfl fun _ _hb=>?_ |refine aU rfl ?_ |refine Aa ?_)
  ((refine aC rfl ?_ ?_<;>rintro⟨⟩);all_goals try(exfalso;(simp only[oZ] at *;omega)))
  refine aK ?_
  refine aS (aB ?_)
  (repeat first|refine tA rfl ?_ |(refine sC rfl (hh) ?_;intro _ _hb) |refine aU rfl ?_ |refine Aa ?_)
  (refine aC rfl ?_ ?_<;>rintro⟨⟩)
  ·have hb:m.testBit k=true:=by simpa using _hb
   rw [if_pos hb] at hs
   (repeat first|(refine sA rfl ?_ ?_;first|exact tI|omega) |refine aU rfl ?_ |refine Aa ?_)
   refine⟨⟨k+1,by omega⟩,by dsimp only;(omega),[],?_⟩
   simp[cX,zC,hΓ,hs]
  ·have hb:m.testBit k=false:=by simpa using _hb
   rw [if_neg (by simp [hb])] at hs
   refine aK ?_
   (repeat first|(refine sA rfl ?_ ?_;first|exact tI|omega) |refine aU rfl ?_ |refine Aa ?_)
   refine⟨⟨k+1,by omega⟩,by dsimp only;(omega),[],?_⟩
   simp[cX,zC,hΓ,hs]
 ·obtain rfl:k=n:=by omega
  (repeat first|refine tA rfl ?_ |refine s2 rfl fun _ _hb=>?_ |refine aU rfl ?_ |refine Aa ?_)
  ((refine aC rfl ?_ ?_<;>rintro⟨⟩);all_goals try(exfalso;(simp only[oZ] at *;omega)))
  refine aE ?_
  (repeat first|refine tA rfl ?_ |refine aU rfl ?_ |refine Aa ?_)
  (subst_vars;exact aR ⟨_,rfl,rfl⟩)
def fi(al n:Int)(l:List ET):Ab:=(0,.cells 25 3 [[.d (iD 0),.d (iD 0),.d (.l [])]])::X6 al n l
theorem WD(n:Int)(h0:0≤n)(h1:n≤16):Pure Tryz.prog TB 117 [eI .i64 n] (eI .i64 ((2 ^ n.toNat:Nat):Int)):=by
 have hsh:IntKind.i64.wrap (1*2 ^ (min n.toNat IntKind.i64.bits))=((2 ^ n.toNat:Nat):Int):=by
  have e:min n.toNat IntKind.i64.bits=n.toNat:=by
   have:IntKind.i64.bits=64:=rfl
   omega
  rw [e,Int.one_mul]
  have h2:2 ^ n.toNat < 2 ^ 17:=Nat.pow_lt_pow_right (by omega) (by omega)
  have h3:(2:Int) ^ n.toNat=((2 ^ n.toNat:Nat):Int):=by push_cast;rfl
  rw [h3]
  generalize 2 ^ n.toNat=p at *
  exact IntWalk.i64_in _ (by omega)
 refine eN Tryz.func117 rfl (by kernel_rfl) rfl ?_;intro Γ hΓ
 (repeat' first|(refine sA rfl ?_ ?_;first|exact tI|omega)|(refine Ai rfl ?_;refine gA rfl ?_;first| refine gS (fun _ _=>dw rfl rfl h0 hsh) ?_) |refine aU rfl ?_ |refine Aa ?_|(refine aC rfl ?_ ?_<;>rintro⟨⟩)|refine aK ?_|refine aE ?_|refine aB ?_|refine aR ⟨_,rfl,?_⟩)
 rfl
abbrev mK(r:CD×Bool):E:=.t [(true,(LI r.1).map .d),(false,[.d (bD r.2)])]
structure mE (r:Sys×AU×Sys):Prop where
 a:r.1.es.length≤400
 b:gE 41 r.2.1
 c:r.2.2.es.length≤400
theorem gE.upto{m n:Nat}{a:AU}(h:gE m a)(hm:m≤n):gE n a:=⟨by have:=h.nx;omega,by have:=h.ac;omega,fun r hr=>by have:=h.row r hr;omega⟩
structure mF (t:CD):Prop where
 s:t.s.es.length≤401
 q:gE 60 t.q
structure nD (n m:Nat) (t:AW):Prop where
 rl:t.rows.length≤n
 cl:t.cols.length≤n
 rb:∀w∈t.rows,w.length≤m
 cb:∀w∈t.cols,w.length≤m
section
variable {P:Program}{Γ:Ctx}{d:Option Tmp}{ty:TypeId}{pos:String}{af:Array Edge}{g:Option (Nat×Bool)}{L:List (Nat×E)}{σ:Ab}{nx:Nat}
end
end Go.Am
namespace Go.Am
open Go
set_option linter.unusedVariables false
section
variable {a b:AU}(ha:AN a=true)(hb:AN b=true)(hal:a.al=b.al)(hL:∀w,AK (AZ a.al) w→LA a w=LA b w)
include ha hb hal hL
end
end Go.Am
namespace Go.Am
open Go Go.Proofs
set_option maxHeartbeats 1000000
attribute [local irreducible] AS BT Lex Bc Au Spec
variable {TB:Bt}
end Go.Am
namespace Go.Am
open Go
set_option linter.unusedVariables false
end Go.Am
namespace Go.Am
open Go Go.Proofs
set_option maxHeartbeats 1000000
attribute [local irreducible] AS BT Lex Bc Au Spec
variable {tabs:List (Nat×Obj)}
theorem ig(te:Ew)(x:AW):(if Bu (ES te) (DK te) x then some (AT (ES te) (DK te) x) else none)=Sf te x:=by
 rw [Dd]
 cases hv:AX (ES te) (DK te) x
 ·rw [Bool.false_and,if_neg Bool.false_ne_true]
  unfold Sf
  rw [Dd,←Bool.and_assoc,Dc,hv];rfl
 ·obtain⟨h1,h2,h3,h4,h5⟩:=Dp hv
  rw [h2,Mz (HW h1) h4.bd (by omega),TW (HW h1) h4.bd (by omega),Bool.true_and]
  unfold Sf
  rw [Dd,h1,h3,Bool.true_and,Bool.true_and]
theorem jZ{te:Ew}{x:AW}{a:AU}(h:Sf te x=some a):AX (ES te) (DK te) x=true∧A8 (BV te) (AZ (AY te)) x=none∧BL (BV te) (AZ (AY te)) x∧a=AT (BV te) (AY te) x∧AN a=true∧a.al=AY te∧a.nx.length=x.rows.length∧a.ac=x.rows.map (BV te):=by
 unfold Sf at h
 by_cases hc:(CG te && Bu (BV te) (AY te) x)=true
 ·rw [if_pos hc] at h
  injection h with h
  subst h
  rw [Bool.and_eq_true] at hc
  obtain⟨c1,c2,c3⟩:=Js hc.2
  have hv:AX (ES te) (DK te) x=true:=by rw [←Dc,hc.1,c1];rfl
  exact⟨hv,c2,c3,rfl,KI (GW hc.1) c3 (Ee c1).1.rl,rfl,by simp [AT],rfl⟩
 ·rw [if_neg hc] at h;cases h
end Go.Am
namespace Go.Am
open Go Go.Proofs
set_option maxHeartbeats 1000000
attribute [local irreducible] AS BT Lex Bc Au Spec
variable {TB:Bt}
noncomputable def Ma(te:Ew)(x:AW)(w:W):Option AW:=if (CG te && AX (BV te) (AY te) x && Ge (AY te) w)=true then Fu x w else none
theorem hX(te:Ew)(x:AW)(w:W):Ou (ES te) (DK te) x w=Ma te x w:=by
 unfold Ou Ma
 rw [Dc]
 cases hv:AX (ES te) (DK te) x
 ·rw [Bool.false_and,Bool.false_and]
 ·rw [(Dp hv).2.1]
section
variable {tabs:List (Nat×Obj)}[hTb:Df ⟨tabs,none⟩]{te:Ew}
include hTb
end
end Go.Am
namespace Go.Am
open Go Go.Proofs
set_option maxHeartbeats 1000000
attribute [local irreducible] AS BT Lex Bc Au Spec
variable {tabs:List (Nat×Obj)}
theorem fj{al:Int}{w:W}(h:Ge al w=true):AK (AZ al) w∧w.length≤4000:=by
 unfold Ge at h
 rw [Bool.and_eq_true,decide_eq_true_eq] at h
 exact⟨Eu h.1,h.2⟩
theorem WO{L:W→Bool}{cols:List W}{c w:W}:marks L (cols++[c]) w=marks L cols w++[Rp (L (w++c))]:=by simp [marks]
theorem VV{te:Ew}{x u:AW}{w:W}(h:Ma te x w=some u):AX (ES te) (DK te) x=true∧AK (AZ (AY te)) w∧w.length≤4000∧u=⟨x.rows,x.cols++[w]⟩∧AX (ES te) (DK te) u=true∧Ma te u w=none:=by
 unfold Ma at h
 by_cases hc:(CG te && AX (BV te) (AY te) x && Ge (AY te) w)=true
 ·rw [if_pos hc] at h
  rw [Dc,Bool.and_eq_true] at hc
  obtain⟨hv,hl⟩:=hc
  obtain⟨f1,f2⟩:=fj hl
  obtain⟨h1,h2,h3,h4,h5⟩:=Dp hv
  unfold Fu at h
  split at h
  ·cases h
  rename_i hn
  injection h with h
  subst h
  rw [not_or] at hn
  have hk:=IA h3
  have hcl:=h4.cl
  have hc1:=h4.c1
  refine⟨hv,f1,f2,rfl,?_,?_⟩
  ·rw [←Dc,h1,Bool.true_and]
   refine JJ (GW h1) h4.pos ⟨hk.r0,by rw [List.getElem?_append_left (by omega)];exact hk.c0,hk.pre,hk.onR,fun c hc=>?_,?_,?_⟩ h4.rl (by simp;omega) (fun r hr=>(h4.rw r hr).1) (fun c hc=>?_)
   ·rcases List.mem_append.1 hc with hc|hc
    ·exact hk.onC c hc
    ·simp at hc;subst hc;exact f1
   ·have e:(AF (BV te) ⟨x.rows,x.cols++[w]⟩).map List.dropLast=AF (BV te) x:=by
     unfold AF
     rw [List.map_map]
     exact List.map_congr_left fun r _=>by simp [Function.comp_def,WO]
    rw [←e] at h5
    exact(List.pairwise_map.1 h5).imp fun h e=>h (by rw [e])
   ·exact List.nodup_append.2 ⟨hk.ndC,by simp,fun a ha b hb=>by simp at hb;subst hb;exact fun e=>hn.2 (e ▸ ha)⟩
   ·rcases List.mem_append.1 hc with hc|hc
    ·exact(h4.cw c hc).1
    ·simp at hc;subst hc;exact f2
  ·unfold Ma Fu
   split
   ·rw [if_pos (.inr (by simp))]
   ·rfl
 ·rw [if_neg hc] at h;cases h
end Go.Am
namespace Go.Am
open Go Go.Proofs
set_option maxHeartbeats 1000000
attribute [local irreducible] AS BT Lex Bc Au Spec
variable {TB:Bt}
noncomputable def GR(te:Ew)(x:AW)(w:W):Option W:=if (CG te && Bu (BV te) (AY te) x && Ge (AY te) w)=true then CC (BV te) x w else none
noncomputable def Lz(te:Ew)(x:AW)(w:W):Option AW:=if (CG te && Bu (BV te) (AY te) x && Ge (AY te) w)=true then GS (BV te) (AZ (AY te)) x w else none
section
variable {tabs:List (Nat×Obj)}[hTb:Df ⟨tabs,none⟩]{te:Ew}
include hTb
end
end Go.Am
namespace Go.Am
open Go Go.Proofs
set_option maxHeartbeats 1000000
attribute [local irreducible] AS BT Lex Bc Au Spec
theorem bM(te:Ew)(x:AW):Bu (ES te) (DK te) x=(CG te && Bu (BV te) (AY te) x):=by
 rw [Dd,Dd,←Bool.and_assoc,Dc]
 cases hv:AX (ES te) (DK te) x
 ·rw [Bool.false_and,Bool.false_and]
 ·obtain⟨h1,h2,h3,h4,h5⟩:=Dp hv
  rw [h2,Mz (HW h1) h4.bd (by omega)]
theorem OD{te:Ew}{x:AW}(h:(CG te && Bu (BV te) (AY te) x)=true):AX (ES te) (DK te) x=true∧A8 (BV te) (AZ (AY te)) x=none∧BL (BV te) (AZ (AY te)) x:=by
 rw [Bool.and_eq_true] at h
 obtain⟨c1,c2,c3⟩:=Js h.2
 exact⟨by rw [←Dc,h.1,c1];rfl,c2,c3⟩
theorem dX(te:Ew)(x:AW)(w:W):Fi (ES te) (DK te) x w=GR te x w:=by
 unfold Fi GR
 rw [bM]
 cases hc:(CG te && Bu (BV te) (AY te) x)
 ·rw [Bool.false_and,Bool.false_and,if_neg Bool.false_ne_true,if_neg Bool.false_ne_true]
 ·obtain⟨hv,ho,hcl⟩:=OD hc
  obtain⟨h1,h2,h3,h4,h5⟩:=Dp hv
  rw [h2,Bool.true_and]
  by_cases hl:Ge (AY te) w=true
  ·obtain⟨f1,f2,_⟩:=OX hl
   rw [if_pos hl,if_pos hl,Xk (HW h1) h4.bd (by omega) hcl f1 (by omega)]
  ·rw [if_neg hl,if_neg hl]
theorem Vq{te:Ew}{x:AW}{w v:W}(h:GR te x w=some v):(CG te && Bu (BV te) (AY te) x)=true∧AK (AZ (AY te)) w∧w.length≤4000∧LZ (BV te) x w≠BV te w∧splitAt (BV te) x (BV te w) 0 w=some v∧Split (BV te) (AZ (AY te)) x w v:=by
 unfold GR at h
 by_cases hc:(CG te && Bu (BV te) (AY te) x && Ge (AY te) w)=true
 ·rw [if_pos hc] at h
  rw [Bool.and_eq_true] at hc
  obtain⟨hc,hl⟩:=hc
  obtain⟨hv,ho,hcl⟩:=OD hc
  obtain⟨f1,f2,_⟩:=OX hl
  unfold CC at h
  by_cases ha:LZ (BV te) x w=BV te w
  ·rw [if_pos ha] at h;cases h
  ·rw [if_neg ha] at h
   obtain⟨v',e,hs⟩:=Vs hcl (BV te w) w 0 [] f1 hcl.r0 rfl ha
   rw [e] at h
   injection h with h;subst h
   exact⟨hc,f1,f2,ha,e,hs⟩
 ·rw [if_neg hc] at h;cases h
theorem Vv(te:Ew)(x:AW)(w:W):Lz te x w=(GR te x w).bind fun v=>(Ma te x v).bind fun u=>Hr te u:=by
 unfold Lz
 cases hs:GR te x w with
 | none=>
  unfold GR at hs
  split
  ·rename_i hc
   rw [if_pos hc] at hs
   unfold GS
   rw [hs];rfl
  ·rfl
 | some v=>
  obtain⟨hc,f1,f2,ha,e,hsp⟩:=Vq hs
  have hc2:(CG te && Bu (BV te) (AY te) x && Ge (AY te) w)=true:=by
   unfold GR at hs
   split at hs
   ·assumption
   ·cases hs
  rw [if_pos hc2]
  obtain⟨hv,ho,hcl⟩:=OD hc
  obtain⟨h1,h2,h3,h4,h5⟩:=Dp hv
  unfold GS CC
  rw [if_neg ha,e]
  show (Fu x v).bind _=(Ma te x v).bind _
  obtain⟨p,_,hp⟩:=hsp.suf
  have hlv:Ge (AY te) v=true:=Yw (GW h1) (fun c hc=>f1 c (by rw [hp];simp [hc])) (by rw [hp] at f2;simp at f2;omega)
  have hao:Ma te x v=Fu x v:=by unfold Ma;rw [Dc,hv,hlv];rfl
  rw [hao]
  cases hu:Fu x v with
  | none=>rfl
  | some u=>
   obtain⟨_,_,_,_,hvu,_⟩:=VV (hao.trans hu)
   obtain⟨u1,u2,u3,u4,u5⟩:=Dp hvu
   show Bf _ _ 13 u=Hr te u
   unfold Hr
   rw [u1,u3];rfl
theorem gj(te:Ew)(x:AW)(w:W):LB (ES te) (DK te) x w=Lz te x w:=by
 rw [Vv]
 unfold LB
 rw [dX]
 congr 1
 funext v
 rw [hX]
 congr 1
 funext u
 exact T9 te u
theorem Vt{te:Ew}{x u:AW}{w v:W}(h:GR te x w=some v)(ha:Ma te x v=some u):A8 (BV te) (AZ (AY te)) u≠none:=by
 obtain⟨hc,f1,f2,hn,e,hsp⟩:=Vq h
 obtain⟨_,_,_,rfl,_,_⟩:=VV ha
 obtain⟨r,hr,c,hcl,hm⟩:=hsp.opens
 exact fH (t:=⟨x.rows,x.cols++[v]⟩) hr hcl hm
theorem jt{te:Ew}{x y:AW}{w:W}(h:Lz te x w=some y):(GR te x w).isSome=true∧AX (ES te) (DK te) x=true∧AX (ES te) (DK te) y=true∧A8 (BV te) (AZ (AY te)) y=none∧x.rows <+: y.rows∧x.rows.length < y.rows.length∧∃v,y.cols=x.cols++[v]:=by
 rw [Vv] at h
 cases hs:GR te x w with
 | none=>rw [hs] at h;cases h
 | some v=>
  rw [hs] at h
  have h:(Ma te x v).bind (fun u=>Hr te u)=some y:=h
  cases ha:Ma te x v with
  | none=>rw [ha] at h;cases h
  | some u=>
   rw [ha] at h
   have h:Hr te u=some y:=h
   have hop:=Vt hs ha
   obtain⟨hv,_,_,rfl,hvu,_⟩:=VV ha
   obtain⟨k1,k2,k3,k4,k5,k6⟩:=eW hvu h
   exact⟨rfl,hv,k1,k2,k3,k5 hop,v,k4⟩
end Go.Am
