/-
  Copies of the law's arguments, of the caller's own: walked.
-/
import Derived.Test.YtbfgijpfhgmepaaGreatDoorPart15
import Derived.Test.YtbfgijpfhgmepaaGreatDoorPart17
import Derived.Test.YtbfgijpfhgmepaaGreatDoorPart21
import Derived.Test.YtbfgijpfhgmepaaGreatDoorPart18
import Derived.Test.YtbfgijpfhgmepaaGreatDoorPart10
import Derived.Test.YtbfgijpfhgmepaaGreatDoorPart16
import Derived.Test.YtbfgijpfhgmepaaGreatDoorPart20
set_option linter.constructorNameAsVariable false
set_option linter.unusedSectionVars false
set_option linter.unusedSimpArgs false
set_option linter.unusedVariables false
namespace Go.Am
open Go Go.Proofs
set_option maxHeartbeats 1000000
attribute [local irreducible] AQ BS Lex Bc Av Spec
variable {TB:Bs}
theorem Xg(l:List (Int))(h:l.length≤1048576):AG Tryz.prog TB 87 0 [] 0 [Ag l] (fun x σ nx=>x=.o (.arr 0 1 0 l.length)∧σ=[(0,.cells 3 1 (l.map Al))]∧nx=1):=by
 have hren:∀(r:Nat→Nat) k,(CX (l.map Al) (Al 0) k).map (C.BC r)=CX (l.map Al) (Al 0) k:=fun r k=>GA (fun x hx=>by obtain⟨y,_,rfl⟩:=List.mem_map.1 hx;rfl) rfl
 have hlm:(l.map Al).length=l.length:=by simp
 refine AG.A1 (AG.Ql (m:=0) (Nat.le_of_ble_eq_true rfl) Tryz.func87 rfl (by kernel_rfl) (Nat.le_of_ble_eq_true rfl) ?_);intro Γ hΓ
 (repeat first |refine sN rfl ?_ |((first|refine sM rfl ?_ ?_|refine s4 rfl ‹_› rfl ?_ ?_);first|exact tI|omega|simp only[oZ] at *;omega) |refine s2 rfl fun _ _hb=>?_ |refine s3 rfl ?_ ?_<;>rintro rfl |refine aU rfl ?_ |refine Aa ?_ |refine rE (by kernel_rfl) ?_)
 (refine Ai rfl ?_;refine Bx (fun _ _=>Bn rfl) rfl ?_)
 (repeat first |refine sN rfl ?_ |((first|refine sM rfl ?_ ?_|refine s4 rfl ‹_› rfl ?_ ?_);first|exact tI|omega|simp only[oZ] at *;omega) |refine s2 rfl fun _ _hb=>?_ |refine s3 rfl ?_ ?_<;>rintro rfl |refine aU rfl ?_ |refine Aa ?_ |refine rE (by kernel_rfl) ?_)
 (refine pW rfl ?_ rfl (by rfl);refine Ej rfl rfl (by rfl) (by rfl) (Nat.le_of_ble_eq_true rfl) (by omega) (by omega) (by omega) ?_)
 (repeat first |refine sN rfl ?_ |((first|refine sM rfl ?_ ?_|refine s4 rfl ‹_› rfl ?_ ?_);first|exact tI|omega|simp only[oZ] at *;omega) |refine s2 rfl fun _ _hb=>?_ |refine s3 rfl ?_ ?_<;>rintro rfl |refine aU rfl ?_ |refine Aa ?_ |refine rE (by kernel_rfl) ?_)
 refine aB ?_
 refine Av.AO (α:={k:Nat // k≤l.length}) (fun ⟨k,hk⟩=>[(0,Ag l),(3,.o (.arr 0 1 0 l.length)),(4,eI .i64 k)]) (fun ⟨k,hk⟩=>[(0,.cells 3 1 (CX (l.map Al) (Al 0) k))]) 1 (fun ⟨k,hk⟩=>l.length - k) (⟨0,by omega⟩) [0] (Dd hΓ rfl rfl) (by ((repeat' first|exact tI|rfl|refine And.intro ?_ ?_)<;>(simp[cX,zC,hΓ,Ke,hren]))) ?_;rintro⟨k,hk⟩;(try dsimp only)
 (repeat first |refine sN rfl ?_ |((first|refine sM rfl ?_ ?_|refine s4 rfl ‹_› rfl ?_ ?_);first|exact tI|omega|simp only[oZ] at *;omega) |refine s2 rfl fun _ _hb=>?_ |refine s3 rfl ?_ ?_<;>rintro rfl |refine aU rfl ?_ |refine Aa ?_ |refine rE (by kernel_rfl) ?_)
 (refine aC rfl ?_ ?_<;>rintro⟨⟩)
 ·obtain⟨x,hx⟩:=get_some (l:=l) (k:=k) (by first|omega|simp only[oZ] at *;omega)
  have hx':=get_map (g:=Bk) hx
  have hg:=Gz (l:=l.map Al) (z:=Al 0) (k:=k) (by first|omega|simp only[oZ] at *;omega)
  have hs:=GB (l:=l.map Al) (z:=Al 0) (k:=k) (x:=Al x) (by simp [hx])
  refine aK ?_
  refine aS (aB ?_)
  (repeat first |refine sN rfl ?_ |((first|refine sM rfl ?_ ?_|refine s4 rfl ‹_› rfl ?_ ?_);first|exact tI|omega|simp only[oZ] at *;omega) |refine s2 rfl fun _ _hb=>?_ |refine s3 rfl ?_ ?_<;>rintro rfl |refine aU rfl ?_ |refine Aa ?_ |refine rE (by kernel_rfl) ?_)
  refine⟨⟨k+1,by first|omega|simp only[oZ] at *;omega⟩,by dsimp only;(first|omega|simp only[oZ] at *;omega),[0],?_⟩
  have hsp:Af (Al 0) 0 (eC (eI .i64 x))=Al x:=rfl
  rw [hsp,hs]
  simp[cX,zC,hΓ,hren]
 ·obtain rfl:k=l.length:=by first|omega|simp only[oZ] at *;omega
  have he:CX (l.map Al) (Al 0) l.length=l.map Al:=by
   have:=Gy (l.map Al) (Al 0)
   rwa [hlm] at this
  rw [he]
  refine aE ?_
  (repeat first |refine sN rfl ?_ |((first|refine sM rfl ?_ ?_|refine s4 rfl ‹_› rfl ?_ ?_);first|exact tI|omega|simp only[oZ] at *;omega) |refine s2 rfl fun _ _hb=>?_ |refine s3 rfl ?_ ?_<;>rintro rfl |refine aU rfl ?_ |refine Aa ?_ |refine rE (by kernel_rfl) ?_)
  exact aR ⟨_,rfl,[0],.o (.arr 0 1 0 l.length),[(0,.cells 3 1 (l.map Al))],⟨fun i hi=>absurd hi (Nat.not_lt_zero i),by decide⟩,rfl,by ((repeat' first|exact tI|rfl|refine And.intro ?_ ?_)<;>(simp[cX,zC,hΓ,hren,cN]<;>rfl)),rfl,rfl,rfl⟩
theorem Vq(l:List (Bool))(h:l.length≤1048576):AG Tryz.prog TB 46 0 [] 0 [EC l] (fun x σ nx=>x=.o (.arr 0 1 0 l.length)∧σ=[(0,.cells 4 1 (l.map AB))]∧nx=1):=by
 have hren:∀(r:Nat→Nat) k,(CX (l.map AB) (AB false) k).map (C.BC r)=CX (l.map AB) (AB false) k:=fun r k=>GA (fun x hx=>by obtain⟨y,_,rfl⟩:=List.mem_map.1 hx;rfl) rfl
 have hlm:(l.map AB).length=l.length:=by simp
 refine AG.A1 (AG.Ql (m:=0) (Nat.le_of_ble_eq_true rfl) Tryz.func46 rfl (by kernel_rfl) (Nat.le_of_ble_eq_true rfl) ?_);intro Γ hΓ
 (repeat first |refine sN rfl ?_ |((first|refine sM rfl ?_ ?_|refine s4 rfl ‹_› rfl ?_ ?_);first|exact tI|omega|simp only[oZ] at *;omega) |refine s2 rfl fun _ _hb=>?_ |refine s3 rfl ?_ ?_<;>rintro rfl |refine aU rfl ?_ |refine Aa ?_ |refine rE (by kernel_rfl) ?_)
 (refine Ai rfl ?_;refine Bx (fun _ _=>Bn rfl) rfl ?_)
 (repeat first |refine sN rfl ?_ |((first|refine sM rfl ?_ ?_|refine s4 rfl ‹_› rfl ?_ ?_);first|exact tI|omega|simp only[oZ] at *;omega) |refine s2 rfl fun _ _hb=>?_ |refine s3 rfl ?_ ?_<;>rintro rfl |refine aU rfl ?_ |refine Aa ?_ |refine rE (by kernel_rfl) ?_)
 (refine pW rfl ?_ rfl (by rfl);refine Ej rfl rfl (by rfl) (by rfl) (Nat.le_of_ble_eq_true rfl) (by omega) (by omega) (by omega) ?_)
 (repeat first |refine sN rfl ?_ |((first|refine sM rfl ?_ ?_|refine s4 rfl ‹_› rfl ?_ ?_);first|exact tI|omega|simp only[oZ] at *;omega) |refine s2 rfl fun _ _hb=>?_ |refine s3 rfl ?_ ?_<;>rintro rfl |refine aU rfl ?_ |refine Aa ?_ |refine rE (by kernel_rfl) ?_)
 refine aB ?_
 refine Av.AO (α:={k:Nat // k≤l.length}) (fun ⟨k,hk⟩=>[(0,EC l),(3,.o (.arr 0 1 0 l.length)),(4,eI .i64 k)]) (fun ⟨k,hk⟩=>[(0,.cells 4 1 (CX (l.map AB) (AB false) k))]) 1 (fun ⟨k,hk⟩=>l.length - k) (⟨0,by omega⟩) [0] (Dd hΓ rfl rfl) (by ((repeat' first|exact tI|rfl|refine And.intro ?_ ?_)<;>(simp[cX,zC,hΓ,Ke,hren]))) ?_;rintro⟨k,hk⟩;(try dsimp only)
 (repeat first |refine sN rfl ?_ |((first|refine sM rfl ?_ ?_|refine s4 rfl ‹_› rfl ?_ ?_);first|exact tI|omega|simp only[oZ] at *;omega) |refine s2 rfl fun _ _hb=>?_ |refine s3 rfl ?_ ?_<;>rintro rfl |refine aU rfl ?_ |refine Aa ?_ |refine rE (by kernel_rfl) ?_)
 (refine aC rfl ?_ ?_<;>rintro⟨⟩)
 ·obtain⟨x,hx⟩:=get_some (l:=l) (k:=k) (by first|omega|simp only[oZ] at *;omega)
  have hx':=get_map (g:=HY) hx
  have hg:=Gz (l:=l.map AB) (z:=AB false) (k:=k) (by first|omega|simp only[oZ] at *;omega)
  have hs:=GB (l:=l.map AB) (z:=AB false) (k:=k) (x:=AB x) (by simp [hx])
  refine aK ?_
  refine aS (aB ?_)
  (repeat first |refine sN rfl ?_ |((first|refine sM rfl ?_ ?_|refine s4 rfl ‹_› rfl ?_ ?_);first|exact tI|omega|simp only[oZ] at *;omega) |refine s2 rfl fun _ _hb=>?_ |refine s3 rfl ?_ ?_<;>rintro rfl |refine aU rfl ?_ |refine Aa ?_ |refine rE (by kernel_rfl) ?_)
  refine⟨⟨k+1,by first|omega|simp only[oZ] at *;omega⟩,by dsimp only;(first|omega|simp only[oZ] at *;omega),[0],?_⟩
  have hsp:Af (AB false) 0 (eC (eB x))=AB x:=rfl
  rw [hsp,hs]
  simp[cX,zC,hΓ,hren]
 ·obtain rfl:k=l.length:=by first|omega|simp only[oZ] at *;omega
  have he:CX (l.map AB) (AB false) l.length=l.map AB:=by
   have:=Gy (l.map AB) (AB false)
   rwa [hlm] at this
  rw [he]
  refine aE ?_
  (repeat first |refine sN rfl ?_ |((first|refine sM rfl ?_ ?_|refine s4 rfl ‹_› rfl ?_ ?_);first|exact tI|omega|simp only[oZ] at *;omega) |refine s2 rfl fun _ _hb=>?_ |refine s3 rfl ?_ ?_<;>rintro rfl |refine aU rfl ?_ |refine Aa ?_ |refine rE (by kernel_rfl) ?_)
  exact aR ⟨_,rfl,[0],.o (.arr 0 1 0 l.length),[(0,.cells 4 1 (l.map AB))],⟨fun i hi=>absurd hi (Nat.not_lt_zero i),by decide⟩,rfl,by ((repeat' first|exact tI|rfl|refine And.intro ?_ ?_)<;>(simp[cX,zC,hΓ,hren,cN]<;>rfl)),rfl,rfl,rfl⟩
theorem Vr(l:List (EO))(h:l.length≤1048576):AG Tryz.prog TB 44 0 [] 0 [Hx l] (fun x σ nx=>x=.o (.arr 0 3 0 l.length)∧σ=[(0,.cells 126 3 (l.map Az))]∧nx=1):=by
 have hren:∀(r:Nat→Nat) k,(CX (l.map Az) (Az ⟨0,0,0⟩) k).map (C.BC r)=CX (l.map Az) (Az ⟨0,0,0⟩) k:=fun r k=>GA (fun x hx=>by obtain⟨y,_,rfl⟩:=List.mem_map.1 hx;rfl) rfl
 have hlm:(l.map Az).length=l.length:=by simp
 refine AG.A1 (AG.Ql (m:=0) (Nat.le_of_ble_eq_true rfl) Tryz.func44 rfl (by kernel_rfl) (Nat.le_of_ble_eq_true rfl) ?_);intro Γ hΓ
 (repeat first |refine sN rfl ?_ |((first|refine sM rfl ?_ ?_|refine s4 rfl ‹_› rfl ?_ ?_);first|exact tI|omega|simp only[oZ] at *;omega) |refine s2 rfl fun _ _hb=>?_ |refine s3 rfl ?_ ?_<;>rintro rfl |refine aU rfl ?_ |refine Aa ?_ |refine rE (by kernel_rfl) ?_)
 (refine Ai rfl ?_;refine Bx (fun _ _=>Bn rfl) rfl ?_)
 (repeat first |refine sN rfl ?_ |((first|refine sM rfl ?_ ?_|refine s4 rfl ‹_› rfl ?_ ?_);first|exact tI|omega|simp only[oZ] at *;omega) |refine s2 rfl fun _ _hb=>?_ |refine s3 rfl ?_ ?_<;>rintro rfl |refine aU rfl ?_ |refine Aa ?_ |refine rE (by kernel_rfl) ?_)
 (refine pW rfl ?_ rfl (by rfl);refine Ej rfl rfl (by rfl) (by rfl) (Nat.le_of_ble_eq_true rfl) (by omega) (by omega) (by omega) ?_)
 (repeat first |refine sN rfl ?_ |((first|refine sM rfl ?_ ?_|refine s4 rfl ‹_› rfl ?_ ?_);first|exact tI|omega|simp only[oZ] at *;omega) |refine s2 rfl fun _ _hb=>?_ |refine s3 rfl ?_ ?_<;>rintro rfl |refine aU rfl ?_ |refine Aa ?_ |refine rE (by kernel_rfl) ?_)
 refine aB ?_
 refine Av.AO (α:={k:Nat // k≤l.length}) (fun ⟨k,hk⟩=>[(0,Hx l),(3,.o (.arr 0 3 0 l.length)),(4,eI .i64 k)]) (fun ⟨k,hk⟩=>[(0,.cells 126 3 (CX (l.map Az) (Az ⟨0,0,0⟩) k))]) 1 (fun ⟨k,hk⟩=>l.length - k) (⟨0,by omega⟩) [0] (Dd hΓ rfl rfl) (by ((repeat' first|exact tI|rfl|refine And.intro ?_ ?_)<;>(simp[cX,zC,hΓ,Ke,hren]))) ?_;rintro⟨k,hk⟩;(try dsimp only)
 (repeat first |refine sN rfl ?_ |((first|refine sM rfl ?_ ?_|refine s4 rfl ‹_› rfl ?_ ?_);first|exact tI|omega|simp only[oZ] at *;omega) |refine s2 rfl fun _ _hb=>?_ |refine s3 rfl ?_ ?_<;>rintro rfl |refine aU rfl ?_ |refine Aa ?_ |refine rE (by kernel_rfl) ?_)
 (refine aC rfl ?_ ?_<;>rintro⟨⟩)
 ·obtain⟨x,hx⟩:=get_some (l:=l) (k:=k) (by first|omega|simp only[oZ] at *;omega)
  have hx':=get_map (g:=C5) hx
  have hg:=Gz (l:=l.map Az) (z:=Az ⟨0,0,0⟩) (k:=k) (by first|omega|simp only[oZ] at *;omega)
  have hs:=GB (l:=l.map Az) (z:=Az ⟨0,0,0⟩) (k:=k) (x:=Az x) (by simp [hx])
  refine aK ?_
  refine aS (aB ?_)
  (repeat first |refine sN rfl ?_ |((first|refine sM rfl ?_ ?_|refine s4 rfl ‹_› rfl ?_ ?_);first|exact tI|omega|simp only[oZ] at *;omega) |refine s2 rfl fun _ _hb=>?_ |refine sP rfl (RD x) rfl ?_ |refine s3 rfl ?_ ?_<;>rintro rfl |refine aU rfl ?_ |refine Aa ?_ |refine rE (by kernel_rfl) ?_)
  refine⟨⟨k+1,by first|omega|simp only[oZ] at *;omega⟩,by dsimp only;(first|omega|simp only[oZ] at *;omega),[0],?_⟩
  have hsp:Af (Az ⟨0,0,0⟩) 0 (eC (Ow x))=Az x:=rfl
  rw [hsp,hs]
  simp[cX,zC,hΓ,hren]
 ·obtain rfl:k=l.length:=by first|omega|simp only[oZ] at *;omega
  have he:CX (l.map Az) (Az ⟨0,0,0⟩) l.length=l.map Az:=by
   have:=Gy (l.map Az) (Az ⟨0,0,0⟩)
   rwa [hlm] at this
  rw [he]
  refine aE ?_
  (repeat first |refine sN rfl ?_ |((first|refine sM rfl ?_ ?_|refine s4 rfl ‹_› rfl ?_ ?_);first|exact tI|omega|simp only[oZ] at *;omega) |refine s2 rfl fun _ _hb=>?_ |refine s3 rfl ?_ ?_<;>rintro rfl |refine aU rfl ?_ |refine Aa ?_ |refine rE (by kernel_rfl) ?_)
  exact aR ⟨_,rfl,[0],.o (.arr 0 3 0 l.length),[(0,.cells 126 3 (l.map Az))],⟨fun i hi=>absurd hi (Nat.not_lt_zero i),by decide⟩,rfl,by ((repeat' first|exact tI|rfl|refine And.intro ?_ ?_)<;>(simp[cX,zC,hΓ,hren,cN]<;>rfl)),rfl,rfl,rfl⟩
abbrev Zi(al:Int)(i j:Nat)(n m:Nat):E:=.a [.d (iD al),.arr i 1 0 n,.arr j 1 0 m]
structure gk (m:Nat) (a:AZ):Prop where
 nx:a.nx.length≤m
 ac:a.ac.length≤m
 row:∀r∈a.nx,r.length≤m
def IK(a:AZ)(x:E)(σ:Ab)(nx:Nat):Prop:=∃l:IH,l.map (·.2)=a.nx∧
 x=Zi a.al 0 1 l.length a.ac.length∧σ=[(0,.cells 62 1 (Be l)),(1,.cells 4 1 (a.ac.map AB)),(2,.sld 3 (sI l))]∧nx=3
theorem QQ(a:AZ)(ha:gk 1000000 a):AG Tryz.prog TB 71 0 [] 0 [Bo a] (IK a):=by
 have ha1:=ha.nx
 have ha2:=ha.ac
 refine AG.A1 (AG.Ql (m:=0) (Nat.le_of_ble_eq_true rfl) Tryz.func71 rfl (by kernel_rfl) (Nat.le_of_ble_eq_true rfl) ?_);intro Γ hΓ
 (repeat first|refine tA rfl ?_ |refine aU rfl ?_ |refine Aa ?_)
 refine R.Pf [(0,2),(1,2),(3,2),(4,2),(7,3),(2,1),(5,1),(6,1),(8,5)] mixed (by kernel_rfl) rfl (by kernel_rfl) ?_
 (repeat ((refine R.Ai rfl ?_;first|(refine R.yQ (md:=false) rfl rfl rfl ?_ ?_;exact tI) |refine R.yP rfl rfl rfl rfl ?_ )))
 (refine R.Ai rfl ?_;refine R.NC (fun _=>?_) rfl rfl;refine BL rfl rfl rfl rfl (by simp) (by rfl) (by rfl) (by rfl) (by rfl) ?_)
 (refine R.Ai rfl ?_;refine R.NC (fun _=>?_) rfl rfl;refine AH rfl rfl rfl (by simp) rfl (by intro r hr;simp only [List.map_map,List.mem_map] at hr;obtain⟨_,_,rfl⟩:=hr;rfl) (by rfl) (Nat.le_of_ble_eq_true rfl) (by simp;omega) ?_)
 (refine R.Ai rfl ?_;refine R.NC (fun _=>?_) rfl rfl;refine OZ 1 1 62 rfl rfl rfl (by rfl) (by rfl) ?_)
 (repeat ((refine R.Ai rfl ?_;first|refine R.yA rfl rfl rfl rfl ?_ )))
 refine R.OT ?_
 refine aS ?_
 (repeat first|refine tA rfl ?_ |refine aU rfl ?_ |refine Aa ?_)
 refine aB ?_
 refine Av.fO 3 ?_
 refine aL (α:={s:Nat×IH // s.1≤a.nx.length∧s.2.map (·.2)=a.nx.take s.1}) [1,2,3] [] rfl rfl (fun s=>[(4,eI .i64 s.1.1)]) (fun s=>[(0,.cells 29 3 [[.d (iD 0),.d (.l []),.d (.l [])]]),(2,.cells 4 1 (a.ac.map AB)),(3,.cells 62 1 (Be s.1.2)),(4,.cells 29 3 [[.d (iD a.al),.arr 3 1 0 s.1.2.length,.arr 2 1 0 a.ac.length]]),(5,.sld 3 (sI s.1.2))]) 6 (fun s=>a.nx.length - s.1.1) (⟨⟨0,[]⟩,by simp⟩) hΓ rfl (by (simp[cX,zC,hΓ,cN,Bp,Af,eC]<;>rfl)) ?_;rintro⟨⟨k,l⟩,hk,hl⟩;(try dsimp only[cA,cB])
 have hk:k≤a.nx.length:=hk
 have hl:l.map (·.2)=a.nx.take k:=hl
 have hll:l.length=k:=by have:=congrArg List.length hl;simp at this;omega
 (repeat first|refine sN rfl ?_ |refine tA rfl ?_ |refine s2 rfl fun _ _hb=>?_ |refine aU rfl ?_ |refine Aa ?_)
 ((refine aC rfl ?_ ?_<;>rintro⟨⟩);all_goals try (simp at _hb;done))
 ·have hlt:k < a.nx.length:=by (simp only[oZ] at *;omega)
  obtain⟨r,hx⟩:=get_some (l:=a.nx) (k:=k) hlt
  have hx':=get_map (g:=Ds) hx
  have hr:=ha.row r (List.mem_of_getElem? hx)
  refine aK ?_
  refine aS (aB ?_)
  refine rG ⟨OA [(1,14),(2,1016),(8,1016),(9,1016),(10,1),(12,1)],jK [0,1,3,4,5,6,7,2,8,9,10,11,12]⟩ (by kernel_rfl) ?_
  (repeat first|refine tX rfl ?_ |(refine s4 rfl ‹_› rfl ?_ ?_;omega))
  (refine Ai rfl ?_;refine O7 ?_ rfl ⟨rfl,rfl⟩;refine BL rfl rfl rfl rfl (by simp) (by rfl) (by rfl) (by rfl) (by rfl) ?_;refine⟨QN 4 rfl rfl,?_⟩)
  (refine Ai rfl ?_;refine O7 ?_ rfl ⟨rfl,rfl⟩;refine AH rfl rfl rfl (by simp) rfl (by intro r hr;simp only [List.map_map,List.mem_map] at hr;obtain⟨_,_,rfl⟩:=hr;rfl) (by rfl) (Nat.le_of_ble_eq_true rfl) (by simp;omega) ?_;refine⟨QN 4 rfl rfl,?_⟩)
  (refine Ai rfl ?_;refine O7 ?_ rfl ⟨rfl,rfl⟩;refine BL rfl rfl rfl rfl (by simp [eC]) (by rfl) (by rfl) (by rfl) (by rfl) ?_;refine⟨QN 4 rfl rfl,?_⟩)
  (refine pW rfl ?_ rfl (by rfl);refine AH rfl rfl rfl (DY _) rfl (by intro r hr;simp at hr;subst hr;rfl) (by rfl) (Nat.le_of_ble_eq_true rfl) (by simp;omega) ?_)
  (repeat first|refine tA rfl ?_)
  refine Aa ?_
  refine Av.Ce [1,2,3,4] [] rfl rfl [] [(0,.cells 29 3 [[.d (iD 0),.d (.l []),.d (.l [])]]),(1,.cells 3 1 (r.map Al)),(2,.cells 4 1 (a.ac.map AB)),(3,.cells 62 1 (Be l++[[.arr 1 1 0 r.length]])),(4,.cells 29 3 [[.d (iD a.al),.arr 3 1 0 (l.length+1),.arr 2 1 0 a.ac.length]]),(5,.sld 3 (sI l))] [0,7,2,9,4,5] (rl hΓ rfl) (by (simp[cX,zC,hΓ,cN,Bp,Af,eC])) ?_;(try dsimp only[cA,cB])
  refine Av.WK 3 1 5 l r rfl rfl rfl fun v=>?_
  (repeat first|(refine sA rfl ?_ ?_;first|exact tI|omega) |refine aU rfl ?_ |refine Aa ?_)
  refine⟨⟨⟨k+1,l++[(v,r)]⟩,by dsimp only;omega,by dsimp only;rw [List.map_append,hl,List.take_add_one,hx];rfl⟩,by dsimp only;(omega),[0,1,2,3,4,5],?_⟩
  (simp[cX,zC,hΓ,cN]<;>rfl)
 have hkn:k=a.nx.length:=by (simp only[oZ] at *;omega)
 refine aE ?_
 (repeat first|refine tA rfl ?_ |refine aU rfl ?_ |refine Aa ?_)
 have hll:l.map (·.2)=a.nx:=by rw [hl,hkn,List.take_length]
 refine aR ⟨_,rfl,[3,2,5],Zi a.al 0 1 l.length a.ac.length,[(0,.cells 62 1 (Be l)),(1,.cells 4 1 (a.ac.map AB)),(2,.sld 3 (sI l))],⟨by intro i hi;omega,by decide⟩,rfl,by (simp[cX,zC,hΓ,cN]),l,hll,rfl,rfl,rfl⟩
theorem Vs(a:List (List Int))(h:a.length≤1048576)(hr:∀r∈a,r.length≤1048576):AG Tryz.prog TB 45 0 [] 0 [Cj a] (fun x σ nx=>∃l:IH,l.map (·.2)=a∧x=.o (.arr 0 1 0 l.length)∧σ=[(0,.cells 62 1 (Be l)),(1,.sld 3 (sI l))]∧nx=2):=by
 refine AG.A1 (AG.Ql (m:=0) (Nat.le_of_ble_eq_true rfl) Tryz.func45 rfl (by kernel_rfl) (Nat.le_of_ble_eq_true rfl) ?_);intro Γ hΓ
 (repeat first |refine sN rfl ?_ |((first|refine sM rfl ?_ ?_|refine s4 rfl ‹_› rfl ?_ ?_);first|exact tI|omega|simp only[oZ] at *;omega) |refine s2 rfl fun _ _hb=>?_ |refine s3 rfl ?_ ?_<;>rintro rfl |refine aU rfl ?_ |refine Aa ?_ |refine rE (by kernel_rfl) ?_)
 (refine Ai rfl ?_;refine Bx (fun _ _=>Bn rfl) rfl ?_)
 (repeat first |refine sN rfl ?_ |((first|refine sM rfl ?_ ?_|refine s4 rfl ‹_› rfl ?_ ?_);first|exact tI|omega|simp only[oZ] at *;omega) |refine s2 rfl fun _ _hb=>?_ |refine s3 rfl ?_ ?_<;>rintro rfl |refine aU rfl ?_ |refine Aa ?_ |refine rE (by kernel_rfl) ?_)
 (refine pW rfl ?_ rfl (by rfl);refine Ej rfl rfl (by rfl) (by rfl) (Nat.le_of_ble_eq_true rfl) (by omega) (by omega) (by omega) ?_)
 (repeat first |refine sN rfl ?_ |((first|refine sM rfl ?_ ?_|refine s4 rfl ‹_› rfl ?_ ?_);first|exact tI|omega|simp only[oZ] at *;omega) |refine s2 rfl fun _ _hb=>?_ |refine s3 rfl ?_ ?_<;>rintro rfl |refine aU rfl ?_ |refine Aa ?_ |refine rE (by kernel_rfl) ?_)
 refine aB ?_
 refine Av.fO 3 ?_
 refine aL (α:={s:Nat×IH // s.1≤a.length∧s.2.map (·.2)=a.take s.1}) [0] [] rfl rfl (fun s=>[(3,.o (.arr 0 1 0 a.length)),(4,eI .i64 s.1.1)]) (fun s=>[(0,.cells 62 1 (Be s.1.2++List.replicate (a.length - s.1.1) [.d (.l [])])),(1,.sld 3 (sI s.1.2))]) 2 (fun s=>a.length - s.1.1) (⟨⟨0,[]⟩,by simp⟩) hΓ rfl (by ((repeat' first|exact tI|rfl|refine And.intro ?_ ?_)<;>(simp[cX,zC,hΓ,cN,Bp,Af,eC]<;>rfl))) ?_;rintro⟨⟨k,l⟩,hk,hl⟩;(try dsimp only[cA,cB])
 have hk:k≤a.length:=hk
 have hl:l.map (·.2)=a.take k:=hl
 have hll:l.length=k:=by have:=congrArg List.length hl;simp at this;omega
 by_cases hlt:k < a.length
 ·obtain⟨r,hx⟩:=get_some hlt
  have hx':=get_map (g:=Ds) hx
  have hrl:=hr r (List.mem_of_getElem? hx)
  have hc:=Xg (TB:=TB) r hrl
  have hrep:List.replicate (a.length - k) ([.d (.l [])]:List C)=[.d (.l [])]::List.replicate (a.length - (k+1)) [.d (.l [])]:=by rw [show a.length - k=(a.length - (k+1))+1 by omega,List.replicate_succ]
  have hset:∀z:List C,(Be l++List.replicate (a.length - k) ([.d (.l [])]:List C)).set (0+((k:Nat):Int).toNat) z=Be l++z::List.replicate (a.length - (k+1)) [.d (.l [])]:=fun z=>by rw [Nat.zero_add,Int.toNat_natCast,hrep];exact Tb (by rw [DY,hll])
  have hset1:=fun z=>hset z
  simp only [Nat.zero_add,Int.toNat_natCast] at hset1
  have hg:(Be l++List.replicate (a.length - k) ([.d (.l [])]:List C))[0+((k:Nat):Int).toNat]? = some [.d (.l [])]:=by
   rw [Nat.zero_add,Int.toNat_natCast,hrep,List.getElem?_append_right (by rw [DY];omega),DY,hll,Nat.sub_self];rfl
  (repeat first |refine sN rfl ?_ |((first|refine sA rfl ?_ ?_|refine s4 rfl ‹_› rfl ?_ ?_);first|exact tI|omega|simp only[oZ] at *;omega) |refine s2 rfl fun _ _hb=>?_ |refine s3 rfl ?_ ?_<;>rintro rfl |refine aU rfl ?_ |refine Aa ?_)
  ((refine aC rfl ?_ ?_<;>rintro⟨⟩);all_goals try(exfalso;first|omega|simp only[oZ] at *;omega))
  refine aK ?_
  refine aS (aB ?_)
  (repeat first |refine sN rfl ?_ |((first|refine sA rfl ?_ ?_|refine s4 rfl ‹_› rfl ?_ ?_);first|exact tI|omega|simp only[oZ] at *;omega) |refine s2 rfl fun _ _hb=>?_ |refine s3 rfl ?_ ?_<;>rintro rfl |refine aU rfl ?_ |refine Aa ?_)
  (refine pW rfl ?_ rfl (by rfl);refine CA [] rfl rfl 0 (hc) (by decide) ⟨rfl,by decide,by decide⟩ rfl (by simp[cX,zC,hΓ,cN]) ?_;rintro x0 σ1 nx1 ⟨rfl,rfl,rfl⟩ _)
  (repeat first |refine sN rfl ?_ |((first|refine sA rfl ?_ ?_|refine s4 rfl ‹_› rfl ?_ ?_);first|exact tI|omega|simp only[oZ] at *;omega) |refine s2 rfl fun _ _hb=>?_ |refine s3 rfl ?_ ?_<;>rintro rfl)
  refine Aa ?_
  refine Av.Ce [0,3,4] [] rfl rfl [] [(0,.cells 62 1 (Be l++[.arr 2 1 0 r.length]::List.replicate (a.length - (k+1)) [.d (.l [])])),(1,.sld 3 (sI l)),(2,.cells 3 1 (r.map Al))] [0,1,2] (rl hΓ rfl) (by ((repeat' first|exact tI|rfl|refine And.intro ?_ ?_)<;>(simp[cX,zC,hΓ,cN,Af,eC,hset1]<;>rfl))) ?_;(try dsimp only[cA,cB])
  refine Av.put 0 2 1 (Be l) (List.replicate (a.length - (k+1)) [.d (.l [])]) r l [] rfl rfl (by rw [List.append_nil];rfl) fun v=>?_
  (repeat first |refine sN rfl ?_ |((first|refine sA rfl ?_ ?_|refine s4 rfl ‹_› rfl ?_ ?_);first|exact tI|omega|simp only[oZ] at *;omega) |refine s2 rfl fun _ _hb=>?_ |refine s3 rfl ?_ ?_<;>rintro rfl |refine aU rfl ?_ |refine Aa ?_)
  refine⟨⟨⟨k+1,l++[(v,r)]⟩,by dsimp only;omega,by dsimp only;rw [List.map_append,hl,List.take_add_one,hx];rfl⟩,by dsimp only;(first|omega|simp only[oZ] at *;omega),[0,1],?_⟩
  (simp[cX,zC,hΓ,cN,Be,Af,eC]<;>rfl)
 ·obtain rfl:k=a.length:=by omega
  rw [Nat.sub_self,List.replicate_zero,List.append_nil]
  rw [List.take_length] at hl
  (repeat first |refine sN rfl ?_ |((first|refine sA rfl ?_ ?_|refine s4 rfl ‹_› rfl ?_ ?_);first|exact tI|omega|simp only[oZ] at *;omega) |refine s2 rfl fun _ _hb=>?_ |refine s3 rfl ?_ ?_<;>rintro rfl |refine aU rfl ?_ |refine Aa ?_)
  ((refine aC rfl ?_ ?_<;>rintro⟨⟩);all_goals try(exfalso;first|omega|simp only[oZ] at *;omega))
  refine aE ?_
  (repeat first |refine sN rfl ?_ |((first|refine sA rfl ?_ ?_|refine s4 rfl ‹_› rfl ?_ ?_);first|exact tI|omega|simp only[oZ] at *;omega) |refine s2 rfl fun _ _hb=>?_ |refine s3 rfl ?_ ?_<;>rintro rfl |refine aU rfl ?_ |refine Aa ?_)
  refine aR ⟨_,rfl,[0,1],.o (.arr 0 1 0 l.length),[(0,.cells 62 1 (Be l)),(1,.sld 3 (sI l))],⟨fun i hi=>absurd hi (Nat.not_lt_zero i),by decide⟩,by rw [hll];rfl,by ((repeat' first|exact tI|rfl|refine And.intro ?_ ?_)<;>(simp[cX,zC,hΓ,cN]<;>rfl)),l,hl,rfl,rfl,rfl⟩
theorem NH(a:AZ)(h1:a.nx.length≤1048576)(h2:a.ac.length≤1048576)(h3:∀r∈a.nx,r.length≤1048576):AG Tryz.prog TB 17 0 [] 0 [Bo a] (IK a):=by
 have c1:=Vs (TB:=TB) a.nx h1 h3
 have c2:=Vq (TB:=TB) a.ac h2
 refine AG.A1 (AG.Ql (m:=0) (Nat.le_of_ble_eq_true rfl) Tryz.func17 rfl (by kernel_rfl) (Nat.le_of_ble_eq_true rfl) ?_);intro Γ hΓ
 (repeat first |refine sN rfl ?_ |((first|refine sA rfl ?_ ?_|refine s4 rfl ‹_› rfl ?_ ?_);first|exact tI|omega|simp only[oZ] at *;omega) |refine s2 rfl fun _ _hb=>?_ |refine s3 rfl ?_ ?_<;>rintro rfl |refine aU rfl ?_ |refine Aa ?_)
 (refine pW rfl ?_ rfl (by rfl);refine CA [] rfl rfl 0 (c1) (by decide) ⟨rfl,by decide,by decide⟩ rfl (by simp[cX,zC,hΓ,cN]) ?_;rintro x0 σ1 nx1 ⟨l,hl,rfl,rfl,rfl⟩ _)
 (repeat first |refine sN rfl ?_ |((first|refine sA rfl ?_ ?_|refine s4 rfl ‹_› rfl ?_ ?_);first|exact tI|omega|simp only[oZ] at *;omega) |refine s2 rfl fun _ _hb=>?_ |refine s3 rfl ?_ ?_<;>rintro rfl |refine aU rfl ?_ |refine Aa ?_)
 (refine pW rfl ?_ rfl (by rfl);refine CA [] rfl rfl 0 (c2) (by decide) ⟨rfl,by decide,by decide⟩ rfl (by simp[cX,zC,hΓ,cN]) ?_;rintro x0 σ1 nx1 ⟨rfl,rfl,rfl⟩ _)
 (repeat first |refine sN rfl ?_ |((first|refine sA rfl ?_ ?_|refine s4 rfl ‹_› rfl ?_ ?_);first|exact tI|omega|simp only[oZ] at *;omega) |refine s2 rfl fun _ _hb=>?_ |refine s3 rfl ?_ ?_<;>rintro rfl |refine aU rfl ?_ |refine Aa ?_)
 exact aR ⟨_,rfl,[2,4,3],Zi a.al 0 1 l.length a.ac.length,[(0,.cells 62 1 (Be l)),(1,.cells 4 1 (a.ac.map AB)),(2,.sld 3 (sI l))],⟨fun i hi=>absurd hi (Nat.not_lt_zero i),by decide⟩,rfl,by ((repeat' first|exact tI|rfl|refine And.intro ?_ ?_)<;>(simp[cX,zC,hΓ,cN,Bp,Af,eC]<;>rfl)),l,hl,rfl,rfl,rfl⟩
abbrev TR(s:Sys)(i:Nat):List C:=[.d (iD s.al),.d (iD s.st),.arr i 3 0 s.es.length]
theorem Lx(s:Sys)(h:s.es.length≤1048576):AG Tryz.prog TB 16 0 [] 0 [Bt s] (fun x σ nx=>x=.a (TR s 0)∧σ=[(0,.cells 126 3 (s.es.map Az))]∧nx=1):=by
 have c1:=Vr (TB:=TB) s.es h
 refine AG.A1 (AG.Ql (m:=0) (Nat.le_of_ble_eq_true rfl) Tryz.func16 rfl (by kernel_rfl) (Nat.le_of_ble_eq_true rfl) ?_);intro Γ hΓ
 (repeat first |refine sN rfl ?_ |((first|refine sA rfl ?_ ?_|refine s4 rfl ‹_› rfl ?_ ?_);first|exact tI|omega|simp only[oZ] at *;omega) |refine s2 rfl fun _ _hb=>?_ |refine s3 rfl ?_ ?_<;>rintro rfl |refine aU rfl ?_ |refine Aa ?_)
 (refine pW rfl ?_ rfl (by rfl);refine CA [] rfl rfl 0 (c1) (by decide) ⟨rfl,by decide,by decide⟩ rfl (by simp[cX,zC,hΓ,cN]) ?_;rintro x0 σ1 nx1 ⟨rfl,rfl,rfl⟩ _)
 (repeat first |refine sN rfl ?_ |((first|refine sA rfl ?_ ?_|refine s4 rfl ‹_› rfl ?_ ?_);first|exact tI|omega|simp only[oZ] at *;omega) |refine s2 rfl fun _ _hb=>?_ |refine s3 rfl ?_ ?_<;>rintro rfl |refine aU rfl ?_ |refine Aa ?_)
 exact aR ⟨_,rfl,[2],.a (TR s 0),[(0,.cells 126 3 (s.es.map Az))],⟨fun i hi=>absurd hi (Nat.not_lt_zero i),by decide⟩,rfl,by ((repeat' first|exact tI|rfl|refine And.intro ?_ ?_)<;>(simp[cX,zC,hΓ,cN,Bp,Af,eC]<;>rfl)),rfl,rfl,rfl⟩
end Go.Am
namespace Go.Am
open Go
set_option linter.unusedVariables false
def FK{α:Type}(f:Nat→α)(l:List α)(i:Nat):List α:=(List.range i).map f++l.drop i
section
variable {α:Type}{f:Nat→α}{l:List α}{i:Nat}
theorem Sw:FK f l 0=l:=by simp [FK]
theorem KZ:FK f l l.length=(List.range l.length).map f:=by simp [FK]
theorem Us(h:i≤l.length):(FK f l i).length=l.length:=by simp [FK];omega
theorem K1{x:α}(h:l[i]? = some x):(FK f l i)[i]? = some x:=by
 unfold FK
 rw [List.getElem?_append_right (by simp)]
 simp [h]
theorem K2{x:α}(h:l[i]? = some x):(FK f l i).set i (f i)=FK f l (i+1):=by
 have hi:=(List.getElem?_eq_some_iff.1 h).1
 unfold FK
 rw [List.set_append_right _ _ (by simp)]
 have e:l.drop i=x::l.drop (i+1):=by
  rw [List.drop_eq_getElem_cons hi]
  congr 1
  rw [List.getElem?_eq_getElem hi] at h
  injection h
 rw [e]
 simp [List.range_succ]
end
theorem XS{α:Type}{l:List α}{k:Nat}{x d:α}(h:l[k]? = some x):l.getD k d=x:=by rw [List.getD_eq_getElem?_getD,h];rfl
def QX(k:Int)(n:Nat):List Int:=(List.range n).map fun i:Nat=>k+i
def IE(k:Int)(n:Nat):List Bool:=(List.range n).map fun i:Nat=>decide ((k+i) % 3=0)
def kc(k:Int)(n:Nat):List EO:=(List.range n).map fun i:Nat=>⟨k+3*i,k+3*i+1,k+3*i+2⟩
def Cr(ns:List Nat)(i:Nat):Nat:=(ns.take i).sum
def Kf(k:Int)(ns:List Nat):List (List Int):=(List.range ns.length).map fun i:Nat=>QX (k+Cr ns i) (ns.getD i 0)
theorem X7(k:Int)(n:Nat):(QX k n).length=n:=by simp [QX]
theorem OX(k:Int)(n:Nat):(IE k n).length=n:=by simp [IE]
theorem Uu(k:Int)(ns:List Nat):(Kf k ns).length=ns.length:=by simp [Kf]
theorem Mt{α:Type}{f:Nat→α}{n i:Nat}(h:i < n):((List.range n).map f)[i]? = some (f i):=by simp [h]
theorem Px{ns:List Nat}{i n:Nat}(h:ns[i]? = some n):Cr ns (i+1)=Cr ns i+n:=by
 unfold Cr
 rw [List.take_add_one,h];simp
theorem Pw:∀(ns:List Nat) (i:Nat),Cr ns i≤ns.sum
 | [],i=>by simp [Cr]
 | n::ns,0=>by simp [Cr]
 | n::ns,i+1=>by
  have:=Pw ns i
  unfold Cr at *
  simp;omega
theorem RB(ns:List Nat):Cr ns ns.length=ns.sum:=by simp [Cr]
end Go.Am
namespace Go.Am
open Go Go.Proofs
set_option maxHeartbeats 1000000
attribute [local irreducible] AQ BS Lex Bc Av Spec
variable {TB:Bs}
def H0(A:W→Bool)(al:Int)(t:AT):Option AT:=if AY A al t then Bd A (A0 al) 13 t else none
def Lr(A:W→Bool)(al:Int)(t:AT)(w:W):Option AT:=(Fa A al t w).bind fun v=>(Of A al t v).bind fun u=>H0 A al u
theorem WZ{A:W→Bool}{al:Int}{t:AT}{w v:W}(h:Fa A al t w=some v):v.length≤w.length:=by
 unfold Fa at h
 split at h
 ·obtain⟨p,_,rfl⟩:=It h
  simp
 ·cases h
theorem dX{A:W→Bool}{al:Int}{t u:AT}{w:W}(h:Of A al t w=some u):VC u:=by
 unfold Of at h
 split at h
 ·rename_i hv
  rw [Bool.and_eq_true] at hv
  have hsh:=(EN hv.1).1
  have hw:=OL hv.2
  unfold Fq at h
  split at h
  ·cases h
  ·injection h with h
   subst h
   have hz:=hsh.sz
   have hcl:=hsh.cl
   refine⟨hz.rl,by simp;omega,hz.rb,fun x hx=>?_⟩
   rcases List.mem_append.1 hx with hx|hx
   ·exact hz.cb x hx
   ·simp at hx;subst hx;omega
 ·cases h
theorem Qf{t:Ex}{al:Int}{A:W→Bool}(hT:JU Tryz.prog TB 120 175 t al A)(hal:0≤al→A2 al=true)(tab:AT)(hz:VC tab)(w:W)(hw:w.length≤1048576) :
 Pure Tryz.prog TB 73 [Ew t,DO tab,eT w] (Iv (Lr A al tab w)):=by
 have h1:=Qp hT hal tab hz w hw
 rcases hs:Fa A al tab w with _|v
 ·have hn:Lr A al tab w=none:=by unfold Lr;rw [hs];rfl
  rw [hn]
  rw [hs] at h1
  refine eG Tryz.func73 rfl (by kernel_rfl) rfl ?_;intro Γ hΓ
  (repeat' first|refine tA rfl ?_ |(refine s2 rfl fun _ _hb=>?_;try (simp only[Bool.not_true,Bool.not_false] at _hb;subst _hb)) |refine sP rfl (h1) rfl ?_|(refine Ai rfl ?_;refine gA rfl ?_;first| refine gS (fun _ _=>AU rfl rfl (by rfl) (by rfl)) ?_) |refine aU rfl ?_ |refine Aa ?_|(refine aC rfl ?_ ?_<;>rintro⟨⟩)|refine aK ?_|refine aE ?_|refine aB ?_|refine aR ⟨_,rfl,?_⟩)
  all_goals rfl
 ·rw [hs] at h1
  have hv:=WZ hs
  have h2:=PV hT tab hz v (by omega)
  rcases ha:Of A al tab v with _|u
  ·have hn:Lr A al tab w=none:=by unfold Lr;rw [hs];simp [ha]
   rw [hn]
   rw [ha] at h2
   refine eG Tryz.func73 rfl (by kernel_rfl) rfl ?_;intro Γ hΓ
   (repeat' first|refine tA rfl ?_ |(refine s2 rfl fun _ _hb=>?_;try (simp only[Bool.not_true,Bool.not_false] at _hb;subst _hb)) |refine sP rfl (h1) rfl ?_|refine sP rfl (h2) rfl ?_|(refine Ai rfl ?_;refine gA rfl ?_;first| refine gS (fun _ _=>AU rfl rfl (by rfl) (by rfl)) ?_) |refine aU rfl ?_ |refine Aa ?_|(refine aC rfl ?_ ?_<;>rintro⟨⟩)|refine aK ?_|refine aE ?_|refine aB ?_|refine aR ⟨_,rfl,?_⟩)
   all_goals rfl
  ·have hn:Lr A al tab w=H0 A al u:=by unfold Lr;rw [hs];simp [ha]
   rw [hn]
   rw [ha] at h2
   have h3:Pure Tryz.prog TB 118 [Ew t,DO u] (Iv (H0 A al u)):=IQ hT u (dX ha)
   rcases hc:H0 A al u with _|x<;>rw [hc] at h3<;>(
    refine eG Tryz.func73 rfl (by kernel_rfl) rfl ?_;intro Γ hΓ
    (repeat' first|refine tA rfl ?_ |(refine s2 rfl fun _ _hb=>?_;try (simp only[Bool.not_true,Bool.not_false] at _hb;subst _hb)) |refine sP rfl (h1) rfl ?_|refine sP rfl (h2) rfl ?_|refine sP rfl (h3) rfl ?_|(refine Ai rfl ?_;refine gA rfl ?_;first| refine gS (fun _ _=>AU rfl rfl (by rfl) (by rfl)) ?_) |refine aU rfl ?_ |refine Aa ?_|(refine aC rfl ?_ ?_<;>rintro⟨⟩)|refine aK ?_|refine aE ?_|refine aB ?_|refine aR ⟨_,rfl,?_⟩)
    all_goals rfl)
end Go.Am
namespace Go.Am
open Go
set_option linter.unusedVariables false
theorem aO{p:AZ}(hp:AL p=true):Tp (PU p) (LA p) p.al:=fun w hw hl=>by
 unfold PU
 rw [hp,Gx hw hl (AF hp).1];rfl
theorem aQ{A L:W→Bool}{al:Int}{b:Nat}{t:AT}(h:Tp A L al)(ht:GN al b t)(hb:b≤20100)(hk:BQ L (A0 al) t){w:W}(hw:AM (A0 al) w):Nt A t w=Nt L t w:=by
 rw [←RN (hk.lD h ht hb) hw,←RN hk hw,TG h ht hb]
theorem WY{A L:W→Bool}{al:Int}{b:Nat}{t:AT}(h:Tp A L al)(ht:GN al b t)(hb:b≤20100)(hk:BQ L (A0 al) t){w:W}(hw:AM (A0 al) w)(hl:w.length≤20000):Cz A t w=Cz L t w:=by
 have h0:0 < t.rows.length:=(List.getElem?_eq_some_iff.1 hk.r0).1
 unfold Cz
 rw [aQ h ht hb hk hw,h w hw (by omega),Ng h ht hb hk (L w) w 0 h0 hw hl]
end Go.Am
namespace Go.Am
open Go Go.Proofs
set_option maxHeartbeats 1000000
attribute [local irreducible] AQ BS Lex Bc Av Spec
variable {TB:Bs}
noncomputable def Fc(te:Ex)(w:W):Bool:=if te.kn then PU te.p w else JT ⟨te.s,te.q,te.al⟩ w
def D0(te:Ex):Int:=if CM te then A5 te else -1
theorem Ry{t:CB}(ht:A6 t=true):Tp (JT t) (LS t) t.al:=fun w hw hl=>by
 have hta:A2 t.al=true:=by unfold A6 at ht;simp only [Bool.and_eq_true] at ht;exact ht.2.2
 unfold JT
 rw [ht,Gx hw hl hta];rfl
theorem HR{te:Ex}(hok:CM te=true):Tp (Fc te) (Cv te) (A5 te):=by
 obtain⟨kn,p,s,q,al⟩:=te
 cases kn with
 | true=>exact aO hok
 | false=>exact Ry (t:=⟨s,q,al⟩) hok
theorem aq{A:W→Bool}{t:AT}:AY A (-1) t=false:=by
 cases h:AY A (-1) t
 ·rfl
 ·have:=(EN h).1.pos;omega
theorem Xk{A L:W→Bool}{al:Int}(h:Tp A L al)(t:AT):AY A al t=AY L al t:=by
 unfold AY
 cases hs:FO al t
 ·rfl
 ·rw [HM h (UX hs).bd (by omega)]
theorem Dw(te:Ex)(x:AT):(CM te && AY (Cv te) (A5 te) x)=AY (Fc te) (D0 te) x:=by
 unfold D0
 cases hok:CM te
 ·simp [aq]
 ·rw [if_pos rfl,Bool.true_and,Xk (HR hok)]
theorem Dk{te:Ex}{x:AT}(h:AY (Fc te) (D0 te) x=true):CM te=true∧D0 te=A5 te∧AY (Cv te) (A5 te) x=true∧aN (A5 te) x∧(AE (Cv te) x).Nodup:=by
 rw [←Dw,Bool.and_eq_true] at h
 exact⟨h.1,by unfold D0;rw [if_pos h.1],h.2,(EN h.2).1,(EN h.2).2⟩
theorem XW{al:Int}(ha:A2 al=true){w:W}(h:AM (A0 al) w)(hl:w.length≤4000):FX al w=true:=by
 unfold FX
 rw [Gx h (by omega) ha,decide_eq_true hl];rfl
theorem bU{L:W→Bool}{x:AT}(h:(AE L x).Nodup){i k:Nat}{u w:W}(hi:x.rows[i]? = some u)(hk:x.rows[k]? = some w)(hne:k < i):marks L x.cols u≠marks L x.cols w:=by
 intro he
 have h1:(AE L x)[i]? = some (marks L x.cols u):=by unfold AE;simp [hi]
 have h2:(AE L x)[k]? = some (marks L x.cols u):=by unfold AE;simp [hk,he]
 obtain⟨a1,a2⟩:=List.getElem?_eq_some_iff.1 h1
 obtain⟨b1,b2⟩:=List.getElem?_eq_some_iff.1 h2
 exact List.pairwise_iff_getElem.1 h k i b1 a1 hne (by rw [a2,b2])
theorem On{L:W→Bool}{ls:List UInt8}:∀ {n:Nat} {t u:AT},TOk L ls t→Bd L ls n t=some u→TOk L ls u∧A8 L ls u=none∧t.rows <+: u.rows∧u.cols=t.cols∧(t.rows.length≤12→u.rows.length≤12)∧(A8 L ls t≠none→t.rows.length < u.rows.length)∧(A8 L ls t=none→u=t)
 | 0,t,u,_,h=>by simp [Bd] at h
 | n + 1,t,u,hk,h=>by
  unfold Bd at h
  cases ho:A8 L ls t with
  | none=>
   rw [ho] at h
   injection h with h;subst h
   exact⟨hk,ho,List.prefix_refl _,rfl,id,fun h=>absurd rfl h,fun _=>rfl⟩
  | some w=>
   rw [ho] at h
   dsimp only at h
   split at h
   ·cases h
   ·rename_i hn
    obtain⟨h1,h2,h3,h4,h5,h6,h7⟩:=On (hk.push ho) h
    have hp:=(List.prefix_append t.rows [w]).trans h3
    refine⟨h1,h2,hp,h4,fun h=>h5 (by simp;omega),fun _=>?_,fun h=>by cases h⟩
    have:=h3.length_le
    simp at this;omega
theorem en{te:Ex}{x u:AT}(h:AY (Fc te) (D0 te) x=true)(hc:Hj te x=some u):AY (Fc te) (D0 te) u=true∧A8 (Cv te) (A0 (A5 te)) u=none∧x.rows <+: u.rows∧u.cols=x.cols∧(A8 (Cv te) (A0 (A5 te)) x≠none→x.rows.length < u.rows.length)∧(A8 (Cv te) (A0 (A5 te)) x=none→u=x):=by
 obtain⟨h1,h2,h3,h4,h5⟩:=Dk h
 unfold Hj at hc
 rw [h1,h3,Bool.true_and,if_pos rfl] at hc
 obtain⟨k1,k2,k3,k4,k5,k6,k7⟩:=On (Iu h3) hc
 refine⟨?_,k2,k3,k4,k6,k7⟩
 rw [←Dw,h1,Bool.true_and]
 have hl:=k5 h4.rl
 refine JF (HS h1) h4.pos k1 hl (by rw [k4];exact h4.cl) (fun w hw=>?_) (fun w hw=>by rw [k4] at hw;exact(h4.cw w hw).1)
 obtain⟨i,hi,he⟩:=List.getElem_of_mem hw
 have:=k1.short i w (by rw [List.getElem?_eq_getElem hi,he])
 omega
theorem TM(te:Ex)(x:AT):(if AY (Fc te) (D0 te) x then Bd (Fc te) (A0 (D0 te)) 13 x else none)=Hj te x:=by
 unfold Hj
 rw [Dw]
 by_cases hv:AY (Fc te) (D0 te) x=true
 ·obtain⟨h1,h2,h3,h4,h5⟩:=Dk hv
  rw [hv,h2,if_pos rfl,if_pos rfl]
  exact Om (HR h1) 13 h4.bd (by omega)
 ·rw [Bool.not_eq_true] at hv;rw [hv,if_neg Bool.false_ne_true,if_neg Bool.false_ne_true]
theorem QA{te:Ex}{x:AT}(h:AY (Fc te) (D0 te) x=true):(CM te && Bw (Cv te) (A5 te) x)=(A8 (Cv te) (A0 (A5 te)) x).isNone:=by
 obtain⟨h1,h2,h3,h4,h5⟩:=Dk h
 rw [h1,C9,h3];rfl
def XP(al n:Int):List EO→Ab
 | []=>[(1,.cells 25 3 [[.d (iD al),.d (iD n),.d (.v (.slice none 0 0))]])]
 | e::l=>[(1,.cells 25 3 [[.d (iD al),.d (iD n),.arr 2 3 0 (l.length+1)]]),(2,.cells 126 3 ((e::l).map Az))]
def JS(m n:Nat):Nat:=(List.range n).countP (m.testBit ·)
theorem Pa(m n:Nat):JS m (n+1)=if m.testBit n then JS m n+1 else JS m n:=by
 unfold JS
 rw [List.range_succ,List.countP_append]
 cases h:m.testBit n<;>simp [h]
theorem c7(m n:Nat):JS m n≤n:=by
 unfold JS
 have:=List.countP_le_length (p:=(m.testBit ·)) (l:=List.range n)
 rwa [List.length_range] at this
theorem Mk(m:Nat)(hm:m < 2 ^ 62)(n:Nat)(hn:n≤60):Pure Tryz.prog TB 169 [eI .i64 (m:Nat),eI .i64 (n:Nat)] (eI .i64 (JS m n:Nat)):=by
 refine eG Tryz.func169 rfl (by kernel_rfl) rfl ?_;intro Γ hΓ
 (repeat first|refine tA rfl ?_ |refine aU rfl ?_ |refine Aa ?_)
 refine aB ?_
 refine aL (α:={k:Nat // k≤n}) [0,1] [] rfl rfl (fun ⟨k,hk⟩=>[(5,eI .i64 (JS m k:Nat)),(6,eI .i64 k)]) (fun ⟨k,hk⟩=>[]) 0 (fun ⟨k,hk⟩=>n - k) (⟨0,by omega⟩) hΓ rfl (by (simp[cX,zC,hΓ]<;>rfl)) ?_;rintro⟨k,hk⟩;(try dsimp only[cA,cB])
 by_cases hlt:k < n
 ·have hr:=c7 m k
  have hs:=Pa m k
  have hh:=CT (TB:=TB) (m:Nat) (k:Int) (by omega) (by omega)
  rw [C4 hm (by omega)] at hh
  (repeat first|refine tA rfl ?_ |refine s2 rfl fun _ _hb=>?_ |refine aU rfl ?_ |refine Aa ?_)
  ((refine aC rfl ?_ ?_<;>rintro⟨⟩);all_goals try(exfalso;(simp only[oZ] at *;omega)))
  refine aK ?_
  refine aS (aB ?_)
  (repeat first|refine tA rfl ?_ |(refine sC rfl (hh) ?_;intro _ _hb) |refine aU rfl ?_ |refine Aa ?_)
  (refine aC rfl ?_ ?_<;>rintro⟨⟩)
  ·have hb:m.testBit k=true:=by simpa using _hb
   rw [if_pos hb] at hs
   (repeat first|(refine sA rfl ?_ ?_;first|exact tI|omega) |refine aU rfl ?_ |refine Aa ?_)
   refine⟨⟨k+1,by omega⟩,by dsimp only;(omega),[],?_⟩
   simp[cX,zC,hΓ,hs]
  ·have hb:m.testBit k=false:=by simpa using _hb
   rw [if_neg (by simp [hb])] at hs
   refine aK ?_
   (repeat first|(refine sA rfl ?_ ?_;first|exact tI|omega) |refine aU rfl ?_ |refine Aa ?_)
   refine⟨⟨k+1,by omega⟩,by dsimp only;(omega),[],?_⟩
   simp[cX,zC,hΓ,hs]
 ·obtain rfl:k=n:=by omega
  (repeat first|refine tA rfl ?_ |refine s2 rfl fun _ _hb=>?_ |refine aU rfl ?_ |refine Aa ?_)
  ((refine aC rfl ?_ ?_<;>rintro⟨⟩);all_goals try(exfalso;(simp only[oZ] at *;omega)))
  refine aE ?_
  (repeat first|refine tA rfl ?_ |refine aU rfl ?_ |refine Aa ?_)
  (subst_vars;exact aR ⟨_,rfl,rfl⟩)
def eL(al n:Int)(l:List EO):Ab:=(0,.cells 25 3 [[.d (iD 0),.d (iD 0),.d (.l [])]])::XP al n l
theorem Wn(n:Int)(h0:0≤n)(h1:n≤16):Pure Tryz.prog TB 117 [eI .i64 n] (eI .i64 ((2 ^ n.toNat:Nat):Int)):=by
 have hsh:IntKind.i64.wrap (1*2 ^ (min n.toNat IntKind.i64.bits))=((2 ^ n.toNat:Nat):Int):=by
  have e:min n.toNat IntKind.i64.bits=n.toNat:=by
   have:IntKind.i64.bits=64:=rfl
   omega
  rw [e,Int.one_mul]
  have h2:2 ^ n.toNat < 2 ^ 17:=Nat.pow_lt_pow_right (by omega) (by omega)
  have h3:(2:Int) ^ n.toNat=((2 ^ n.toNat:Nat):Int):=by push_cast;rfl
  rw [h3]
  generalize 2 ^ n.toNat=p at *
  exact IntWalk.i64_in _ (by omega)
 refine eN Tryz.func117 rfl (by kernel_rfl) rfl ?_;intro Γ hΓ
 (repeat' first|(refine sA rfl ?_ ?_;first|exact tI|omega)|(refine Ai rfl ?_;refine gA rfl ?_;first| refine gS (fun _ _=>c6 rfl rfl h0 hsh) ?_) |refine aU rfl ?_ |refine Aa ?_|(refine aC rfl ?_ ?_<;>rintro⟨⟩)|refine aK ?_|refine aE ?_|refine aB ?_|refine aR ⟨_,rfl,?_⟩)
 rfl
abbrev mr(r:CB×Bool):E:=.t [(true,(Lv r.1).map .d),(false,[.d (bD r.2)])]
structure mj (r:Sys×AZ×Sys):Prop where
 a:r.1.es.length≤400
 b:gk 41 r.2.1
 c:r.2.2.es.length≤400
theorem gk.upto{m n:Nat}{a:AZ}(h:gk m a)(hm:m≤n):gk n a:=⟨by have:=h.nx;omega,by have:=h.ac;omega,fun r hr=>by have:=h.row r hr;omega⟩
structure ml (t:CB):Prop where
 s:t.s.es.length≤401
 q:gk 60 t.q
structure nj (n m:Nat) (t:AT):Prop where
 rl:t.rows.length≤n
 cl:t.cols.length≤n
 rb:∀w∈t.rows,w.length≤m
 cb:∀w∈t.cols,w.length≤m
section
variable {P:Program}{Γ:Ctx}{d:Option Tmp}{ty:TypeId}{pos:String}{af:Array Edge}{g:Option (Nat×Bool)}{L:List (Nat×E)}{σ:Ab}{nx:Nat}
end
end Go.Am
namespace Go.Am
open Go
set_option linter.unusedVariables false
section
variable {a b:AZ}(ha:AL a=true)(hb:AL b=true)(hal:a.al=b.al)(hL:∀w,AM (A0 a.al) w→LA a w=LA b w)
include ha hb hal hL
end
end Go.Am
namespace Go.Am
open Go Go.Proofs
set_option maxHeartbeats 1000000
attribute [local irreducible] AQ BS Lex Bc Av Spec
variable {TB:Bs}
end Go.Am
namespace Go.Am
open Go
set_option linter.unusedVariables false
end Go.Am
namespace Go.Am
open Go Go.Proofs
set_option maxHeartbeats 1000000
attribute [local irreducible] AQ BS Lex Bc Av Spec
variable {tabs:List (Nat×Obj)}
theorem gX(te:Ex)(x:AT):(if Bw (Fc te) (D0 te) x then some (AR (Fc te) (D0 te) x) else none)=Y8 te x:=by
 rw [C9]
 cases hv:AY (Fc te) (D0 te) x
 ·rw [Bool.false_and,if_neg Bool.false_ne_true]
  unfold Y8
  rw [C9,←Bool.and_assoc,Dw,hv];rfl
 ·obtain⟨h1,h2,h3,h4,h5⟩:=Dk hv
  rw [h2,Mp (HR h1) h4.bd (by omega),TG (HR h1) h4.bd (by omega),Bool.true_and]
  unfold Y8
  rw [C9,h1,h3,Bool.true_and,Bool.true_and]
end Go.Am
namespace Go.Am
open Go Go.Proofs
set_option maxHeartbeats 1000000
attribute [local irreducible] AQ BS Lex Bc Av Spec
variable {TB:Bs}
noncomputable def LO(te:Ex)(x:AT)(w:W):Option AT:=if (CM te && AY (Cv te) (A5 te) x && FX (A5 te) w)=true then Fq x w else none
theorem gM(te:Ex)(x:AT)(w:W):Of (Fc te) (D0 te) x w=LO te x w:=by
 unfold Of LO
 rw [Dw]
 cases hv:AY (Fc te) (D0 te) x
 ·rw [Bool.false_and,Bool.false_and]
 ·rw [(Dk hv).2.1]
section
variable {tabs:List (Nat×Obj)}[hTb:Dl ⟨tabs,none⟩]{te:Ex}
include hTb
end
end Go.Am
namespace Go.Am
open Go Go.Proofs
set_option maxHeartbeats 1000000
attribute [local irreducible] AQ BS Lex Bc Av Spec
variable {tabs:List (Nat×Obj)}
theorem eM{al:Int}{w:W}(h:FX al w=true):AM (A0 al) w∧w.length≤4000:=by
 unfold FX at h
 rw [Bool.and_eq_true,decide_eq_true_eq] at h
 exact⟨Eo h.1,h.2⟩
theorem WA{L:W→Bool}{cols:List W}{c w:W}:marks L (cols++[c]) w=marks L cols w++[QW (L (w++c))]:=by simp [marks]
theorem VJ{te:Ex}{x u:AT}{w:W}(h:LO te x w=some u):AY (Fc te) (D0 te) x=true∧AM (A0 (A5 te)) w∧w.length≤4000∧u=⟨x.rows,x.cols++[w]⟩∧AY (Fc te) (D0 te) u=true∧LO te u w=none:=by
 unfold LO at h
 by_cases hc:(CM te && AY (Cv te) (A5 te) x && FX (A5 te) w)=true
 ·rw [if_pos hc] at h
  rw [Dw,Bool.and_eq_true] at hc
  obtain⟨hv,hl⟩:=hc
  obtain⟨f1,f2⟩:=eM hl
  obtain⟨h1,h2,h3,h4,h5⟩:=Dk hv
  unfold Fq at h
  split at h
  ·cases h
  rename_i hn
  injection h with h
  subst h
  rw [not_or] at hn
  have hk:=Iu h3
  have hcl:=h4.cl
  have hc1:=h4.c1
  refine⟨hv,f1,f2,rfl,?_,?_⟩
  ·rw [←Dw,h1,Bool.true_and]
   refine JF (HS h1) h4.pos ⟨hk.r0,by rw [List.getElem?_append_left (by omega)];exact hk.c0,hk.pre,hk.onR,fun c hc=>?_,?_,?_⟩ h4.rl (by simp;omega) (fun r hr=>(h4.rw r hr).1) (fun c hc=>?_)
   ·rcases List.mem_append.1 hc with hc|hc
    ·exact hk.onC c hc
    ·simp at hc;subst hc;exact f1
   ·have e:(AE (Cv te) ⟨x.rows,x.cols++[w]⟩).map List.dropLast=AE (Cv te) x:=by
     unfold AE
     rw [List.map_map]
     exact List.map_congr_left fun r _=>by simp [Function.comp_def,WA]
    rw [←e] at h5
    exact(List.pairwise_map.1 h5).imp fun h e=>h (by rw [e])
   ·exact List.nodup_append.2 ⟨hk.ndC,by simp,fun a ha b hb=>by simp at hb;subst hb;exact fun e=>hn.2 (e ▸ ha)⟩
   ·rcases List.mem_append.1 hc with hc|hc
    ·exact(h4.cw c hc).1
    ·simp at hc;subst hc;exact f2
  ·unfold LO Fq
   split
   ·rw [if_pos (.inr (by simp))]
   ·rfl
 ·rw [if_neg hc] at h;cases h
end Go.Am
namespace Go.Am
open Go Go.Proofs
set_option maxHeartbeats 1000000
attribute [local irreducible] AQ BS Lex Bc Av Spec
variable {TB:Bs}
noncomputable def GK(te:Ex)(x:AT)(w:W):Option W:=if (CM te && Bw (Cv te) (A5 te) x && FX (A5 te) w)=true then Cz (Cv te) x w else none
noncomputable def Lq(te:Ex)(x:AT)(w:W):Option AT:=if (CM te && Bw (Cv te) (A5 te) x && FX (A5 te) w)=true then GL (Cv te) (A0 (A5 te)) x w else none
section
variable {tabs:List (Nat×Obj)}[hTb:Dl ⟨tabs,none⟩]{te:Ex}
include hTb
end
end Go.Am
namespace Go.Am
open Go Go.Proofs
set_option maxHeartbeats 1000000
attribute [local irreducible] AQ BS Lex Bc Av Spec
theorem bq(te:Ex)(x:AT):Bw (Fc te) (D0 te) x=(CM te && Bw (Cv te) (A5 te) x):=by
 rw [C9,C9,←Bool.and_assoc,Dw]
 cases hv:AY (Fc te) (D0 te) x
 ·rw [Bool.false_and,Bool.false_and]
 ·obtain⟨h1,h2,h3,h4,h5⟩:=Dk hv
  rw [h2,Mp (HR h1) h4.bd (by omega)]
theorem Oo{te:Ex}{x:AT}(h:(CM te && Bw (Cv te) (A5 te) x)=true):AY (Fc te) (D0 te) x=true∧A8 (Cv te) (A0 (A5 te)) x=none∧BQ (Cv te) (A0 (A5 te)) x:=by
 rw [Bool.and_eq_true] at h
 obtain⟨c1,c2,c3⟩:=LU h.2
 exact⟨by rw [←Dw,h.1,c1];rfl,c2,c3⟩
theorem dD(te:Ex)(x:AT)(w:W):Fa (Fc te) (D0 te) x w=GK te x w:=by
 unfold Fa GK
 rw [bq]
 cases hc:(CM te && Bw (Cv te) (A5 te) x)
 ·rw [Bool.false_and,Bool.false_and,if_neg Bool.false_ne_true,if_neg Bool.false_ne_true]
 ·obtain⟨hv,ho,hcl⟩:=Oo hc
  obtain⟨h1,h2,h3,h4,h5⟩:=Dk hv
  rw [h2,Bool.true_and]
  by_cases hl:FX (A5 te) w=true
  ·obtain⟨f1,f2,_⟩:=OL hl
   rw [if_pos hl,if_pos hl,WY (HR h1) h4.bd (by omega) hcl f1 (by omega)]
  ·rw [if_neg hl,if_neg hl]
theorem U0{te:Ex}{x:AT}{w v:W}(h:GK te x w=some v):(CM te && Bw (Cv te) (A5 te) x)=true∧AM (A0 (A5 te)) w∧w.length≤4000∧Nt (Cv te) x w≠Cv te w∧splitAt (Cv te) x (Cv te w) 0 w=some v∧Split (Cv te) (A0 (A5 te)) x w v:=by
 unfold GK at h
 by_cases hc:(CM te && Bw (Cv te) (A5 te) x && FX (A5 te) w)=true
 ·rw [if_pos hc] at h
  rw [Bool.and_eq_true] at hc
  obtain⟨hc,hl⟩:=hc
  obtain⟨hv,ho,hcl⟩:=Oo hc
  obtain⟨f1,f2,_⟩:=OL hl
  unfold Cz at h
  by_cases ha:Nt (Cv te) x w=Cv te w
  ·rw [if_pos ha] at h;cases h
  ·rw [if_neg ha] at h
   obtain⟨v',e,hs⟩:=U8 hcl (Cv te w) w 0 [] f1 hcl.r0 rfl ha
   rw [e] at h
   injection h with h;subst h
   exact⟨hc,f1,f2,ha,e,hs⟩
 ·rw [if_neg hc] at h;cases h
theorem Vj(te:Ex)(x:AT)(w:W):Lq te x w=(GK te x w).bind fun v=>(LO te x v).bind fun u=>Hj te u:=by
 unfold Lq
 cases hs:GK te x w with
 | none=>
  unfold GK at hs
  split
  ·rename_i hc
   rw [if_pos hc] at hs
   unfold GL
   rw [hs];rfl
  ·rfl
 | some v=>
  obtain⟨hc,f1,f2,ha,e,hsp⟩:=U0 hs
  have hc2:(CM te && Bw (Cv te) (A5 te) x && FX (A5 te) w)=true:=by
   unfold GK at hs
   split at hs
   ·assumption
   ·cases hs
  rw [if_pos hc2]
  obtain⟨hv,ho,hcl⟩:=Oo hc
  obtain⟨h1,h2,h3,h4,h5⟩:=Dk hv
  unfold GL Cz
  rw [if_neg ha,e]
  show (Fq x v).bind _=(LO te x v).bind _
  obtain⟨p,_,hp⟩:=hsp.suf
  have hlv:FX (A5 te) v=true:=XW (HS h1) (fun c hc=>f1 c (by rw [hp];simp [hc])) (by rw [hp] at f2;simp at f2;omega)
  have hao:LO te x v=Fq x v:=by unfold LO;rw [Dw,hv,hlv];rfl
  rw [hao]
  cases hu:Fq x v with
  | none=>rfl
  | some u=>
   obtain⟨_,_,_,_,hvu,_⟩:=VJ (hao.trans hu)
   obtain⟨u1,u2,u3,u4,u5⟩:=Dk hvu
   show Bd _ _ 13 u=Hj te u
   unfold Hj
   rw [u1,u3];rfl
theorem fS(te:Ex)(x:AT)(w:W):Lr (Fc te) (D0 te) x w=Lq te x w:=by
 rw [Vj]
 unfold Lr
 rw [dD]
 congr 1
 funext v
 rw [gM]
 congr 1
 funext u
 exact TM te u
theorem U9{te:Ex}{x u:AT}{w v:W}(h:GK te x w=some v)(ha:LO te x v=some u):A8 (Cv te) (A0 (A5 te)) u≠none:=by
 obtain⟨hc,f1,f2,hn,e,hsp⟩:=U0 h
 obtain⟨_,_,_,rfl,_,_⟩:=VJ ha
 obtain⟨r,hr,c,hcl,hm⟩:=hsp.opens
 exact fk (t:=⟨x.rows,x.cols++[v]⟩) hr hcl hm
theorem je{te:Ex}{x y:AT}{w:W}(h:Lq te x w=some y):(GK te x w).isSome=true∧AY (Fc te) (D0 te) x=true∧AY (Fc te) (D0 te) y=true∧A8 (Cv te) (A0 (A5 te)) y=none∧x.rows <+: y.rows∧x.rows.length < y.rows.length∧∃v,y.cols=x.cols++[v]:=by
 rw [Vj] at h
 cases hs:GK te x w with
 | none=>rw [hs] at h;cases h
 | some v=>
  rw [hs] at h
  have h:(LO te x v).bind (fun u=>Hj te u)=some y:=h
  cases ha:LO te x v with
  | none=>rw [ha] at h;cases h
  | some u=>
   rw [ha] at h
   have h:Hj te u=some y:=h
   have hop:=U9 hs ha
   obtain⟨hv,_,_,rfl,hvu,_⟩:=VJ ha
   obtain⟨k1,k2,k3,k4,k5,k6⟩:=en hvu h
   exact⟨rfl,hv,k1,k2,k3,k5 hop,v,k4⟩
end Go.Am
