/-
  Copies and comparisons of the law's arguments.
-/
import Derived.Test.YtbfgijpfhgmepaaGreatDoorPart14
import Derived.Test.YtbfgijpfhgmepaaGreatDoorPart9
import Derived.Test.YtbfgijpfhgmepaaGreatDoorPart5
import Derived.Test.YtbfgijpfhgmepaaGreatDoorPart6
set_option linter.constructorNameAsVariable false
set_option linter.unusedSectionVars false
set_option linter.unusedSimpArgs false
set_option linter.unusedVariables false
namespace Go.Am
open Go Go.Proofs
set_option maxHeartbeats 1000000
attribute [local irreducible] AQ BS Lex Bc Av Spec
variable {TB:Bs}
def CX{α:Type}(l:List α)(z:α)(k:Nat):List α:=l.take k++List.replicate (l.length - k) z
theorem Ke{α:Type}(l:List α)(z:α):CX l z 0=List.replicate l.length z:=by simp [CX]
theorem Gy{α:Type}(l:List α)(z:α):CX l z l.length=l:=by simp [CX]
theorem Gz{α:Type}{l:List α}{z:α}{k:Nat}(h:k < l.length):(CX l z k)[0+((k:Nat):Int).toNat]? = some z:=by
 rw [Nat.zero_add,Int.toNat_natCast]
 unfold CX
 rw [List.getElem?_append_right (by simp;omega)]
 have:0 < l.length - k:=by omega
 have e:k - (l.take k).length=0:=by simp;omega
 rw [e,List.getElem?_replicate,if_pos this]
theorem GB{α:Type}{l:List α}{z x:α}{k:Nat}(h:l[k]? = some x):(CX l z k).set (0+((k:Nat):Int).toNat) x=CX l z (k+1):=by
 have hk:=(List.getElem?_eq_some_iff.1 h).1
 rw [Nat.zero_add,Int.toNat_natCast]
 unfold CX
 rw [List.set_append_right _ _ (by simp;omega)]
 have e1:k - (l.take k).length=0:=by simp;omega
 have e2:l.length - k=(l.length - (k+1))+1:=by omega
 rw [e1,e2,List.replicate_succ,List.set_cons_zero,List.take_add_one,h]
 simp
theorem GA{l:List (List C)}{z:List C}{k:Nat}{r:Nat→Nat}(hl:∀x∈l,C.BC r x=x)(hz:C.BC r z=z):(CX l z k).map (C.BC r)=CX l z k:=by
 unfold CX
 rw [List.map_append,List.map_replicate,hz]
 congr 1
 refine(List.map_congr_left fun x hx=>?_).trans (List.map_id _)
 exact hl x (List.mem_of_mem_take hx)
theorem ak(l:List Int)(h:l.length≤1048576):Pure Tryz.prog TB 87 [Ag l] (Ag l):=by
 have hren:∀(r:Nat→Nat) k,(CX (l.map Al) (Al 0) k).map (C.BC r)=CX (l.map Al) (Al 0) k:=fun r k=>GA (fun x hx=>by obtain⟨y,_,rfl⟩:=List.mem_map.1 hx;rfl) rfl
 have hlm:(l.map Al).length=l.length:=by simp
 refine eN Tryz.func87 rfl (by kernel_rfl) rfl ?_;intro Γ hΓ
 (repeat first |refine sN rfl ?_ |((first|refine sM rfl ?_ ?_|refine s4 rfl ‹_› rfl ?_ ?_);first|exact tI|omega|simp only[oZ] at *;omega) |refine s2 rfl fun _ _hb=>?_ |refine s3 rfl ?_ ?_<;>rintro rfl |refine aU rfl ?_ |refine Aa ?_ |refine rE (by kernel_rfl) ?_)
 (refine Ai rfl ?_;refine Bx (fun _ _=>Bn rfl) rfl ?_)
 (repeat first |refine sN rfl ?_ |((first|refine sM rfl ?_ ?_|refine s4 rfl ‹_› rfl ?_ ?_);first|exact tI|omega|simp only[oZ] at *;omega) |refine s2 rfl fun _ _hb=>?_ |refine s3 rfl ?_ ?_<;>rintro rfl |refine aU rfl ?_ |refine Aa ?_ |refine rE (by kernel_rfl) ?_)
 (refine pW rfl ?_ rfl (by rfl);refine Ej rfl rfl (by rfl) (by rfl) (Nat.le_of_ble_eq_true rfl) (by omega) (by omega) (by omega) ?_)
 (repeat first |refine sN rfl ?_ |((first|refine sM rfl ?_ ?_|refine s4 rfl ‹_› rfl ?_ ?_);first|exact tI|omega|simp only[oZ] at *;omega) |refine s2 rfl fun _ _hb=>?_ |refine s3 rfl ?_ ?_<;>rintro rfl |refine aU rfl ?_ |refine Aa ?_ |refine rE (by kernel_rfl) ?_)
 refine aB ?_
 refine Av.AO (α:={k:Nat // k≤l.length}) (fun ⟨k,hk⟩=>[(0,Ag l),(3,.o (.arr 0 1 0 l.length)),(4,eI .i64 k)]) (fun ⟨k,hk⟩=>[(0,.cells 3 1 (CX (l.map Al) (Al 0) k))]) 1 (fun ⟨k,hk⟩=>l.length - k) (⟨0,by omega⟩) [0] (Dd hΓ rfl rfl) (by ((repeat' first|exact tI|rfl|refine And.intro ?_ ?_)<;>(simp[cX,zC,hΓ,Ke,hren]))) ?_;rintro⟨k,hk⟩;(try dsimp only)
 (repeat first |refine sN rfl ?_ |((first|refine sM rfl ?_ ?_|refine s4 rfl ‹_› rfl ?_ ?_);first|exact tI|omega|simp only[oZ] at *;omega) |refine s2 rfl fun _ _hb=>?_ |refine s3 rfl ?_ ?_<;>rintro rfl |refine aU rfl ?_ |refine Aa ?_ |refine rE (by kernel_rfl) ?_)
 (refine aC rfl ?_ ?_<;>rintro⟨⟩)
 ·obtain⟨x,hx⟩:=get_some (l:=l) (k:=k) (by first|omega|simp only[oZ] at *;omega)
  have hx':=get_map (g:=Bk) hx
  have hg:=Gz (l:=l.map Al) (z:=Al 0) (k:=k) (by first|omega|simp only[oZ] at *;omega)
  have hs:=GB (l:=l.map Al) (z:=Al 0) (k:=k) (x:=Al x) (by simp [hx])
  refine aK ?_
  refine aS (aB ?_)
  (repeat first |refine sN rfl ?_ |((first|refine sM rfl ?_ ?_|refine s4 rfl ‹_› rfl ?_ ?_);first|exact tI|omega|simp only[oZ] at *;omega) |refine s2 rfl fun _ _hb=>?_ |refine s3 rfl ?_ ?_<;>rintro rfl |refine aU rfl ?_ |refine Aa ?_ |refine rE (by kernel_rfl) ?_)
  refine⟨⟨k+1,by first|omega|simp only[oZ] at *;omega⟩,by dsimp only;(first|omega|simp only[oZ] at *;omega),[0],?_⟩
  have hsp:Af (Al 0) 0 (eC (eI .i64 x))=Al x:=rfl
  rw [hsp,hs]
  simp[cX,zC,hΓ,hren]
 ·obtain rfl:k=l.length:=by first|omega|simp only[oZ] at *;omega
  have he:CX (l.map Al) (Al 0) l.length=l.map Al:=by
   have:=Gy (l.map Al) (Al 0)
   rwa [hlm] at this
  rw [he]
  refine aE ?_
  (repeat first |refine sN rfl ?_ |((first|refine sM rfl ?_ ?_|refine s4 rfl ‹_› rfl ?_ ?_);first|exact tI|omega|simp only[oZ] at *;omega) |refine s2 rfl fun _ _hb=>?_ |refine s3 rfl ?_ ?_<;>rintro rfl |refine aU rfl ?_ |refine Aa ?_ |refine rE (by kernel_rfl) ?_)
  refine Av.freeze [0] [(2,Ag l)] ⟨⟨_,rfl,.o (.full (by simp) rfl (by simp [Function.comp_def]) (by simp))⟩,trivial⟩ ?_
  refine aR ⟨_,rfl,rfl⟩
theorem Xe(l:List Bool)(h:l.length≤1048576):Pure Tryz.prog TB 46 [EC l] (EC l):=by
 have hren:∀(r:Nat→Nat) k,(CX (l.map AB) ((AB false)) k).map (C.BC r)=CX (l.map AB) ((AB false)) k:=fun r k=>GA (fun x hx=>by obtain⟨y,_,rfl⟩:=List.mem_map.1 hx;rfl) rfl
 have hlm:(l.map AB).length=l.length:=by simp
 refine eN Tryz.func46 rfl (by kernel_rfl) rfl ?_;intro Γ hΓ
 (repeat first |refine sN rfl ?_ |((first|refine sM rfl ?_ ?_|refine s4 rfl ‹_› rfl ?_ ?_);first|exact tI|omega|simp only[oZ] at *;omega) |refine s2 rfl fun _ _hb=>?_ |refine s3 rfl ?_ ?_<;>rintro rfl |refine aU rfl ?_ |refine Aa ?_ |refine rE (by kernel_rfl) ?_)
 (refine Ai rfl ?_;refine Bx (fun _ _=>Bn rfl) rfl ?_)
 (repeat first |refine sN rfl ?_ |((first|refine sM rfl ?_ ?_|refine s4 rfl ‹_› rfl ?_ ?_);first|exact tI|omega|simp only[oZ] at *;omega) |refine s2 rfl fun _ _hb=>?_ |refine s3 rfl ?_ ?_<;>rintro rfl |refine aU rfl ?_ |refine Aa ?_ |refine rE (by kernel_rfl) ?_)
 (refine pW rfl ?_ rfl (by rfl);refine Ej rfl rfl (by rfl) (by rfl) (Nat.le_of_ble_eq_true rfl) (by omega) (by omega) (by omega) ?_)
 (repeat first |refine sN rfl ?_ |((first|refine sM rfl ?_ ?_|refine s4 rfl ‹_› rfl ?_ ?_);first|exact tI|omega|simp only[oZ] at *;omega) |refine s2 rfl fun _ _hb=>?_ |refine s3 rfl ?_ ?_<;>rintro rfl |refine aU rfl ?_ |refine Aa ?_ |refine rE (by kernel_rfl) ?_)
 refine aB ?_
 refine Av.AO (α:={k:Nat // k≤l.length}) (fun ⟨k,hk⟩=>[(0,EC l),(3,.o (.arr 0 1 0 l.length)),(4,eI .i64 k)]) (fun ⟨k,hk⟩=>[(0,.cells 4 1 (CX (l.map AB) ((AB false)) k))]) 1 (fun ⟨k,hk⟩=>l.length - k) (⟨0,by omega⟩) [0] (Dd hΓ rfl rfl) (by ((repeat' first|exact tI|rfl|refine And.intro ?_ ?_)<;>(simp[cX,zC,hΓ,Ke,hren]))) ?_;rintro⟨k,hk⟩;(try dsimp only)
 (repeat first |refine sN rfl ?_ |((first|refine sM rfl ?_ ?_|refine s4 rfl ‹_› rfl ?_ ?_);first|exact tI|omega|simp only[oZ] at *;omega) |refine s2 rfl fun _ _hb=>?_ |refine s3 rfl ?_ ?_<;>rintro rfl |refine aU rfl ?_ |refine Aa ?_ |refine rE (by kernel_rfl) ?_)
 (refine aC rfl ?_ ?_<;>rintro⟨⟩)
 ·obtain⟨x,hx⟩:=get_some (l:=l) (k:=k) (by first|omega|simp only[oZ] at *;omega)
  have hx':=get_map (g:=HY) hx
  have hg:=Gz (l:=l.map AB) (z:=(AB false)) (k:=k) (by first|omega|simp only[oZ] at *;omega)
  have hs:=GB (l:=l.map AB) (z:=(AB false)) (k:=k) (x:=AB x) (by simp [hx])
  refine aK ?_
  refine aS (aB ?_)
  (repeat first |refine sN rfl ?_ |((first|refine sM rfl ?_ ?_|refine s4 rfl ‹_› rfl ?_ ?_);first|exact tI|omega|simp only[oZ] at *;omega) |refine s2 rfl fun _ _hb=>?_ |refine s3 rfl ?_ ?_<;>rintro rfl |refine aU rfl ?_ |refine Aa ?_ |refine rE (by kernel_rfl) ?_)
  refine⟨⟨k+1,by first|omega|simp only[oZ] at *;omega⟩,by dsimp only;(first|omega|simp only[oZ] at *;omega),[0],?_⟩
  have hsp:Af ((AB false)) 0 (eC (eB x))=AB x:=rfl
  rw [hsp,hs]
  simp[cX,zC,hΓ,hren]
 ·obtain rfl:k=l.length:=by first|omega|simp only[oZ] at *;omega
  have he:CX (l.map AB) ((AB false)) l.length=l.map AB:=by
   have:=Gy (l.map AB) ((AB false))
   rwa [hlm] at this
  rw [he]
  refine aE ?_
  (repeat first |refine sN rfl ?_ |((first|refine sM rfl ?_ ?_|refine s4 rfl ‹_› rfl ?_ ?_);first|exact tI|omega|simp only[oZ] at *;omega) |refine s2 rfl fun _ _hb=>?_ |refine s3 rfl ?_ ?_<;>rintro rfl |refine aU rfl ?_ |refine Aa ?_ |refine rE (by kernel_rfl) ?_)
  refine Av.freeze [0] [(2,EC l)] ⟨⟨_,rfl,.o (.full (by simp) rfl (by simp [Function.comp_def]) (by simp))⟩,trivial⟩ ?_
  refine aR ⟨_,rfl,rfl⟩
theorem Xh(l:List (List Int))(h:l.length≤1048576)(hr:∀r∈l,r.length≤1048576):Pure Tryz.prog TB 45 [Cj l] (Cj l):=by
 have hren:∀(r:Nat→Nat) k,(CX (l.map FJ) ((Fg [])) k).map (C.BC r)=CX (l.map FJ) ((Fg [])) k:=fun r k=>GA (fun x hx=>by obtain⟨y,_,rfl⟩:=List.mem_map.1 hx;rfl) rfl
 have hlm:(l.map FJ).length=l.length:=by simp
 refine eN Tryz.func45 rfl (by kernel_rfl) rfl ?_;intro Γ hΓ
 (repeat first |refine sN rfl ?_ |((first|refine sM rfl ?_ ?_|refine s4 rfl ‹_› rfl ?_ ?_);first|exact tI|omega|simp only[oZ] at *;omega) |refine s2 rfl fun _ _hb=>?_ |refine s3 rfl ?_ ?_<;>rintro rfl |refine aU rfl ?_ |refine Aa ?_ |refine rE (by kernel_rfl) ?_)
 (refine Ai rfl ?_;refine Bx (fun _ _=>Bn rfl) rfl ?_)
 (repeat first |refine sN rfl ?_ |((first|refine sM rfl ?_ ?_|refine s4 rfl ‹_› rfl ?_ ?_);first|exact tI|omega|simp only[oZ] at *;omega) |refine s2 rfl fun _ _hb=>?_ |refine s3 rfl ?_ ?_<;>rintro rfl |refine aU rfl ?_ |refine Aa ?_ |refine rE (by kernel_rfl) ?_)
 (refine pW rfl ?_ rfl (by rfl);refine Ej rfl rfl (by rfl) (by rfl) (Nat.le_of_ble_eq_true rfl) (by omega) (by omega) (by omega) ?_)
 (repeat first |refine sN rfl ?_ |((first|refine sM rfl ?_ ?_|refine s4 rfl ‹_› rfl ?_ ?_);first|exact tI|omega|simp only[oZ] at *;omega) |refine s2 rfl fun _ _hb=>?_ |refine s3 rfl ?_ ?_<;>rintro rfl |refine aU rfl ?_ |refine Aa ?_ |refine rE (by kernel_rfl) ?_)
 refine aB ?_
 refine Av.AO (α:={k:Nat // k≤l.length}) (fun ⟨k,hk⟩=>[(0,Cj l),(3,.o (.arr 0 1 0 l.length)),(4,eI .i64 k)]) (fun ⟨k,hk⟩=>[(0,.cells 62 1 (CX (l.map FJ) ((Fg [])) k))]) 1 (fun ⟨k,hk⟩=>l.length - k) (⟨0,by omega⟩) [0] (Dd hΓ rfl rfl) (by ((repeat' first|exact tI|rfl|refine And.intro ?_ ?_)<;>(simp[cX,zC,hΓ,Ke,hren]))) ?_;rintro⟨k,hk⟩;(try dsimp only)
 (repeat first |refine sN rfl ?_ |((first|refine sM rfl ?_ ?_|refine s4 rfl ‹_› rfl ?_ ?_);first|exact tI|omega|simp only[oZ] at *;omega) |refine s2 rfl fun _ _hb=>?_ |refine s3 rfl ?_ ?_<;>rintro rfl |refine aU rfl ?_ |refine Aa ?_ |refine rE (by kernel_rfl) ?_)
 (refine aC rfl ?_ ?_<;>rintro⟨⟩)
 ·obtain⟨x,hx⟩:=get_some (l:=l) (k:=k) (by first|omega|simp only[oZ] at *;omega)
  have hx':=get_map (g:=Ds) hx
  have hg:=Gz (l:=l.map FJ) (z:=(Fg [])) (k:=k) (by first|omega|simp only[oZ] at *;omega)
  have hs:=GB (l:=l.map FJ) (z:=(Fg [])) (k:=k) (x:=FJ x) (by simp [hx])
  refine aK ?_
  refine aS (aB ?_)
  have hxl:=hr x (List.mem_of_getElem? hx)
  (repeat first |refine sN rfl ?_ |((first|refine sM rfl ?_ ?_|refine s4 rfl ‹_› rfl ?_ ?_);first|exact tI|omega|simp only[oZ] at *;omega) |refine s2 rfl fun _ _hb=>?_ |refine sP rfl (ak x hxl) rfl ?_ |refine s3 rfl ?_ ?_<;>rintro rfl |refine aU rfl ?_ |refine Aa ?_ |refine rE (by kernel_rfl) ?_)
  refine⟨⟨k+1,by first|omega|simp only[oZ] at *;omega⟩,by dsimp only;(first|omega|simp only[oZ] at *;omega),[0],?_⟩
  have hsp:Af ((Fg [])) 0 (eC (Ag x))=FJ x:=rfl
  rw [hsp,hs]
  simp[cX,zC,hΓ,hren]
 ·obtain rfl:k=l.length:=by first|omega|simp only[oZ] at *;omega
  have he:CX (l.map FJ) ((Fg [])) l.length=l.map FJ:=by
   have:=Gy (l.map FJ) ((Fg []))
   rwa [hlm] at this
  rw [he]
  refine aE ?_
  (repeat first |refine sN rfl ?_ |((first|refine sM rfl ?_ ?_|refine s4 rfl ‹_› rfl ?_ ?_);first|exact tI|omega|simp only[oZ] at *;omega) |refine s2 rfl fun _ _hb=>?_ |refine s3 rfl ?_ ?_<;>rintro rfl |refine aU rfl ?_ |refine Aa ?_ |refine rE (by kernel_rfl) ?_)
  refine Av.freeze [0] [(2,Cj l)] ⟨⟨_,rfl,.o (.full (by simp) rfl (by simp [Function.comp_def]) (by simp))⟩,trivial⟩ ?_
  refine aR ⟨_,rfl,rfl⟩
theorem RD(e:EO):Pure Tryz.prog TB 86 [Ow e] (Ow e):=by
 refine Spec.lz 2 126 3 [] Tryz.func86 rfl (by kernel_rfl) rfl (Nat.le_of_ble_eq_true rfl) ?_;intro Γ hΓ
 (repeat first |refine sN rfl ?_ |((first|refine sA rfl ?_ ?_|refine s4 rfl ‹_› rfl ?_ ?_);first|exact tI|omega|simp only[oZ] at *;omega) |refine s2 rfl fun _ _hb=>?_ |refine s3 rfl ?_ ?_<;>rintro rfl |refine aU rfl ?_ |refine Aa ?_)
 refine aR ⟨⟨0,3,0,126,_,Az e,_,rfl,rfl,rfl,.AD,rfl⟩,?_⟩
 intro id k i h
 injection h with h;injection h with h;injection h with _ h;exact h.symm
theorem Xf(l:List EO)(h:l.length≤1048576):Pure Tryz.prog TB 44 [Hx l] (Hx l):=by
 have hren:∀(r:Nat→Nat) k,(CX (l.map Az) ((Az ⟨0,0,0⟩)) k).map (C.BC r)=CX (l.map Az) ((Az ⟨0,0,0⟩)) k:=fun r k=>GA (fun x hx=>by obtain⟨y,_,rfl⟩:=List.mem_map.1 hx;rfl) rfl
 have hlm:(l.map Az).length=l.length:=by simp
 refine eN Tryz.func44 rfl (by kernel_rfl) rfl ?_;intro Γ hΓ
 (repeat first |refine sN rfl ?_ |((first|refine sM rfl ?_ ?_|refine s4 rfl ‹_› rfl ?_ ?_);first|exact tI|omega|simp only[oZ] at *;omega) |refine s2 rfl fun _ _hb=>?_ |refine s3 rfl ?_ ?_<;>rintro rfl |refine aU rfl ?_ |refine Aa ?_ |refine rE (by kernel_rfl) ?_)
 (refine Ai rfl ?_;refine Bx (fun _ _=>Bn rfl) rfl ?_)
 (repeat first |refine sN rfl ?_ |((first|refine sM rfl ?_ ?_|refine s4 rfl ‹_› rfl ?_ ?_);first|exact tI|omega|simp only[oZ] at *;omega) |refine s2 rfl fun _ _hb=>?_ |refine s3 rfl ?_ ?_<;>rintro rfl |refine aU rfl ?_ |refine Aa ?_ |refine rE (by kernel_rfl) ?_)
 (refine pW rfl ?_ rfl (by rfl);refine Ej rfl rfl (by rfl) (by rfl) (Nat.le_of_ble_eq_true rfl) (by omega) (by omega) (by omega) ?_)
 (repeat first |refine sN rfl ?_ |((first|refine sM rfl ?_ ?_|refine s4 rfl ‹_› rfl ?_ ?_);first|exact tI|omega|simp only[oZ] at *;omega) |refine s2 rfl fun _ _hb=>?_ |refine s3 rfl ?_ ?_<;>rintro rfl |refine aU rfl ?_ |refine Aa ?_ |refine rE (by kernel_rfl) ?_)
 refine aB ?_
 refine Av.AO (α:={k:Nat // k≤l.length}) (fun ⟨k,hk⟩=>[(0,Hx l),(3,.o (.arr 0 3 0 l.length)),(4,eI .i64 k)]) (fun ⟨k,hk⟩=>[(0,.cells 126 3 (CX (l.map Az) ((Az ⟨0,0,0⟩)) k))]) 1 (fun ⟨k,hk⟩=>l.length - k) (⟨0,by omega⟩) [0] (Dd hΓ rfl rfl) (by ((repeat' first|exact tI|rfl|refine And.intro ?_ ?_)<;>(simp[cX,zC,hΓ,Ke,hren]))) ?_;rintro⟨k,hk⟩;(try dsimp only)
 (repeat first |refine sN rfl ?_ |((first|refine sM rfl ?_ ?_|refine s4 rfl ‹_› rfl ?_ ?_);first|exact tI|omega|simp only[oZ] at *;omega) |refine s2 rfl fun _ _hb=>?_ |refine s3 rfl ?_ ?_<;>rintro rfl |refine aU rfl ?_ |refine Aa ?_ |refine rE (by kernel_rfl) ?_)
 (refine aC rfl ?_ ?_<;>rintro⟨⟩)
 ·obtain⟨x,hx⟩:=get_some (l:=l) (k:=k) (by first|omega|simp only[oZ] at *;omega)
  have hx':=get_map (g:=C5) hx
  have hg:=Gz (l:=l.map Az) (z:=(Az ⟨0,0,0⟩)) (k:=k) (by first|omega|simp only[oZ] at *;omega)
  have hs:=GB (l:=l.map Az) (z:=(Az ⟨0,0,0⟩)) (k:=k) (x:=Az x) (by simp [hx])
  refine aK ?_
  refine aS (aB ?_)
  (repeat first |refine sN rfl ?_ |((first|refine sM rfl ?_ ?_|refine s4 rfl ‹_› rfl ?_ ?_);first|exact tI|omega|simp only[oZ] at *;omega) |refine s2 rfl fun _ _hb=>?_ |refine sP rfl (RD x) rfl ?_ |refine s3 rfl ?_ ?_<;>rintro rfl |refine aU rfl ?_ |refine Aa ?_ |refine rE (by kernel_rfl) ?_)
  refine⟨⟨k+1,by first|omega|simp only[oZ] at *;omega⟩,by dsimp only;(first|omega|simp only[oZ] at *;omega),[0],?_⟩
  have hsp:Af ((Az ⟨0,0,0⟩)) 0 (eC (Ow x))=Az x:=rfl
  rw [hsp,hs]
  simp[cX,zC,hΓ,hren]
 ·obtain rfl:k=l.length:=by first|omega|simp only[oZ] at *;omega
  have he:CX (l.map Az) ((Az ⟨0,0,0⟩)) l.length=l.map Az:=by
   have:=Gy (l.map Az) ((Az ⟨0,0,0⟩))
   rwa [hlm] at this
  rw [he]
  refine aE ?_
  (repeat first |refine sN rfl ?_ |((first|refine sM rfl ?_ ?_|refine s4 rfl ‹_› rfl ?_ ?_);first|exact tI|omega|simp only[oZ] at *;omega) |refine s2 rfl fun _ _hb=>?_ |refine s3 rfl ?_ ?_<;>rintro rfl |refine aU rfl ?_ |refine Aa ?_ |refine rE (by kernel_rfl) ?_)
  refine Av.freeze [0] [(2,Hx l)] ⟨⟨_,rfl,.o (.full (by simp) rfl (by simp [Function.comp_def]) (by simp))⟩,trivial⟩ ?_
  refine aR ⟨_,rfl,rfl⟩
theorem Nk(s:Sys)(h:s.es.length≤1048576):Pure Tryz.prog TB 16 [Bt s] (Bt s):=by
 refine Spec.lz 2 25 3 [] Tryz.func16 rfl (by kernel_rfl) rfl (Nat.le_of_ble_eq_true rfl) ?_;intro Γ hΓ
 (repeat first |refine sN rfl ?_ |((first|refine sA rfl ?_ ?_|refine s4 rfl ‹_› rfl ?_ ?_);first|exact tI|omega|simp only[oZ] at *;omega) |refine s2 rfl fun _ _hb=>?_ |refine sP rfl (Xf s.es h) rfl ?_ |refine s3 rfl ?_ ?_<;>rintro rfl |refine aU rfl ?_ |refine Aa ?_)
 refine aR ⟨⟨0,3,0,25,_,[.d (iD s.al),.d (iD s.st),.d (Ef s.es)],_,rfl,rfl,rfl,.AD,rfl⟩,?_⟩
 intro id k i h
 injection h with h;injection h with h;injection h with _ h;exact h.symm
theorem PF(a:AZ)(h1:a.nx.length≤1048576)(h2:a.ac.length≤1048576)(h3:∀r∈a.nx,r.length≤1048576):Pure Tryz.prog TB 17 [Bo a] (Bo a):=by
 refine Spec.lz 2 29 3 [] Tryz.func17 rfl (by kernel_rfl) rfl (Nat.le_of_ble_eq_true rfl) ?_;intro Γ hΓ
 (repeat first |refine sN rfl ?_ |((first|refine sA rfl ?_ ?_|refine s4 rfl ‹_› rfl ?_ ?_);first|exact tI|omega|simp only[oZ] at *;omega) |refine s2 rfl fun _ _hb=>?_ |refine sP rfl (Xh a.nx h1 h3) rfl ?_|refine sP rfl (Xe a.ac h2) rfl ?_ |refine s3 rfl ?_ ?_<;>rintro rfl |refine aU rfl ?_ |refine Aa ?_)
 refine aR ⟨⟨0,3,0,29,_,[.d (iD a.al),.d (CD a.nx),.d (Ez a.ac)],_,rfl,rfl,rfl,.AD,rfl⟩,?_⟩
 intro id k i h
 injection h with h;injection h with h;injection h with _ h;exact h.symm
theorem Zk(l:List Int):Pure Tryz.prog TB 88 [Ag l,Ag l] (eB true):=by
 refine eN Tryz.func88 rfl (by kernel_rfl) rfl ?_;intro Γ hΓ
 refine Av.bound 0 rfl fun hB0=>?_
 have hB:=hB0 (l.map Bk) .refl
 (repeat' first |refine sN rfl ?_ |((first|refine sA rfl ?_ ?_|refine s4 rfl ‹_› rfl ?_ ?_);first|exact tI|omega|simp only[oZ] at *;omega) |refine s2 rfl fun _ _hb=>?_ |refine s3 rfl ?_ ?_<;>rintro rfl |refine aU rfl ?_ |refine Aa ?_ |refine rE (by kernel_rfl) ?_|(refine aC rfl ?_ ?_<;>rintro⟨⟩)|refine aK ?_|refine aE ?_|refine aB ?_|refine aR ⟨_,rfl,?_⟩)
 all_goals try (exfalso;first|omega|simp only[oZ] at *;omega;done)
 refine Av.AO (α:={k:Nat // k≤l.length}) (fun ⟨k,hk⟩=>[(0,Ag l),(1,Ag l),(5,eI .i64 k)]) (fun ⟨k,hk⟩=>[]) 0 (fun ⟨k,hk⟩=>l.length - k) (⟨0,by omega⟩) [] (Dd hΓ rfl rfl) (by ((repeat' first|exact tI|rfl|refine And.intro ?_ ?_)<;>(simp[cX,zC,hΓ]))) ?_;rintro⟨k,hk⟩;(try dsimp only)
 (repeat first |refine sN rfl ?_ |((first|refine sA rfl ?_ ?_|refine s4 rfl ‹_› rfl ?_ ?_);first|exact tI|omega|simp only[oZ] at *;omega) |refine s2 rfl fun _ _hb=>?_ |refine s3 rfl ?_ ?_<;>rintro rfl |refine aU rfl ?_ |refine Aa ?_ |refine rE (by kernel_rfl) ?_)
 (refine aC rfl ?_ ?_<;>rintro⟨⟩)
 ·obtain⟨x,hx⟩:=get_some (l:=l) (k:=k) (by first|omega|simp only[oZ] at *;omega)
  have hx':=get_map (g:=Bk) hx
  (repeat' first |refine sN rfl ?_ |((first|refine sA rfl ?_ ?_|refine s4 rfl ‹_› rfl ?_ ?_);first|exact tI|omega|simp only[oZ] at *;omega) |refine s2 rfl fun _ _hb=>?_ |refine s3 rfl ?_ ?_<;>rintro rfl |refine aU rfl ?_ |refine Aa ?_ |refine rE (by kernel_rfl) ?_|(refine aC rfl ?_ ?_<;>rintro⟨⟩)|refine aK ?_|refine aE ?_|refine aB ?_|refine aR ⟨_,rfl,?_⟩)
  all_goals first
   | (exfalso;revert _hb;simp;done)
   | (exfalso;first|omega|simp only[oZ] at *;omega;done)
   | (refine⟨⟨k+1,by first|omega|simp only[oZ] at *;omega⟩,by dsimp only;(first|omega|simp only[oZ] at *;omega),[],?_⟩;simp[cX,zC,hΓ];done)
 ·(repeat' first |refine sN rfl ?_ |((first|refine sA rfl ?_ ?_|refine s4 rfl ‹_› rfl ?_ ?_);first|exact tI|omega|simp only[oZ] at *;omega) |refine s2 rfl fun _ _hb=>?_ |refine s3 rfl ?_ ?_<;>rintro rfl |refine aU rfl ?_ |refine Aa ?_ |refine rE (by kernel_rfl) ?_|(refine aC rfl ?_ ?_<;>rintro⟨⟩)|refine aK ?_|refine aE ?_|refine aB ?_|refine aR ⟨_,rfl,?_⟩)
  all_goals rfl
theorem VW(l:List Bool):Pure Tryz.prog TB 48 [EC l,EC l] (eB true):=by
 refine eN Tryz.func48 rfl (by kernel_rfl) rfl ?_;intro Γ hΓ
 refine Av.bound 0 rfl fun hB0=>?_
 have hB:=hB0 (l.map HY) .refl
 (repeat' first |refine sN rfl ?_ |((first|refine sA rfl ?_ ?_|refine s4 rfl ‹_› rfl ?_ ?_);first|exact tI|omega|simp only[oZ] at *;omega) |refine s2 rfl fun _ _hb=>?_ |refine s3 rfl ?_ ?_<;>rintro rfl |refine aU rfl ?_ |refine Aa ?_ |refine rE (by kernel_rfl) ?_|(refine aC rfl ?_ ?_<;>rintro⟨⟩)|refine aK ?_|refine aE ?_|refine aB ?_|refine aR ⟨_,rfl,?_⟩)
 all_goals try (exfalso;first|omega|simp only[oZ] at *;omega;done)
 refine Av.AO (α:={k:Nat // k≤l.length}) (fun ⟨k,hk⟩=>[(0,EC l),(1,EC l),(5,eI .i64 k)]) (fun ⟨k,hk⟩=>[]) 0 (fun ⟨k,hk⟩=>l.length - k) (⟨0,by omega⟩) [] (Dd hΓ rfl rfl) (by ((repeat' first|exact tI|rfl|refine And.intro ?_ ?_)<;>(simp[cX,zC,hΓ]))) ?_;rintro⟨k,hk⟩;(try dsimp only)
 (repeat first |refine sN rfl ?_ |((first|refine sA rfl ?_ ?_|refine s4 rfl ‹_› rfl ?_ ?_);first|exact tI|omega|simp only[oZ] at *;omega) |refine s2 rfl fun _ _hb=>?_ |refine s3 rfl ?_ ?_<;>rintro rfl |refine aU rfl ?_ |refine Aa ?_ |refine rE (by kernel_rfl) ?_)
 (refine aC rfl ?_ ?_<;>rintro⟨⟩)
 ·obtain⟨x,hx⟩:=get_some (l:=l) (k:=k) (by first|omega|simp only[oZ] at *;omega)
  have hx':=get_map (g:=HY) hx
  (repeat' first |refine sN rfl ?_ |((first|refine sA rfl ?_ ?_|refine s4 rfl ‹_› rfl ?_ ?_);first|exact tI|omega|simp only[oZ] at *;omega) |refine s2 rfl fun _ _hb=>?_ |refine s3 rfl ?_ ?_<;>rintro rfl |refine aU rfl ?_ |refine Aa ?_ |refine rE (by kernel_rfl) ?_|(refine aC rfl ?_ ?_<;>rintro⟨⟩)|refine aK ?_|refine aE ?_|refine aB ?_|refine aR ⟨_,rfl,?_⟩)
  all_goals first
   | (exfalso;revert _hb;simp;done)
   | (exfalso;first|omega|simp only[oZ] at *;omega;done)
   | (refine⟨⟨k+1,by first|omega|simp only[oZ] at *;omega⟩,by dsimp only;(first|omega|simp only[oZ] at *;omega),[],?_⟩;simp[cX,zC,hΓ];done)
 ·(repeat' first |refine sN rfl ?_ |((first|refine sA rfl ?_ ?_|refine s4 rfl ‹_› rfl ?_ ?_);first|exact tI|omega|simp only[oZ] at *;omega) |refine s2 rfl fun _ _hb=>?_ |refine s3 rfl ?_ ?_<;>rintro rfl |refine aU rfl ?_ |refine Aa ?_ |refine rE (by kernel_rfl) ?_|(refine aC rfl ?_ ?_<;>rintro⟨⟩)|refine aK ?_|refine aE ?_|refine aB ?_|refine aR ⟨_,rfl,?_⟩)
  all_goals rfl
theorem VY(l:List (List Int)):Pure Tryz.prog TB 47 [Cj l,Cj l] (eB true):=by
 refine eN Tryz.func47 rfl (by kernel_rfl) rfl ?_;intro Γ hΓ
 refine Av.bound 0 rfl fun hB0=>?_
 have hB:=hB0 (l.map Ds) .refl
 (repeat' first |refine sN rfl ?_ |((first|refine sA rfl ?_ ?_|refine s4 rfl ‹_› rfl ?_ ?_);first|exact tI|omega|simp only[oZ] at *;omega) |refine s2 rfl fun _ _hb=>?_ |refine s3 rfl ?_ ?_<;>rintro rfl |refine aU rfl ?_ |refine Aa ?_ |refine rE (by kernel_rfl) ?_|(refine aC rfl ?_ ?_<;>rintro⟨⟩)|refine aK ?_|refine aE ?_|refine aB ?_|refine aR ⟨_,rfl,?_⟩)
 all_goals try (exfalso;first|omega|simp only[oZ] at *;omega;done)
 refine Av.AO (α:={k:Nat // k≤l.length}) (fun ⟨k,hk⟩=>[(0,Cj l),(1,Cj l),(5,eI .i64 k)]) (fun ⟨k,hk⟩=>[]) 0 (fun ⟨k,hk⟩=>l.length - k) (⟨0,by omega⟩) [] (Dd hΓ rfl rfl) (by ((repeat' first|exact tI|rfl|refine And.intro ?_ ?_)<;>(simp[cX,zC,hΓ]))) ?_;rintro⟨k,hk⟩;(try dsimp only)
 (repeat first |refine sN rfl ?_ |((first|refine sA rfl ?_ ?_|refine s4 rfl ‹_› rfl ?_ ?_);first|exact tI|omega|simp only[oZ] at *;omega) |refine s2 rfl fun _ _hb=>?_ |refine s3 rfl ?_ ?_<;>rintro rfl |refine aU rfl ?_ |refine Aa ?_ |refine rE (by kernel_rfl) ?_)
 (refine aC rfl ?_ ?_<;>rintro⟨⟩)
 ·obtain⟨x,hx⟩:=get_some (l:=l) (k:=k) (by first|omega|simp only[oZ] at *;omega)
  have hx':=get_map (g:=Ds) hx
  (repeat' first |refine sN rfl ?_ |((first|refine sA rfl ?_ ?_|refine s4 rfl ‹_› rfl ?_ ?_);first|exact tI|omega|simp only[oZ] at *;omega) |refine s2 rfl fun _ _hb=>?_ |refine sP rfl (Zk x) rfl ?_ |refine s3 rfl ?_ ?_<;>rintro rfl |refine aU rfl ?_ |refine Aa ?_ |refine rE (by kernel_rfl) ?_|(refine aC rfl ?_ ?_<;>rintro⟨⟩)|refine aK ?_|refine aE ?_|refine aB ?_|refine aR ⟨_,rfl,?_⟩)
  all_goals first
   | (exfalso;revert _hb;simp;done)
   | (exfalso;first|omega|simp only[oZ] at *;omega;done)
   | (refine⟨⟨k+1,by first|omega|simp only[oZ] at *;omega⟩,by dsimp only;(first|omega|simp only[oZ] at *;omega),[],?_⟩;simp[cX,zC,hΓ];done)
 ·(repeat' first |refine sN rfl ?_ |((first|refine sA rfl ?_ ?_|refine s4 rfl ‹_› rfl ?_ ?_);first|exact tI|omega|simp only[oZ] at *;omega) |refine s2 rfl fun _ _hb=>?_ |refine s3 rfl ?_ ?_<;>rintro rfl |refine aU rfl ?_ |refine Aa ?_ |refine rE (by kernel_rfl) ?_|(refine aC rfl ?_ ?_<;>rintro⟨⟩)|refine aK ?_|refine aE ?_|refine aB ?_|refine aR ⟨_,rfl,?_⟩)
  all_goals rfl
theorem Zj(e:EO):Pure Tryz.prog TB 89 [Ow e,Ow e] (eB true):=by
 refine eN Tryz.func89 rfl (by kernel_rfl) rfl ?_;intro Γ hΓ
 (repeat' first |refine sN rfl ?_ |((first|refine sA rfl ?_ ?_|refine s4 rfl ‹_› rfl ?_ ?_);first|exact tI|omega|simp only[oZ] at *;omega) |refine s2 rfl fun _ _hb=>?_ |refine s3 rfl ?_ ?_<;>rintro rfl |refine aU rfl ?_ |refine Aa ?_ |refine rE (by kernel_rfl) ?_|(refine aC rfl ?_ ?_<;>rintro⟨⟩)|refine aK ?_|refine aE ?_|refine aB ?_|refine aR ⟨_,rfl,?_⟩)
 all_goals first
  | rfl
  | (exfalso;first|omega|simp only[oZ] at *;omega;done)
theorem VX(l:List EO):Pure Tryz.prog TB 49 [Hx l,Hx l] (eB true):=by
 refine eN Tryz.func49 rfl (by kernel_rfl) rfl ?_;intro Γ hΓ
 refine Av.bound 0 rfl fun hB0=>?_
 have hB:=hB0 (l.map C5) .refl
 (repeat' first |refine sN rfl ?_ |((first|refine sA rfl ?_ ?_|refine s4 rfl ‹_› rfl ?_ ?_);first|exact tI|omega|simp only[oZ] at *;omega) |refine s2 rfl fun _ _hb=>?_ |refine s3 rfl ?_ ?_<;>rintro rfl |refine aU rfl ?_ |refine Aa ?_ |refine rE (by kernel_rfl) ?_|(refine aC rfl ?_ ?_<;>rintro⟨⟩)|refine aK ?_|refine aE ?_|refine aB ?_|refine aR ⟨_,rfl,?_⟩)
 all_goals try (exfalso;first|omega|simp only[oZ] at *;omega;done)
 refine Av.AO (α:={k:Nat // k≤l.length}) (fun ⟨k,hk⟩=>[(0,Hx l),(1,Hx l),(5,eI .i64 k)]) (fun ⟨k,hk⟩=>[]) 0 (fun ⟨k,hk⟩=>l.length - k) (⟨0,by omega⟩) [] (Dd hΓ rfl rfl) (by ((repeat' first|exact tI|rfl|refine And.intro ?_ ?_)<;>(simp[cX,zC,hΓ]))) ?_;rintro⟨k,hk⟩;(try dsimp only)
 (repeat first |refine sN rfl ?_ |((first|refine sA rfl ?_ ?_|refine s4 rfl ‹_› rfl ?_ ?_);first|exact tI|omega|simp only[oZ] at *;omega) |refine s2 rfl fun _ _hb=>?_ |refine s3 rfl ?_ ?_<;>rintro rfl |refine aU rfl ?_ |refine Aa ?_ |refine rE (by kernel_rfl) ?_)
 (refine aC rfl ?_ ?_<;>rintro⟨⟩)
 ·obtain⟨x,hx⟩:=get_some (l:=l) (k:=k) (by first|omega|simp only[oZ] at *;omega)
  have hx':=get_map (g:=C5) hx
  (repeat' first |refine sN rfl ?_ |((first|refine sA rfl ?_ ?_|refine s4 rfl ‹_› rfl ?_ ?_);first|exact tI|omega|simp only[oZ] at *;omega) |refine s2 rfl fun _ _hb=>?_ |refine sP rfl (Zj x) rfl ?_ |refine s3 rfl ?_ ?_<;>rintro rfl |refine aU rfl ?_ |refine Aa ?_ |refine rE (by kernel_rfl) ?_|(refine aC rfl ?_ ?_<;>rintro⟨⟩)|refine aK ?_|refine aE ?_|refine aB ?_|refine aR ⟨_,rfl,?_⟩)
  all_goals first
   | (exfalso;revert _hb;simp;done)
   | (exfalso;first|omega|simp only[oZ] at *;omega;done)
   | (refine⟨⟨k+1,by first|omega|simp only[oZ] at *;omega⟩,by dsimp only;(first|omega|simp only[oZ] at *;omega),[],?_⟩;simp[cX,zC,hΓ];done)
 ·(repeat' first |refine sN rfl ?_ |((first|refine sA rfl ?_ ?_|refine s4 rfl ‹_› rfl ?_ ?_);first|exact tI|omega|simp only[oZ] at *;omega) |refine s2 rfl fun _ _hb=>?_ |refine s3 rfl ?_ ?_<;>rintro rfl |refine aU rfl ?_ |refine Aa ?_ |refine rE (by kernel_rfl) ?_|(refine aC rfl ?_ ?_<;>rintro⟨⟩)|refine aK ?_|refine aE ?_|refine aB ?_|refine aR ⟨_,rfl,?_⟩)
  all_goals rfl
theorem MQ(s:Sys):Pure Tryz.prog TB 19 [Bt s,Bt s] (eB true):=by
 refine eN Tryz.func19 rfl (by kernel_rfl) rfl ?_;intro Γ hΓ
 (repeat' first |refine sN rfl ?_ |((first|refine sA rfl ?_ ?_|refine s4 rfl ‹_› rfl ?_ ?_);first|exact tI|omega|simp only[oZ] at *;omega) |refine s2 rfl fun _ _hb=>?_ |refine sP rfl (VX s.es) rfl ?_ |refine s3 rfl ?_ ?_<;>rintro rfl |refine aU rfl ?_ |refine Aa ?_ |refine rE (by kernel_rfl) ?_|(refine aC rfl ?_ ?_<;>rintro⟨⟩)|refine aK ?_|refine aE ?_|refine aB ?_|refine aR ⟨_,rfl,?_⟩)
 all_goals first
  | rfl
  | (exfalso;first|omega|simp only[oZ] at *;omega;done)
  | (exfalso;revert _hb;simp;done)
theorem IU(a:AZ):Pure Tryz.prog TB 18 [Bo a,Bo a] (eB true):=by
 refine eN Tryz.func18 rfl (by kernel_rfl) rfl ?_;intro Γ hΓ
 (repeat' first |refine sN rfl ?_ |((first|refine sA rfl ?_ ?_|refine s4 rfl ‹_› rfl ?_ ?_);first|exact tI|omega|simp only[oZ] at *;omega) |refine s2 rfl fun _ _hb=>?_ |refine sP rfl (VY a.nx) rfl ?_|refine sP rfl (VW a.ac) rfl ?_ |refine s3 rfl ?_ ?_<;>rintro rfl |refine aU rfl ?_ |refine Aa ?_ |refine rE (by kernel_rfl) ?_|(refine aC rfl ?_ ?_<;>rintro⟨⟩)|refine aK ?_|refine aE ?_|refine aB ?_|refine aR ⟨_,rfl,?_⟩)
 all_goals first
  | rfl
  | (exfalso;first|omega|simp only[oZ] at *;omega;done)
  | (exfalso;revert _hb;simp;done)
end Go.Am
namespace Go.Proofs.YtbfgijpfhgmepaaGreatDoor
open Go Go.Am Go.ChangeShapes Go.WideShapes Go.ChangeAt Go.RowKit
def aA(l:List Value):List Int:=l.map fun v=>match v with|.int _ n=>n|_=>0
theorem YU{P:Program}{W:World}{name:String}{g:Nat}{t e:TypeId}{n:Nat}{zs:List Int}{fuel:Nat}{cs:Array Value}{p:List MemPlace}(hg:P.globalNamed name=some g)(ht:P.underlying t=some (.array n e))(he:P.underlying e=some (.int .u8))(hce:P.cellsOf e=1)(hct:P.cellsOf t=n)
 (hv:W.var? P name=some cs) (hd:DataW.trod (fun _=>()) P W 0 (fun _=>true) false fuel t cs.toList=some (Lib.tabData .u8 zs,p)):∃T fr,W.heap[g]? = some (.cells (zs.map fun z=>Value.int .u8 z).toArray T fr):=by
 have h:=Lib.cells_of_tab ht he hce hct hd
 unfold World.var? at hv
 rw [hg] at hv
 simp only [Option.bind_some] at hv
 split at hv
 ·rename_i c T fr hh
  injection hv with hv
  subst hv
  refine⟨T,fr,?_⟩
  rw [hh,←h]
 ·cases hv
theorem tables {W:World} {rest:List (String×DataW Unit)} (h:laidMet Tryz.prog (("math/bits.deBruijn32tab",Rows.laid_math_bits_deBruijn32tab)::("math/bits.deBruijn64tab",Rows.laid_math_bits_deBruijn64tab)::rest) W):∃tabs:List (Nat×Obj),Dl ⟨tabs,none⟩∧∀x∈(⟨tabs,none⟩:Bs),below W x.1∧W.heap[x.1]? = some x.2:=by
 obtain⟨ps,⟨g0,t0,cs0,f0,p0,q0,hg0,ht0,hv0,hd0,⟨g1,t1,cs1,f1,p1,q1,hg1,ht1,hv1,hd1,_,_⟩,_⟩,_,_⟩:=h
 have k0:Tryz.prog.globalNamed "math/bits.deBruijn32tab" = some 0:=by kernel_rfl
 have k1:Tryz.prog.globalNamed "math/bits.deBruijn64tab" = some 1:=by kernel_rfl
 obtain rfl:=Option.some.inj (k0.symm.trans hg0)
 obtain rfl:=Option.some.inj (k1.symm.trans hg1)
 have l0:(Tryz.prog.globals[0]?).map (·.type)=some 255:=by kernel_rfl
 have l1:(Tryz.prog.globals[1]?).map (·.type)=some 256:=by kernel_rfl
 obtain rfl:=Option.some.inj (l0.symm.trans ht0)
 obtain rfl:=Option.some.inj (l1.symm.trans ht1)
 obtain⟨T0,fr0,h0⟩:=YU (zs:=aA Cu) k0 Tryz.underlying255 Tryz.underlying5 (by kernel_rfl) (by kernel_rfl) hv0 hd0
 obtain⟨T1,fr1,h1⟩:=YU (zs:=aA Br) k1 Tryz.underlying256 Tryz.underlying5 (by kernel_rfl) (by kernel_rfl) hv1 hd1
 refine⟨[(0,.cells ((aA Cu).map fun z=>Value.int .u8 z).toArray T0 fr0),(1,.cells ((aA Br).map fun z=>Value.int .u8 z).toArray T1 fr1)],⟨⟨⟨_,_,_,List.mem_cons_self,fun i v hv=>?_⟩,by decide⟩,⟨⟨_,_,_,List.mem_cons_of_mem _ List.mem_cons_self,fun i v hv=>?_⟩,by decide⟩⟩,?_⟩
 ·have:Cu=(aA Cu).map fun z=>Value.int .u8 z:=rfl
  rw [List.getElem?_toArray,←this];exact hv
 ·have:Br=(aA Br).map fun z=>Value.int .u8 z:=rfl
  rw [List.getElem?_toArray,←this];exact hv
 ·intro x hx
  have hx:x∈[_,_]:=hx
  simp only [List.mem_cons,List.not_mem_nil,or_false] at hx
  rcases hx with rfl|rfl
  ·exact⟨(Array.getElem?_eq_some_iff.1 h0).1,h0⟩
  ·exact⟨(Array.getElem?_eq_some_iff.1 h1).1,h1⟩
end Go.Proofs.YtbfgijpfhgmepaaGreatDoor
namespace Go.Am
open Go
set_option linter.unusedVariables false
theorem KM{a b:Nat}(ha:a < 2 ^ 62)(hb:b < 2 ^ 62):GS .i64 a b=((a &&& b:Nat):Int):=by
 have h0:a &&& b≤a:=Nat.and_le_left
 unfold GS
 have h1:(BitVec.ofInt IntKind.i64.bits (a:Int) &&& BitVec.ofInt IntKind.i64.bits (b:Int)).toNat=a &&& b:=by
  have e:IntKind.i64.bits=64:=rfl
  rw [e]
  simp only [BitVec.toNat_and,BitVec.ofInt_natCast,BitVec.toNat_ofNat]
  rw [Nat.mod_eq_of_lt (by omega),Nat.mod_eq_of_lt (by omega)]
 rw [h1]
 exact IntWalk.i64_in _ (by omega)
theorem bA(s n:Nat):((s:Nat):Int).fdiv (2 ^ n)=((s / 2 ^ n:Nat):Int):=by
 have h:(0:Int)≤2 ^ n:=Int.le_of_lt (Int.pow_pos (by omega))
 rw [Int.fdiv_eq_ediv_of_nonneg _ h]
 push_cast
 rfl
theorem C4{s n:Nat}(hs:s < 2 ^ 62)(hn:n < 64):AV (s:Nat) n=s.testBit n:=by
 unfold AV
 have e:min n 64=n:=by omega
 rw [e,bA]
 have h1:s / 2 ^ n≤s:=Nat.div_le_self _ _
 have h2:=KM (a:=s / 2 ^ n) (b:=1) (by omega) (by omega)
 rw [show ((1:Nat):Int)=1 from rfl] at h2
 rw [h2,Nat.testBit_eq_decide_div_mod_eq,Nat.and_one_is_mod]
 congr 1
 rw [eq_iff_iff]
 omega
theorem fV{s a:Nat}:s &&& a=s↔∀n,s.testBit n=true→a.testBit n=true:=by
 constructor
 ·intro h n hn
  have:=congrArg (·.testBit n) h
  simp only [Nat.testBit_and,hn,Bool.true_and] at this
  exact this
 ·intro h
  apply Nat.eq_of_testBit_eq
  intro n
  rw [Nat.testBit_and]
  cases hs:s.testBit n
  ·rfl
  ·rw [h n hs];rfl
abbrev Wd:=List UInt8
def FU(c:UInt8):Bool:=decide (97≤c.toNat∧c.toNat < 103)
def Ep(w:Wd):Bool:=decide (w.length≤50000) && w.all FU
def Kp(w:Wd):Nat:=w.foldl (fun s c=>s ||| 2 ^ (c.toNat - 97)) 0
def Ie(al:Int)(c:UInt8):Bool:=FU c && AV al (c.toNat - 97)
def within(w:Wd)(al:Int):Bool:=decide (w.length≤50000) && (A2 al && w.all (Ie al))
theorem TV(n:Nat):∀(w:Wd) (s:Nat),(w.foldl (fun s c=>s ||| 2 ^ (c.toNat - 97)) s).testBit n=(s.testBit n || w.any fun c=>decide (c.toNat - 97=n))
 | [],s=>by simp
 | c::w,s=>by
  rw [List.foldl_cons,TV n w,Nat.testBit_or,Nat.testBit_two_pow,List.any_cons,Bool.or_assoc]
theorem UU(w:Wd)(n:Nat):(Kp w).testBit n=w.any fun c=>decide (c.toNat - 97=n):=by
 unfold Kp;rw [TV];simp
theorem SZ:∀ {w:Wd} {s:Nat},w.all FU=true→s < 64→w.foldl (fun s c=>s ||| 2 ^ (c.toNat - 97)) s < 64
 | [],s,_,hs=>hs
 | c::w,s,h,hs=>by
  simp only [List.all_cons,Bool.and_eq_true] at h
  rw [List.foldl_cons]
  refine SZ h.2 ?_
  have h1:=h.1
  unfold FU at h1
  simp only [decide_eq_true_eq] at h1
  have h2:2 ^ (c.toNat - 97) < 2 ^ 6:=Nat.pow_lt_pow_right (by omega) (by omega)
  exact Nat.or_lt_two_pow (n:=6) hs h2
theorem fM{w:Wd}{al:Int}(hw:w.all FU=true)(ha:A2 al=true):decide (GS .i64 (Kp w:Nat) al=(Kp w:Nat))=w.all (Ie al):=by
 have hs:Kp w < 64:=SZ hw (by omega)
 unfold A2 at ha
 simp only [decide_eq_true_eq] at ha
 obtain⟨a,rfl⟩:∃a:Nat,al=a:=⟨al.toNat,by omega⟩
 rw [KM (by omega) (by omega)]
 rw [Bool.eq_iff_iff,decide_eq_true_eq,List.all_eq_true]
 have h1:((Kp w &&& a:Nat):Int)=(Kp w:Nat)↔Kp w &&& a=Kp w:=by omega
 rw [h1,fV]
 rw [List.all_eq_true] at hw
 constructor
 ·intro h c hc
  have h2:=hw c hc
  unfold Ie
  rw [h2,Bool.true_and]
  unfold FU at h2
  simp only [decide_eq_true_eq] at h2
  rw [C4 (by omega) (by omega)]
  refine h _ ?_
  rw [UU,List.any_eq_true]
  exact⟨c,hc,by simp⟩
 ·intro h n hn
  rw [UU,List.any_eq_true] at hn
  obtain⟨c,hc,hcn⟩:=hn
  simp only [decide_eq_true_eq] at hcn
  have h2:=hw c hc
  have h3:=h c hc
  unfold Ie at h3
  rw [h2,Bool.true_and] at h3
  unfold FU at h2
  simp only [decide_eq_true_eq] at h2
  rw [C4 (by omega) (by omega),hcn] at h3
  exact h3
theorem Xq{w:Wd}{al:Int}(h:w.all (Ie al)=true):w.all FU=true:=by
 rw [List.all_eq_true] at *
 intro c hc
 have:=h c hc
 unfold Ie at this
 simp only [Bool.and_eq_true] at this
 exact this.1
inductive FL (σ:Ab) (ids:List Nat):List C→List C→Prop
 | nil:FL σ ids [] []
 | cons {c c':C} {cs cs':List C}:FC σ ids c c'→FL σ ids cs cs'→FL σ ids (c::cs) (c'::cs')
theorem FL.len{σ:Ab}{ids:List Nat}{l l':List C}(h:FL σ ids l l'):l'.length=l.length:=by
 induction h with
 | nil=>rfl
 | cons _ _ ih=>simp [ih]
theorem FL.get{σ:Ab}{ids:List Nat}{l l':List C}(h:FL σ ids l l'):∀(j:Nat) c',l'[j]? = some c'→∃c,l[j]? = some c∧FC σ ids c c':=by
 induction h with
 | nil=>intro j c' h;simp at h
 | @cons c0 c0' cs cs' h1 _ ih=>
  intro j c' hj
  cases j with
  | zero=>simp at hj;subst hj;exact⟨c0,rfl,h1⟩
  | succ j=>exact ih j c' (by simpa using hj)
def Qv(σ:Ab)(ids:List Nat):Ab→Prop
 | []=>True
 | (id,.cells T k [r'])::S=>(∃r,look σ id=some (.cells T k [r])∧id∉ids∧FL σ ids r r')∧Qv σ ids S
 | _=>False
theorem Qv.get{σ:Ab}{ids:List Nat}:∀ {S:Ab},Qv σ ids S→∀id o',look S id=some o'→∃T k r r',o'=.cells T k [r']∧look σ id=some (.cells T k [r])∧id∉ids∧FL σ ids r r'
 | [],_,id,o',h=>by cases h
 | (i, o)::S,hs,id,o',h=>by
  match o,hs with
  | .cells T k [r'],hs=>
   rw [Ax] at h
   by_cases hi:i=id
   ·rw [if_pos hi] at h
    injection h with h
    subst h;subst hi
    obtain⟨r,h1,h2,h3⟩:=hs.1
    exact⟨T,k,r,r',rfl,h1,h2,h3⟩
   ·rw [if_neg hi] at h
    exact Qv.get hs.2 id o' h
section
variable {P:Program}{TB:Bs}{Γ:Ctx}{N:Nat}{σ:Ab}
theorem Ch.NR{V:View}{f:Env}{nx:Nat}{a:Act}(h:Ch TB Γ N V f σ nx a)(ids:List Nat)(L:List (Nat×E))(S:Ab)(hE:Ec σ ids f L)(hS:Qv σ ids S):Ch TB Γ N (J7 V σ ids) (look L) S nx a:=by
 have e:Ext V (J7 V σ ids):=NS
 have hi:=h.inv
 refine⟨fun t x hx=>?_,fun t x hx=>?_,h.size,?_,h.nx,h.defers⟩
 ·obtain⟨y,h1,h2⟩:=hE.get t x hx
  exact h2.rel h.inv (h.env t y h1)
 ·obtain⟨y,h1,_⟩:=hE.get t x hx
  exact h.lt t y h1
 ·refine⟨hi.os,hi.tape,hi.output,hi.old,?_,?_,hi.ext.trans e,⟨?_,?_,?_,?_⟩,?_,fun x hx=>⟨.inl (hi.tabs x hx).1,(hi.tabs x hx).2⟩,hi.hid.same rfl (fun _ h=>.inl h) (fun b hb=>hb.elim .inl fun ⟨id,o,_,hl,hn,he⟩=>.inr ⟨id,o,hl,hn,he⟩) fun b ⟨id,o,hl,hn,hb⟩=>?_⟩
  ·rintro b (hb|⟨id,o,_,hl,hn,hb⟩)
   ·exact hi.iLt b hb
   ·exact(hi.st.obj id o hl).blt hn hb
  ·rintro b (hb|⟨id,o,_,hl,hn,hb⟩)
   ·exact hi.iNew b hb
   ·exact .inr (hi.live id o hl hn b hb)
  ·intro id o hl
   obtain⟨T,k,r,r',rfl,h1,h2,h3⟩:=hS.get id o hl
   rcases hi.st.obj id _ h1 with ⟨h4,h5⟩|⟨h0,cur,h4,h5,h6,h7,h8,h9⟩
   ·cases h5
   ·refine .inr ⟨h0,cur,h4,h5,h6,h7,fun x hx=>?_,fun i x j c' hix hj=>?_⟩
    ·simp at hx;subst hx;rw [h3.len];exact h8 r (by simp)
    ·have hi0:i=0:=by have:=(List.getElem?_eq_some_iff.1 hix).1;simp at this;omega
     subst hi0
     simp at hix
     subst hix
     obtain⟨c,hc,hf⟩:=h3.get j c' hj
     obtain⟨v,h10,h11⟩:=h9 0 r j c rfl hc
     exact⟨v,h10,hf.rel hi h11⟩
  ·intro id o hl
   obtain⟨T,k,r,r',_,h1,_,_⟩:=hS.get id o hl
   exact hi.st.lt id _ h1
  ·intro id o hl hn b hb' hb
   obtain⟨T,k,r,r',rfl,h1,h2,_⟩:=hS.get id o hl
   rcases hb with hb|⟨id',o',hm,hl',hn',he⟩
   ·exact hi.st.free id _ h1 hn b hb' hb
   ·exact hi.st.inj id id' _ o' h1 hl' (fun e=>h2 (e ▸ hm)) hn hn' b hb' he
  ·intro id id' o o' hl hl' hne hn hn' b hb hb'
   obtain⟨T,k,r,r',rfl,h1,_,_⟩:=hS.get id o hl
   obtain⟨T2,k2,r2,r2',rfl,h12,_,_⟩:=hS.get id' o' hl'
   exact hi.st.inj id id' _ _ h1 h12 hne hn hn' b hb hb'
  ·intro id o hl hn b hb
   obtain⟨T,k,r,r',rfl,h1,_,_⟩:=hS.get id o hl
   exact hi.live id _ h1 hn b hb
  ·obtain⟨T,k,r,r',rfl,h1,_,_⟩:=hS.get id o hl
   exact⟨id,_,h1,hn,hb⟩
theorem Av.NR{c:Code}{Q:Exit→Env→Ab→Nat→Prop}{f:Env}{nx:Nat}(ids:List Nat)(L:List (Nat×E))(S:Ab)(hE:Ec σ ids f L)(hS:Qv σ ids S)(h:Av P TB Γ N c Q (look L) S nx):Av P TB Γ N c Q f σ nx:=
 fun V a hr=>h (J7 V σ ids) a (hr.NR ids L S hE hS)
theorem YA{d:Option Tmp}{ty:TypeId}{pos:String}{af:Array Edge}{g:Option (Nat×Bool)}{f:Env}{nx:Nat}{t k e:TypeId}{x y:Operand}{id:Nat}{l:List (List UInt8×Int)}{s:List UInt8}[hm:Ku P t k e][hk:DJ P k][hz:Qt P e (.int .i64 0)](hx:ev f x=some (.o (.mp id)))(hy:ev f y=some (eT s))(ho:look σ id=some (.mp (ID l))) :
 AQ P TB Γ ⟨d,.lookup t x y false,ty,pos,af,g⟩ f σ nx (eI .i64 ((CJ l s).getD 0)):=
 AJ fun V ρ hr hi=>by
  have e1:=hr.get (by simp [Op.operands]) hx
  have e2:ρ y=.string ⟨s.toArray⟩:=AA.val (hr.get (by simp [Op.operands]) hy)
  generalize hv:ρ x=v at e1
  cases e1 with
  | mp hid=>
   obtain⟨hn,ents,clock,h1,h2⟩:=hi.st.obj id _ ho
   obtain⟨r,h3,h4⟩:=KG s l ents.toList 0 h2
   have hzz:=hz.out
   simp only [Option.bind_eq_some_iff] at hzz
   obtain⟨i,hi1,hz1⟩:=hzz
   have hzv:(zeroValue e).run P V.w=.ok (.int .i64 0) V.w:=by simp [zeroValue,typeInfo,hi1,hz1,go_sem]
   have hfk:(Instr.findKey k (.string ⟨s.toArray⟩) ents.toList).run P V.w=.ok r V.w:=by simp [Instr.findKey,run_underlying hk.out,h3,go_sem]
   have hck:=J5 hk.out ents.isEmpty ⟨s.toArray⟩ V.w
   refine⟨.int .i64 ((CJ l s).getD 0),?_,.d (.v rfl)⟩
   cases r with
   | none=>
    have h5:CJ l s=none:=by simpa using h4.symm
    simp [execOp,hv,e2,Instr.lookup,run_underlying hm.out,MapKept.run_getObj_map h1,hck,hfk,hzv,h5,go_sem]
   | some q=>
    obtain⟨n,h5,h6⟩:∃n,CJ l s=some n∧q.2=.int .i64 n:=by
     cases hf:CJ l s with
     | none=>rw [hf] at h4;simp at h4
     | some n=>rw [hf] at h4;exact⟨n,rfl,by simpa using h4⟩
    obtain⟨q1,q2⟩:=q
    simp only at h6
    subst h6
    simp [execOp,hv,e2,Instr.lookup,run_underlying hm.out,MapKept.run_getObj_map h1,hck,hfk,h5,go_sem]
end
end Go.Am
namespace Go.Am
set_option linter.unusedVariables false
abbrev W:=List UInt8
structure AT where
 rows:List W
 cols:List W
def QW(b:Bool):UInt8:=if b then 43 else 45
theorem X6{a b:Bool}(h:QW a=QW b):a=b:=by cases a<;>cases b<;>first|rfl|(simp [QW] at h)
def marks(L:W→Bool)(cols:List W)(w:W):W:=cols.map fun c=>QW (L (w++c))
theorem bT{L:W→Bool}{cols:List W}{u w:W}:marks L cols u=marks L cols w↔∀c∈cols,L (u++c)=L (w++c):=by
 unfold marks
 rw [List.map_inj_left]
 exact⟨fun h c hc=>X6 (h c hc),fun h c hc=>by rw [h c hc]⟩
def AE(L:W→Bool)(t:AT):List W:=t.rows.map (marks L t.cols)
def CE(ls:List UInt8)(rows:List W):List W:=rows.flatMap fun r=>ls.map fun l=>r++[l]
def A8(L:W→Bool)(ls:List UInt8)(t:AT):Option W:=(CE ls t.rows).find? fun w=>!(AE L t).contains (marks L t.cols w)
def Bd(L:W→Bool)(ls:List UInt8):Nat→AT→Option AT
 | 0,_=>none
 | n+1,t=>match A8 L ls t with
  | none=>some t
  | some w=>if t.rows.length=12 then none else Bd L ls n ⟨t.rows++[w],t.cols⟩
def AM(ls:List UInt8)(w:W):Prop:=∀c∈w,c∈ls
structure TOk (L:W→Bool) (ls:List UInt8) (t:AT):Prop where
 r0:t.rows[0]? = some []
 c0:t.cols[0]? = some []
 pre:∀(i:Nat) w,t.rows[i]? = some w→0 < i→w≠[]∧∃j,j < i∧t.rows[j]? = some w.dropLast
 onR:∀w∈t.rows,AM ls w
 onC:∀c∈t.cols,AM ls c
 nd:(AE L t).Nodup
 ndC:t.cols.Nodup
theorem Ik{L:W→Bool}{ls:List UInt8}{t:AT}{w:W}(h:A8 L ls t=some w):(∃r∈t.rows,∃l∈ls,w=r++[l])∧marks L t.cols w∉AE L t:=by
 have h1:=List.find?_some h
 have h2:=List.mem_of_find?_eq_some h
 unfold CE at h2
 simp only [List.mem_flatMap,List.mem_map] at h2
 obtain⟨r,hr,l,hl,rfl⟩:=h2
 exact⟨⟨r,hr,l,hl,rfl⟩,by simpa using h1⟩
theorem GF{L:W→Bool}{ls:List UInt8}{t:AT}(h:A8 L ls t=none):∀r∈t.rows,∀l∈ls,marks L t.cols (r++[l])∈AE L t:=by
 intro r hr l hl
 have h1:=List.find?_eq_none.1 h (r++[l]) (by unfold CE;simp only [List.mem_flatMap,List.mem_map];exact⟨r,hr,l,hl,rfl⟩)
 simpa using h1
theorem TOk.push{L:W→Bool}{ls:List UInt8}{t:AT}{w:W}(h:TOk L ls t)(ho:A8 L ls t=some w):TOk L ls ⟨t.rows++[w],t.cols⟩:=by
 obtain⟨⟨r,hr,l,hl,rfl⟩,hn⟩:=Ik ho
 have h0:0 < t.rows.length:=(List.getElem?_eq_some_iff.1 h.r0).1
 refine⟨by rw [List.getElem?_append_left h0];exact h.r0,h.c0,fun i w hi hp=>?_,fun w hw=>?_,h.onC,?_,h.ndC⟩
 ·by_cases hil:i < t.rows.length
  ·rw [List.getElem?_append_left hil] at hi
   obtain⟨h1,j,h2,h3⟩:=h.pre i w hi hp
   exact⟨h1,j,h2,by rw [List.getElem?_append_left (by omega)];exact h3⟩
  ·rw [List.getElem?_append_right (by omega)] at hi
   have hi0:i=t.rows.length:=by
    have:=(List.getElem?_eq_some_iff.1 hi).1
    simp at this;omega
   subst hi0
   simp at hi
   subst hi
   obtain⟨j,hj,he⟩:=List.getElem_of_mem hr
   refine⟨by simp,j,hj,?_⟩
   rw [List.getElem?_append_left hj,List.dropLast_concat,List.getElem?_eq_getElem hj,he]
 ·rcases List.mem_append.1 hw with hw|hw
  ·exact h.onR w hw
  ·simp at hw
   subst hw
   intro c hc
   rcases List.mem_append.1 hc with hc|hc
   ·exact h.onR r hr c hc
   ·simp at hc;subst hc;exact hl
 ·unfold AE
  rw [List.map_append,List.nodup_append]
  refine⟨h.nd,by simp,fun a ha b hb=>?_⟩
  simp at hb
  subst hb
  intro e
  exact hn (e ▸ ha)
structure Fin (L:W→Bool) (ls:List UInt8) (n:Nat) where
 st:W→Nat
 lt:∀w,AM ls w→st w < n
 same:∀u w v,AM ls u→AM ls w→AM ls v→st u=st w→L (u++v)=L (w++v)
theorem Uz:∀(n:Nat) (l:List Nat),l.Nodup→(∀x∈l,x < n)→l.length≤n
 | 0,l,_,h=>by cases l with
  | nil=>simp
  | cons x l=>have:=h x (by simp);omega
 | n + 1,l,hd,h=>by
  have h1:=Uz n (l.erase n) (hd.erase n) fun x hx=>by
   have h2:=h x (List.mem_of_mem_erase hx)
   have h3:x≠n:=fun e=>by subst e;exact(List.Nodup.not_mem_erase hd) hx
   omega
  by_cases hn:n∈l
  ·rw [List.length_erase_of_mem hn] at h1;omega
  ·rw [List.erase_of_not_mem hn] at h1;omega
def C1(L:W→Bool)(t:AT)(w:W):Nat:=(AE L t).idxOf (marks L t.cols w)
def runM(L:W→Bool)(t:AT):Nat→W→Nat
 | i,[]=>i
 | i,c::w=>runM L t (C1 L t ((t.rows.getD i [])++[c])) w
theorem UQ(L:W→Bool)(t:AT):∀(u w:W) (i:Nat),runM L t i (u++w)=runM L t (runM L t i u) w
 | [],_,_=>rfl
 | c::u,w,i=>UQ L t u w _
structure BQ (L:W→Bool) (ls:List UInt8) (t:AT):Prop extends TOk L ls t where
 cl:∀r∈t.rows,∀l∈ls,marks L t.cols (r++[l])∈AE L t
theorem BQ.idx{L:W→Bool}{ls:List UInt8}{t:AT}(h:BQ L ls t){i:Nat}{r:W}{l:UInt8}(hi:t.rows[i]? = some r)(hl:l∈ls):∃r',t.rows[C1 L t (r++[l])]? = some r'∧marks L t.cols r'=marks L t.cols (r++[l]):=by
 have h1:=h.cl r (List.mem_of_getElem? hi) l hl
 have h2:C1 L t (r++[l]) < (AE L t).length:=List.idxOf_lt_length_iff.2 h1
 have h3:(AE L t)[C1 L t (r++[l])]'h2=marks L t.cols (r++[l]):=List.getElem_idxOf h2
 have h4:C1 L t (r++[l]) < t.rows.length:=by simpa [AE] using h2
 refine⟨t.rows[C1 L t (r++[l])],List.getElem?_eq_getElem h4,?_⟩
 rw [←h3]
 simp [AE]
theorem BQ.run{L:W→Bool}{ls:List UInt8}{t:AT}(h:BQ L ls t):∀(w:W) (i:Nat),AM ls w→i < t.rows.length→runM L t i w < t.rows.length
 | [],_,_,hi=>hi
 | c::w,i,hw,hi=>by
  have h1:t.rows[i]? = some t.rows[i]:=List.getElem?_eq_getElem hi
  obtain⟨_,h2,_⟩:=h.idx h1 (hw c (by simp))
  have h3:t.rows.getD i []=t.rows[i]:=by simp [h1]
  show runM L t (C1 L t (t.rows.getD i []++[c])) w < _
  rw [h3]
  exact h.run w _ (fun x hx=>hw x (by simp [hx])) (List.getElem?_eq_some_iff.1 h2).1
def splitAt(L:W→Bool)(t:AT)(b:Bool):Nat→W→Option W
 | _,[]=>none
 | i,c::v=>if L (t.rows.getD (C1 L t ((t.rows.getD i [])++[c])) []++v)≠b then some v else splitAt L t b (C1 L t ((t.rows.getD i [])++[c])) v
end Go.Am
namespace Go.Am
open Go Go.Proofs
set_option maxHeartbeats 1000000
attribute [local irreducible] AQ BS Lex Bc Av Spec
variable {TB:Bs}
abbrev Vl(t:AT):List D:=[Cf t.rows,Cf t.cols]
abbrev DO(t:AT):E:=.a [.d (Cf t.rows),.d (Cf t.cols)]
abbrev IT(al:Int)(c:C):E:=.a [.d (iD al),c]
mutual
theorem EK:∀(c:C),c.BW=true→∀r,c.A1 r=c
 | .d x,_,r=>rfl
 | .fn g cap,h,r=>by
  simp only [C.BW] at h
  simp only [C.A1,Ph cap h r]
 | .arr ..,h,_=>by cases h
 | .ptr ..,h,_=>by cases h
 | .mp ..,h,_=>by cases h
 | .mv g l,h,r=>by
  simp only [C.BW] at h
  simp only [C.A1,Ph l h r]
theorem Ph:∀(l:List C),C.C6 l=true→∀r,C.BC r l=l
 | [],_,r=>rfl
 | c::l,h,r=>by
  simp only [C.C6,Bool.and_eq_true] at h
  simp only [C.BC,EK c h.1 r,Ph l h.2 r]
end
structure JH (P:Program) (TB:Bs) (c:C) (L:W→Bool) (ok:W→Prop):Prop where
 BW:c.BW=true
 ask:∀ {Γ:Ctx} {d:Option Tmp} {ty:TypeId} {pos:String} {af:Array Edge} {g:Option (Nat×Bool)} {f:Env} {σ:Ab} {nx:Nat} {x a:Operand} {tys:Array TypeId} {w:W},
  ev f x=some (.o c)→ev f a=some (eT w)→ok w→AQ P TB Γ ⟨d,.call ⟨.value x,#[a],tys⟩,ty,pos,af,g⟩ f σ nx (eB (L w))
def Ut(L:W→Bool)(cols:List W)(w:W)(k:Nat)(i:Nat):UInt8:=if i < k then QW (L (w++cols.getD i [])) else 0
theorem Wz(L:W→Bool)(cols:List W)(w:W):(BD cols.length fun i=>Fs (Ut L cols w cols.length i))=(marks L cols w).map Fs:=by
 apply List.ext_getElem?
 intro i
 by_cases h:i < cols.length
 ·rw [DD h]
  simp [marks,Ut,h]
 ·rw [List.getElem?_eq_none (by simp [BD];omega),List.getElem?_eq_none (by simp [marks];omega)]
theorem lJ:Fs 0=[C.d (D.v (Value.int IntKind.u8 0))]:=rfl
theorem kg(L:W→Bool)(cols:List W)(w:W)(n:Nat):(BD n fun i=>Fs (Ut L cols w 0 i))=List.replicate n (Fs 0):=by
 apply List.ext_getElem?
 intro i
 by_cases h:i < n
 ·rw [DD h];simp [Ut,h]
 ·rw [List.getElem?_eq_none (by simp [BD];omega),List.getElem?_eq_none (by simp;omega)]
theorem bX{L:W→Bool}{cols:List W}{w x:W}{k:Nat}(hx:cols[k]? = some x):(BD cols.length fun i=>Fs (if i=k then QW (L (w++x)) else Ut L cols w k i))=BD cols.length fun i=>Fs (Ut L cols w (k+1) i):=by
 refine CY fun i _=>?_
 congr 1
 unfold Ut
 by_cases h:i=k
 ·subst h
  rw [if_pos rfl,if_pos (by omega)]
  simp [hx]
 ·rw [if_neg h]
  by_cases h2:i < k
  ·rw [if_pos h2,if_pos (by omega)]
  ·rw [if_neg h2,if_neg (by omega)]
theorem KV{c:C}{L:W→Bool}{ok:W→Prop}(hc:JH Tryz.prog TB c L ok)(al:Int)(t:AT)(w:W)(hl:t.cols.length≤1048576)(hk:∀x∈t.cols,ok (w++x))(hb:∀x∈t.cols,w.length+x.length≤1048576) :
 Pure Tryz.prog TB 109 [IT al c,DO t,eT w] (eT (marks L t.cols w)):=by
 have hr:=EK c hc.BW
 refine eN Tryz.func109 rfl (by kernel_rfl) rfl ?_;intro Γ hΓ
 (repeat first|refine aU rfl ?_)
 (refine pW rfl ?_ rfl (by rfl);refine Di rfl rfl ?_)
 (refine Ai rfl ?_;refine Bx (fun _ _=>CW rfl rfl rfl) rfl ?_)
 (repeat first|refine sN rfl ?_ |refine tM rfl ?_ |refine aU rfl ?_ |refine Aa ?_)
 (refine pW rfl ?_ rfl (by rfl);refine Ej rfl rfl (by rfl) (by rfl) (Nat.le_of_ble_eq_true rfl) (by omega) (by omega) (by omega) ?_)
 (repeat first|refine sN rfl ?_ |refine tM rfl ?_ |refine aU rfl ?_ |refine Aa ?_)
 refine aB ?_
 refine Av.AO (α:={k:Nat // k≤t.cols.length}) (fun ⟨k,hkl⟩=>[(2,eT w),(3,.o (.ptr 0 2 0 0)),(7,.o (.arr 1 1 0 t.cols.length)),(15,.o (.d (Cf t.cols))),(16,eI .i64 t.cols.length),(17,eI .i64 k)]) (fun ⟨k,hkl⟩=>[(1,.cells 5 1 (BD t.cols.length fun i=>Fs (Ut L t.cols w k i))),(0,.cells 92 2 [[.d (iD al),c]])]) 2 (fun ⟨k,hkl⟩=>t.cols.length - k) (⟨0,by omega⟩) [0,1] (Dd hΓ rfl rfl) (by (simp[cX,zC,hΓ,Mw,hr,kg,eC,FD,lJ])) ?_;rintro⟨k,hkl⟩;(try dsimp only)
 (repeat first|refine s2 rfl fun _ _hb=>?_ |refine aU rfl ?_ |refine Aa ?_)
 (refine aC rfl ?_ ?_<;>rintro⟨⟩)
 ·have hlt:k < t.cols.length:=by (simp only[oZ] at *;omega)
  obtain⟨x,hx⟩:=get_some (l:=t.cols) (k:=k) hlt
  have hx':=get_map (g:=DZ) hx
  have hxm:=List.mem_of_getElem? hx
  have hxb:=hb x hxm
  have hok:=hk x hxm
  have hg:=KJ (H:=Ut L t.cols w k) (q:=k) (n:=t.cols.length) hlt
  have hs1:(BD t.cols.length fun i=>Fs (Ut L t.cols w k i)).set (0+((k:Nat):Int).toNat) (Af (Fs (Ut L t.cols w k k)) 0 (eC (eI .u8 45)))=BD t.cols.length fun i=>Fs (if i=k then 45 else Ut L t.cols w k i):=N9 (c:=45)
  have hg2:=KJ (H:=fun i=>if i=k then 45 else Ut L t.cols w k i) (q:=k) (n:=t.cols.length) hlt
  rw [←hs1] at hg2
  have hs2:(BD t.cols.length fun i=>Fs (if i=k then 45 else Ut L t.cols w k i)).set (0+((k:Nat):Int).toNat) (Af (Fs (if k=k then 45 else Ut L t.cols w k k)) 0 (eC (eI .u8 43)))=BD t.cols.length fun i=>Fs (if i=k then 43 else Ut L t.cols w k i):=by
   refine(N9 (H:=fun i=>if i=k then 45 else Ut L t.cols w k i) (c:=43)).trans ?_
   refine CY fun i _=>?_
   by_cases h:i=k<;>simp [h]
  have hst:=bX (L:=L) (w:=w) hx
  refine aK ?_
  refine aS (aB ?_)
  (repeat first|((first|refine sM rfl ?_ ?_|refine s4 rfl ‹_› rfl ?_ ?_);first|exact tI|omega)|(refine Ai rfl ?_;refine gA rfl ?_;first| (refine gB (fun _ _=>hc.ask rfl rfl hok) ?_;intro _ _hb)) |refine aU rfl ?_ |refine Aa ?_)
  (refine aC rfl ?_ ?_<;>rintro⟨⟩)
  ·(repeat first|(refine sM rfl ?_ ?_;first|exact tI|omega) |refine t4 rfl ‹_› rfl ?_ |refine aU rfl ?_ |refine Aa ?_)
   refine⟨⟨k+1,by omega⟩,by dsimp only;(omega),[0,1],?_⟩
   rw [hs1,hs2]
   rw [_hb] at hst
   have e43:QW true=43:=rfl
   have e45:QW false=45:=rfl
   simp only [e43,e45] at hst
   simp[cX,zC,hΓ,Mw,hr,hst]
  ·refine aK ?_
   (repeat first|(refine sM rfl ?_ ?_;first|exact tI|omega) |refine aU rfl ?_ |refine Aa ?_)
   refine⟨⟨k+1,by omega⟩,by dsimp only;(omega),[0,1],?_⟩
   rw [hs1]
   rw [_hb] at hst
   have e43:QW true=43:=rfl
   have e45:QW false=45:=rfl
   simp only [e43,e45] at hst
   simp[cX,zC,hΓ,Mw,hr,hst]
 ·obtain rfl:k=t.cols.length:=by (simp only[oZ] at *;omega)
  rw [Wz]
  refine aE ?_
  (repeat first|refine tM rfl ?_|(refine Ai rfl ?_;refine gA rfl ?_;first| refine gQ (N6 (marks L t.cols w) rfl rfl (by simp [marks]) (by rw [List.drop_zero,List.take_of_length_le (by simp [marks])])) (by rfl) ?_) |refine aU rfl ?_ |refine Aa ?_)
  refine aR ⟨_,rfl,rfl⟩
def BN(L:W→Bool)(t:AT):Nat→List (W×Int)
 | 0=>[]
 | k+1=>if (CJ (BN L t k) (marks L t.cols (t.rows.getD k []))).isSome then BN L t k else BN L t k++[(marks L t.cols (t.rows.getD k []),(k:Int))]
structure aD (ok:W→Prop) (t:AT):Prop where
 ok:∀w∈t.rows,∀x∈t.cols,ok (w++x)
 rb:∀w∈t.rows,w.length≤65536
 cb:∀x∈t.cols,x.length≤65536
 rl:t.rows.length≤4096
 cl:t.cols.length≤4096
theorem Hn{c:C}{L:W→Bool}{ok:W→Prop}(hc:JH Tryz.prog TB c L ok)(al:Int)(t:AT)(ht:aD ok t) :
 Spec Tryz.prog TB 108 [] 0 [IT al c,DO t] (fun x σ nx=>x=.o (.mp 0)∧nx=1∧σ=[(0,.mp (ID (BN L t t.rows.length)))]):=by
 have hr:=EK c hc.BW
 have hrl:=ht.rl
 refine eN Tryz.func108 rfl (by kernel_rfl) rfl ?_;intro Γ hΓ
 (repeat first|refine aU rfl ?_)
 (refine pW rfl ?_ rfl (by rfl);refine Di rfl rfl ?_)
 (refine Ai rfl ?_;refine Bx (fun _ _=>CW rfl rfl rfl) rfl ?_)
 (repeat first|refine tM rfl ?_ |refine aU rfl ?_ |refine Aa ?_)
 (refine pW rfl ?_ rfl (by rfl);refine QZ ?_)
 (repeat first|refine sN rfl ?_ |refine tM rfl ?_ |refine aU rfl ?_ |refine Aa ?_)
 refine aB ?_
 refine Av.AO (α:={k:Nat // k≤t.rows.length}) (fun ⟨k,hkl⟩=>[(2,.o (.ptr 0 2 0 0)),(3,.o (.ip (Vl t))),(5,.o (.mp 1)),(13,.o (.d (Cf t.rows))),(14,eI .i64 t.rows.length),(15,eI .i64 k)]) (fun ⟨k,hkl⟩=>[(1,.mp (ID (BN L t k))),(0,.cells 92 2 [[.d (iD al),c]])]) 2 (fun ⟨k,hkl⟩=>t.rows.length - k) (⟨0,by omega⟩) [0,1] (Dd hΓ rfl rfl) (by (simp[cX,zC,hΓ,hr,eC,BN,ID])) ?_;rintro⟨k,hkl⟩;(try dsimp only)
 (repeat first|refine s2 rfl fun _ _hb=>?_ |refine aU rfl ?_ |refine Aa ?_)
 (refine aC rfl ?_ ?_<;>rintro⟨⟩)
 ·have hlt:k < t.rows.length:=by (simp only[oZ] at *;omega)
  obtain⟨x,hx⟩:=get_some (l:=t.rows) (k:=k) hlt
  have hx':=get_map (g:=DZ) hx
  have hxm:=List.mem_of_getElem? hx
  have hxb:=ht.rb x hxm
  have hm:=KV hc al t x (by have:=ht.cl;omega) (ht.ok x hxm) (fun y hy=>by have:=ht.cb y hy;omega)
  have hgd:t.rows.getD k []=x:=by simp [hx]
  have hstep:BN L t (k+1)=if (CJ (BN L t k) (marks L t.cols x)).isSome then BN L t k else BN L t k++[(marks L t.cols x,(k:Int))]:=by
   rw [BN,hgd]
  refine aK ?_
  refine aS (aB ?_)
  (repeat first|refine tM rfl ?_ |(refine s4 rfl ‹_› rfl ?_ ?_;omega) |refine s2 rfl fun _ _hb=>?_|(refine Ai rfl ?_;refine gA rfl ?_;first| refine gS (fun _ _=>AN rfl rfl (by simp [E.BW,C.C6,C.BW,hc.BW]) hm rfl) ?_|refine gQ (cW rfl rfl rfl) (by rfl) ?_) |refine aU rfl ?_ |refine Aa ?_)
  (refine aC rfl ?_ ?_<;>rintro⟨⟩)
  ·have hn:CJ (BN L t k) (marks L t.cols x)=none:=by simpa using _hb
   rw [hn] at hstep
   (repeat first|refine tM rfl ?_ |refine aU rfl ?_)
   (refine Ai rfl ?_;refine HJ ?_ rfl (by rfl);refine ki rfl rfl rfl rfl hn ?_)
   (repeat first|(refine sM rfl ?_ ?_;first|exact tI|omega) |refine aU rfl ?_ |refine Aa ?_)
   refine⟨⟨k+1,by omega⟩,by dsimp only;(omega),[0,1],?_⟩
   simp[cX,zC,hΓ,hr,hstep]
  ·have hn:(CJ (BN L t k) (marks L t.cols x)).isSome=true:=by simpa using _hb
   rw [if_pos hn] at hstep
   refine aK ?_
   (repeat first|(refine sM rfl ?_ ?_;first|exact tI|omega) |refine aU rfl ?_ |refine Aa ?_)
   refine⟨⟨k+1,by omega⟩,by dsimp only;(omega),[0,1],?_⟩
   simp[cX,zC,hΓ,hr,hstep]
 ·obtain rfl:k=t.rows.length:=by (simp only[oZ] at *;omega)
  refine aE ?_
  (repeat first|refine tM rfl ?_ |refine aU rfl ?_ |refine Aa ?_)
  refine Av.names [1] [(4,.o (.mp 0))] [(0,.mp (ID (BN L t t.rows.length)))] (by intro i hi;rw [hΓ] at hi;omega) (by simp) (by simp[cX,zC,hΓ]) (by simp[cX,zC,hΓ]) ?_
  refine aR ⟨_,rfl,rfl,rfl,rfl⟩
theorem Zs(l:List (W×Int))(p:W×Int)(s:W):CJ (l++[p]) s=(CJ l s).or (if p.1=s then some p.2 else none):=by
 unfold CJ
 rw [List.find?_append]
 cases h:l.find? (fun p=>decide (p.1=s)) with
 | some q=>simp
 | none=>by_cases hp:p.1=s<;>simp [hp]
theorem Pl{L:W→Bool}{t:AT}{k:Nat}(h:k < t.rows.length):(AE L t)[k]? = some (marks L t.cols (t.rows.getD k [])):=by
 simp [AE,h]
theorem Rn(L:W→Bool)(t:AT):∀k,k≤t.rows.length→∀s,CJ (BN L t k) s=if s∈(AE L t).take k then some (((AE L t).idxOf s:Nat):Int) else none
 | 0,_,s=>by simp [BN,CJ]
 | k + 1, hk, s=>by
  have ih:=Rn L t k (by omega)
  have hx:=Pl (L:=L) (t:=t) (k:=k) (by omega)
  generalize marks L t.cols (t.rows.getD k [])=x at *
  have hst:BN L t (k+1)=if (CJ (BN L t k) x).isSome then BN L t k else BN L t k++[(x,(k:Int))]:=by
   have hx2:=Pl (L:=L) (t:=t) (k:=k) (by omega)
   rw [hx] at hx2
   injection hx2 with hx2
   rw [BN,←hx2]
  have htk:∀s,s∈(AE L t).take (k+1)↔s∈(AE L t).take k∨s=x:=fun s=>by
   rw [List.take_add_one,hx];simp
  rw [hst]
  by_cases hm:x∈(AE L t).take k
  ·rw [if_pos (by rw [ih x,if_pos hm];rfl),ih s]
   by_cases hs:s∈(AE L t).take k
   ·rw [if_pos hs,if_pos ((htk s).2 (.inl hs))]
   ·rw [if_neg hs,if_neg]
    intro h
    rcases(htk s).1 h with h|h
    ·exact hs h
    ·subst h;exact hs hm
  ·rw [if_neg (by rw [ih x,if_neg hm];simp),Zs,ih s]
   by_cases hs:s∈(AE L t).take k
   ·rw [if_pos hs,if_pos ((htk s).2 (.inl hs))];rfl
   ·rw [if_neg hs]
    by_cases he:x=s
    ·subst he
     rw [if_pos ((htk x).2 (.inr rfl))]
     have hix:(AE L t).idxOf x=k:=by
      have hl:k < (AE L t).length:=(List.getElem?_eq_some_iff.1 hx).1
      have e:AE L t=(AE L t).take k++x::(AE L t).drop (k+1):=by
       rw [←Bl hx,List.take_append_drop]
      rw [e,List.idxOf_append,if_neg hm,List.idxOf_cons_self]
      simp;omega
     simp [hix]
    ·have hns:s∉(AE L t).take (k+1):=fun h=>by
      rcases(htk s).1 h with h|h
      ·exact hs h
      ·exact he h.symm
     rw [if_neg hns]
     simp [he]
theorem UA{L:W→Bool}{t:AT}{s:W}:CJ (BN L t t.rows.length) s=if s∈AE L t then some (((AE L t).idxOf s:Nat):Int) else none:=by
 have h:=Rn L t t.rows.length (Nat.le_refl _) s
 have e:(AE L t).take t.rows.length=AE L t:=List.take_of_length_le (by simp [AE])
 rwa [e] at h
theorem Yv{L:W→Bool}{ls:List UInt8}{t:AT}{k j:Nat}{r:W}{l:UInt8}(hr:t.rows[k]? = some r)(hl:ls[j]? = some l)(h1:∀w∈CE ls (t.rows.take k),marks L t.cols w∈AE L t)(h2:∀x∈ls.take j,marks L t.cols (r++[x])∈AE L t)
 (h3:marks L t.cols (r++[l])∉AE L t):A8 L ls t=some (r++[l]):=by
 have e1:t.rows=t.rows.take k++r::t.rows.drop (k+1):=by
  rw [←Bl hr,List.take_append_drop]
 have e2:ls=ls.take j++l::ls.drop (j+1):=by
  rw [←Bl hl,List.take_append_drop]
 have e3:CE ls t.rows=CE ls (t.rows.take k)++((ls.take j).map (fun x=>r++[x])++(r++[l])::((ls.drop (j+1)).map (fun x=>r++[x])++CE ls (t.rows.drop (k+1)))):=by
  have h4:CE ls t.rows=CE ls (t.rows.take k++r::t.rows.drop (k+1)):=congrArg _ e1
  rw [h4]
  unfold CE
  rw [List.flatMap_append,List.flatMap_cons]
  have h5:ls.map (fun x=>r++[x])=(ls.take j++l::ls.drop (j+1)).map (fun x=>r++[x]):=congrArg _ e2
  rw [h5]
  simp
 unfold A8
 rw [e3,List.find?_append,List.find?_append]
 have n1:(CE ls (t.rows.take k)).find? (fun w=>!(AE L t).contains (marks L t.cols w))=none:=List.find?_eq_none.2 fun w hw=>by simpa using h1 w hw
 have n2:((ls.take j).map (fun x=>r++[x])).find? (fun w=>!(AE L t).contains (marks L t.cols w))=none:=List.find?_eq_none.2 fun w hw=>by
  obtain⟨x,hx,rfl⟩:=List.mem_map.1 hw
  simpa using h2 x hx
 rw [n1,n2]
 simp [h3]
def lb(l:Int):UInt8:=UInt8.ofNat (97+l.toNat)
def A0(al:Int):List UInt8:=(Ac al).map lb
def Zh(o:Option W):E:=match o with
 | some w=>.t [(false,[.d (tD w)]),(false,[.d (bD true)])]
 | none=>.t [(false,[.d (tD [])]),(false,[.d (bD false)])]
theorem bR{l:Int}(h0:0≤l):UInt8.ofNat (97+l).toNat=lb l:=by
 unfold lb
 congr 1
 omega
theorem TU{L:W→Bool}{t:AT}{s:W}:(CJ (BN L t t.rows.length) s).isSome=true↔s∈AE L t:=by
 rw [UA]
 by_cases h:s∈AE L t<;>simp [h]
theorem O1{ls:List UInt8}{t:AT}{k:Nat}{r:W}(h:t.rows[k]? = some r):CE ls (t.rows.take (k+1))=CE ls (t.rows.take k)++ls.map fun l=>r++[l]:=by
 unfold CE
 rw [List.take_add_one,h]
 simp
theorem Sf{c:C}{L:W→Bool}{ok:W→Prop}(hc:JH Tryz.prog TB c L ok)(al:Int)(t:AT)(ht:aD ok t)(hn:∀w∈t.rows,∀l∈A0 al,∀x∈t.cols,ok (w++[l]++x)) :
 Pure Tryz.prog TB 158 [IT al c,DO t] (Zh (A8 L (A0 al) t)):=by
 have hr:=EK c hc.BW
 have hrl:=ht.rl
 have hla:(Ac al).length≤6:=AS al 6
 refine eN Tryz.func158 rfl (by kernel_rfl) rfl ?_;intro Γ hΓ
 (repeat first|refine aU rfl ?_)
 (refine pW rfl ?_ rfl (by rfl);refine Di rfl rfl ?_)
 (refine Ai rfl ?_;refine Bx (fun _ _=>CW rfl rfl rfl) rfl ?_)
 (repeat first|refine tM rfl ?_ |refine aU rfl ?_ |refine Aa ?_)
 (refine pW rfl ?_ rfl (by rfl);refine Bq [] rfl rfl (Hn hc al t ht) ⟨rfl,by simp,by simp⟩ (by simp [EI,E.A1,C.BC,C.A1,hr,eC]) trivial ?_;rintro x0 σ1 nx1 ⟨rfl,rfl,rfl⟩ _)
 (repeat first|refine sN rfl ?_ |refine tM rfl ?_ |refine aU rfl ?_ |refine Aa ?_)
 refine aB ?_
 refine Av.AO (α:={k:Nat // k≤t.rows.length∧∀w∈CE (A0 al) (t.rows.take k),marks L t.cols w∈AE L t}) (fun ⟨k,hkl,hkd⟩=>[(2,.o (.ptr 0 2 0 0)),(3,.o (.ip (Vl t))),(6,.o (.mp 1)),(18,.o (.d (Cf t.rows))),(19,eI .i64 t.rows.length),(20,eI .i64 k)]) (fun ⟨k,hkl,hkd⟩=>[(1,.mp (ID (BN L t t.rows.length))),(0,.cells 92 2 [[.d (iD al),c]])]) 2 (fun ⟨k,hkl,hkd⟩=>t.rows.length - k) (⟨0,by omega,by simp [CE]⟩) [0,1] (Dd hΓ rfl rfl) (by (simp[cX,zC,hΓ,hr,eC,Ab.A1,BK,Iw])) ?_;rintro⟨k,hkl,hkd⟩;(try dsimp only)
 (repeat first|refine s2 rfl fun _ _hb=>?_ |refine aU rfl ?_ |refine Aa ?_)
 (refine aC rfl ?_ ?_<;>rintro⟨⟩)
 ·have hlt:k < t.rows.length:=by (simp only[oZ] at *;omega)
  obtain⟨r,hx⟩:=get_some (l:=t.rows) (k:=k) hlt
  have hx':=get_map (g:=DZ) hx
  have hxm:=List.mem_of_getElem? hx
  have hxb:=ht.rb r hxm
  refine aK ?_
  refine aS (aB ?_)
  (repeat first|refine sN rfl ?_ |refine tM rfl ?_ |(refine s4 rfl ‹_› rfl ?_ ?_;omega) |refine sP rfl (CK al) rfl ?_ |refine aU rfl ?_ |refine Aa ?_)
  refine aB ?_
  refine Av.AO (α:={j:Nat // j≤(Ac al).length∧∀x∈(A0 al).take j,marks L t.cols (r++[x])∈AE L t}) (fun ⟨j,hjl,hjd⟩=>[(2,.o (.ptr 0 2 0 0)),(3,.o (.ip (Vl t))),(6,.o (.mp 1)),(18,.o (.d (Cf t.rows))),(19,eI .i64 t.rows.length),(20,eI .i64 k),(8,eT r),(26,Ag (Ac al)),(27,eI .i64 (Ac al).length),(28,eI .i64 j)]) (fun ⟨j,hjl,hjd⟩=>[(1,.mp (ID (BN L t t.rows.length))),(0,.cells 92 2 [[.d (iD al),c]])]) 2 (fun ⟨j,hjl,hjd⟩=>(Ac al).length - j) (⟨0,by omega,by simp⟩) [0,1] (Dd hΓ rfl rfl) (by (simp[cX,zC,hΓ,hr])) ?_;rintro⟨j,hjl,hjd⟩;(try dsimp only)
  (repeat first|refine s2 rfl fun _ _hb=>?_ |refine aU rfl ?_ |refine Aa ?_)
  (refine aC rfl ?_ ?_<;>rintro⟨⟩)
  ·have hjlt:j < (Ac al).length:=by (simp only[oZ] at *;omega)
   obtain⟨l,hl⟩:=get_some (l:=Ac al) (k:=j) hjlt
   have hl':=get_map (g:=Bk) hl
   have hlb:=Ak (List.mem_of_getElem? hl)
   have hll:(A0 al)[j]? = some (lb l):=by simp [A0,hl]
   have hlm:=List.mem_of_getElem? hll
   have hm:=KV hc al t (r++[lb l]) (by have:=ht.cl;omega) (fun x hx=>hn r hxm _ hlm x hx) (fun y hy=>by have:=ht.cb y hy;simp;omega)
   refine aK ?_
   refine aS (aB ?_)
   (repeat first|(refine sM rfl ?_ ?_;first|exact tI|omega|simp only[oZ] at *;omega) |(refine s4 rfl ‹_› rfl ?_ ?_;omega) |refine sP rfl (Fi l hlb.1 (by omega)) rfl ?_|(refine Ai rfl ?_;refine gA rfl ?_;first| refine gS (fun _ _=>WM rfl (by omega) (by omega)) ?_) |refine aU rfl ?_ |refine Aa ?_)
   rw [bR hlb.1]
   (repeat first|refine tM rfl ?_ |refine s2 rfl fun _ _hb=>?_|(refine Ai rfl ?_;refine gA rfl ?_;first| refine gS (fun _ _=>AN rfl rfl (by simp [E.BW,C.C6,C.BW,hc.BW]) hm rfl) ?_|refine gQ (cW rfl rfl rfl) (by rfl) ?_) |refine aU rfl ?_ |refine Aa ?_)
   (refine aC rfl ?_ ?_<;>rintro⟨⟩)
   ·have hno:marks L t.cols (r++[lb l])∉AE L t:=fun h=>by
     rw [TU.2 h] at _hb
     cases _hb
    (repeat first|refine tM rfl ?_ |refine aU rfl ?_ |refine Aa ?_)
    refine aR ⟨_,rfl,?_⟩
    rw [Yv hx hll hkd hjd hno]
    rfl
   ·have hyes:marks L t.cols (r++[lb l])∈AE L t:=TU.1 (by simpa using _hb)
    have hjd2:∀x∈(A0 al).take (j+1),marks L t.cols (r++[x])∈AE L t:=fun x hx=>by
     rw [List.take_add_one,hll] at hx
     rcases List.mem_append.1 hx with hx|hx
     ·exact hjd x hx
     ·simp at hx;subst hx;exact hyes
    refine aK ?_
    (repeat first|(refine sM rfl ?_ ?_;first|exact tI|omega) |refine aU rfl ?_ |refine Aa ?_)
    refine⟨⟨j+1,by omega,hjd2⟩,by dsimp only;(omega),[0,1],?_⟩
    simp[cX,zC,hΓ,hr]
  ·obtain rfl:j=(Ac al).length:=by (simp only[oZ] at *;omega)
   have hkd2:∀w∈CE (A0 al) (t.rows.take (k+1)),marks L t.cols w∈AE L t:=fun w hw=>by
    rw [O1 hx] at hw
    rcases List.mem_append.1 hw with hw|hw
    ·exact hkd w hw
    ·obtain⟨x,hx2,rfl⟩:=List.mem_map.1 hw
     exact hjd x (by rw [List.take_of_length_le (by simp [A0])];exact hx2)
   refine aE ?_
   (repeat first|(refine sM rfl ?_ ?_;first|exact tI|omega) |refine aU rfl ?_ |refine Aa ?_)
   refine⟨⟨k+1,by omega,hkd2⟩,by dsimp only;(omega),[0,1],?_⟩
   simp[cX,zC,hΓ,hr]
 ·obtain rfl:k=t.rows.length:=by (simp only[oZ] at *;omega)
  have hno:A8 L (A0 al) t=none:=List.find?_eq_none.2 fun w hw=>by
   have:=hkd w (by rw [List.take_length];exact hw)
   simpa using this
  refine aE ?_
  (repeat first|refine tM rfl ?_ |refine aU rfl ?_ |refine Aa ?_)
  refine aR ⟨_,rfl,?_⟩
  rw [hno]
  rfl
end Go.Am
