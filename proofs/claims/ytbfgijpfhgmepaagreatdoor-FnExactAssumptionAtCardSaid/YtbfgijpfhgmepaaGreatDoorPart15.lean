/-
  Copies and comparisons of the law's arguments.
-/
import Derived.Test.YtbfgijpfhgmepaaGreatDoorPart14
import Derived.Test.YtbfgijpfhgmepaaGreatDoorPart9
import Derived.Test.YtbfgijpfhgmepaaGreatDoorPart5
import Derived.Test.YtbfgijpfhgmepaaGreatDoorPart6
set_option linter.constructorNameAsVariable false
set_option linter.unusedSectionVars false
set_option linter.unusedSimpArgs false
set_option linter.unusedVariables false
namespace Go.Am
open Go Go.Proofs
set_option maxHeartbeats 1000000
attribute [local irreducible] AS BT Lex Bc Au Spec
variable {TB:Bt}
def C3{α:Type}(l:List α)(z:α)(k:Nat):List α:=l.take k++List.replicate (l.length - k) z
theorem Km{α:Type}(l:List α)(z:α):C3 l z 0=List.replicate l.length z:=by simp [C3]
theorem GG{α:Type}(l:List α)(z:α):C3 l z l.length=l:=by simp [C3]
theorem GH{α:Type}{l:List α}{z:α}{k:Nat}(h:k < l.length):(C3 l z k)[0+((k:Nat):Int).toNat]? = some z:=by
 rw [Nat.zero_add,Int.toNat_natCast]
 unfold C3
 rw [List.getElem?_append_right (by simp;omega)]
 have:0 < l.length - k:=by omega
 have e:k - (l.take k).length=0:=by simp;omega
 rw [e,List.getElem?_replicate,if_pos this]
theorem GJ{α:Type}{l:List α}{z x:α}{k:Nat}(h:l[k]? = some x):(C3 l z k).set (0+((k:Nat):Int).toNat) x=C3 l z (k+1):=by
 have hk:=(List.getElem?_eq_some_iff.1 h).1
 rw [Nat.zero_add,Int.toNat_natCast]
 unfold C3
 rw [List.set_append_right _ _ (by simp;omega)]
 have e1:k - (l.take k).length=0:=by simp;omega
 have e2:l.length - k=(l.length - (k+1))+1:=by omega
 rw [e1,e2,List.replicate_succ,List.set_cons_zero,List.take_add_one,h]
 simp
theorem GI{l:List (List C)}{z:List C}{k:Nat}{r:Nat→Nat}(hl:∀x∈l,C.BB r x=x)(hz:C.BB r z=z):(C3 l z k).map (C.BB r)=C3 l z k:=by
 unfold C3
 rw [List.map_append,List.map_replicate,hz]
 congr 1
 refine(List.map_congr_left fun x hx=>?_).trans (List.map_id _)
 exact hl x (List.mem_of_mem_take hx)
theorem aJ(l:List Int)(h:l.length≤1048576):Pure Tryz.prog TB 87 [Ag l] (Ag l):=by
 have hren:∀(r:Nat→Nat) k,(C3 (l.map Al) (Al 0) k).map (C.BB r)=C3 (l.map Al) (Al 0) k:=fun r k=>GI (fun x hx=>by obtain⟨y,_,rfl⟩:=List.mem_map.1 hx;rfl) rfl
 have hlm:(l.map Al).length=l.length:=by simp
 refine eN Tryz.func87 rfl (by kernel_rfl) rfl ?_;intro Γ hΓ
 (repeat first |refine sN rfl ?_ |((first|refine sM rfl ?_ ?_|refine s4 rfl ‹_› rfl ?_ ?_);first|exact tI|omega|simp only[oZ] at *;omega) |refine s2 rfl fun _ _hb=>?_ |refine s3 rfl ?_ ?_<;>rintro rfl |refine aU rfl ?_ |refine Aa ?_ |refine rE (by kernel_rfl) ?_)
 (refine Ai rfl ?_;refine Bs (fun _ _=>Br rfl) rfl ?_)
 (repeat first |refine sN rfl ?_ |((first|refine sM rfl ?_ ?_|refine s4 rfl ‹_› rfl ?_ ?_);first|exact tI|omega|simp only[oZ] at *;omega) |refine s2 rfl fun _ _hb=>?_ |refine s3 rfl ?_ ?_<;>rintro rfl |refine aU rfl ?_ |refine Aa ?_ |refine rE (by kernel_rfl) ?_)
 (refine pW rfl ?_ rfl (by rfl);refine Eo rfl rfl (by rfl) (by rfl) (Nat.le_of_ble_eq_true rfl) (by omega) (by omega) (by omega) ?_)
 (repeat first |refine sN rfl ?_ |((first|refine sM rfl ?_ ?_|refine s4 rfl ‹_› rfl ?_ ?_);first|exact tI|omega|simp only[oZ] at *;omega) |refine s2 rfl fun _ _hb=>?_ |refine s3 rfl ?_ ?_<;>rintro rfl |refine aU rfl ?_ |refine Aa ?_ |refine rE (by kernel_rfl) ?_)
 refine aB ?_
 refine Au.AP (α:={k:Nat // k≤l.length}) (fun ⟨k,hk⟩=>[(0,Ag l),(3,.o (.arr 0 1 0 l.length)),(4,eI .i64 k)]) (fun ⟨k,hk⟩=>[(0,.cells 3 1 (C3 (l.map Al) (Al 0) k))]) 1 (fun ⟨k,hk⟩=>l.length - k) (⟨0,by omega⟩) [0] (Di hΓ rfl rfl) (by ((repeat' first|exact tI|rfl|refine And.intro ?_ ?_)<;>(simp[cX,zC,hΓ,Km,hren]))) ?_;rintro⟨k,hk⟩;(try dsimp only)
 (repeat first |refine sN rfl ?_ |((first|refine sM rfl ?_ ?_|refine s4 rfl ‹_› rfl ?_ ?_);first|exact tI|omega|simp only[oZ] at *;omega) |refine s2 rfl fun _ _hb=>?_ |refine s3 rfl ?_ ?_<;>rintro rfl |refine aU rfl ?_ |refine Aa ?_ |refine rE (by kernel_rfl) ?_)
 (refine aC rfl ?_ ?_<;>rintro⟨⟩)
 ·obtain⟨x,hx⟩:=get_some (l:=l) (k:=k) (by first|omega|simp only[oZ] at *;omega)
  have hx':=get_map (g:=Bm) hx
  have hg:=GH (l:=l.map Al) (z:=Al 0) (k:=k) (by first|omega|simp only[oZ] at *;omega)
  have hs:=GJ (l:=l.map Al) (z:=Al 0) (k:=k) (x:=Al x) (by simp [hx])
  refine aK ?_
  refine aS (aB ?_)
  (repeat first |refine sN rfl ?_ |((first|refine sM rfl ?_ ?_|refine s4 rfl ‹_› rfl ?_ ?_);first|exact tI|omega|simp only[oZ] at *;omega) |refine s2 rfl fun _ _hb=>?_ |refine s3 rfl ?_ ?_<;>rintro rfl |refine aU rfl ?_ |refine Aa ?_ |refine rE (by kernel_rfl) ?_)
  refine⟨⟨k+1,by first|omega|simp only[oZ] at *;omega⟩,by dsimp only;(first|omega|simp only[oZ] at *;omega),[0],?_⟩
  have hsp:Af (Al 0) 0 (eC (eI .i64 x))=Al x:=rfl
  rw [hsp,hs]
  simp[cX,zC,hΓ,hren]
 ·obtain rfl:k=l.length:=by first|omega|simp only[oZ] at *;omega
  have he:C3 (l.map Al) (Al 0) l.length=l.map Al:=by
   have:=GG (l.map Al) (Al 0)
   rwa [hlm] at this
  rw [he]
  refine aE ?_
  (repeat first |refine sN rfl ?_ |((first|refine sM rfl ?_ ?_|refine s4 rfl ‹_› rfl ?_ ?_);first|exact tI|omega|simp only[oZ] at *;omega) |refine s2 rfl fun _ _hb=>?_ |refine s3 rfl ?_ ?_<;>rintro rfl |refine aU rfl ?_ |refine Aa ?_ |refine rE (by kernel_rfl) ?_)
  refine Au.freeze [0] [(2,Ag l)] ⟨⟨_,rfl,.o (.full (by simp) rfl (by simp [Function.comp_def]) (by simp))⟩,trivial⟩ ?_
  refine aR ⟨_,rfl,rfl⟩
theorem Xq(l:List Bool)(h:l.length≤1048576):Pure Tryz.prog TB 46 [EG l] (EG l):=by
 have hren:∀(r:Nat→Nat) k,(C3 (l.map Ax) ((Ax false)) k).map (C.BB r)=C3 (l.map Ax) ((Ax false)) k:=fun r k=>GI (fun x hx=>by obtain⟨y,_,rfl⟩:=List.mem_map.1 hx;rfl) rfl
 have hlm:(l.map Ax).length=l.length:=by simp
 refine eN Tryz.func46 rfl (by kernel_rfl) rfl ?_;intro Γ hΓ
 (repeat first |refine sN rfl ?_ |((first|refine sM rfl ?_ ?_|refine s4 rfl ‹_› rfl ?_ ?_);first|exact tI|omega|simp only[oZ] at *;omega) |refine s2 rfl fun _ _hb=>?_ |refine s3 rfl ?_ ?_<;>rintro rfl |refine aU rfl ?_ |refine Aa ?_ |refine rE (by kernel_rfl) ?_)
 (refine Ai rfl ?_;refine Bs (fun _ _=>Br rfl) rfl ?_)
 (repeat first |refine sN rfl ?_ |((first|refine sM rfl ?_ ?_|refine s4 rfl ‹_› rfl ?_ ?_);first|exact tI|omega|simp only[oZ] at *;omega) |refine s2 rfl fun _ _hb=>?_ |refine s3 rfl ?_ ?_<;>rintro rfl |refine aU rfl ?_ |refine Aa ?_ |refine rE (by kernel_rfl) ?_)
 (refine pW rfl ?_ rfl (by rfl);refine Eo rfl rfl (by rfl) (by rfl) (Nat.le_of_ble_eq_true rfl) (by omega) (by omega) (by omega) ?_)
 (repeat first |refine sN rfl ?_ |((first|refine sM rfl ?_ ?_|refine s4 rfl ‹_› rfl ?_ ?_);first|exact tI|omega|simp only[oZ] at *;omega) |refine s2 rfl fun _ _hb=>?_ |refine s3 rfl ?_ ?_<;>rintro rfl |refine aU rfl ?_ |refine Aa ?_ |refine rE (by kernel_rfl) ?_)
 refine aB ?_
 refine Au.AP (α:={k:Nat // k≤l.length}) (fun ⟨k,hk⟩=>[(0,EG l),(3,.o (.arr 0 1 0 l.length)),(4,eI .i64 k)]) (fun ⟨k,hk⟩=>[(0,.cells 4 1 (C3 (l.map Ax) ((Ax false)) k))]) 1 (fun ⟨k,hk⟩=>l.length - k) (⟨0,by omega⟩) [0] (Di hΓ rfl rfl) (by ((repeat' first|exact tI|rfl|refine And.intro ?_ ?_)<;>(simp[cX,zC,hΓ,Km,hren]))) ?_;rintro⟨k,hk⟩;(try dsimp only)
 (repeat first |refine sN rfl ?_ |((first|refine sM rfl ?_ ?_|refine s4 rfl ‹_› rfl ?_ ?_);first|exact tI|omega|simp only[oZ] at *;omega) |refine s2 rfl fun _ _hb=>?_ |refine s3 rfl ?_ ?_<;>rintro rfl |refine aU rfl ?_ |refine Aa ?_ |refine rE (by kernel_rfl) ?_)
 (refine aC rfl ?_ ?_<;>rintro⟨⟩)
 ·obtain⟨x,hx⟩:=get_some (l:=l) (k:=k) (by first|omega|simp only[oZ] at *;omega)
  have hx':=get_map (g:=Ib) hx
  have hg:=GH (l:=l.map Ax) (z:=(Ax false)) (k:=k) (by first|omega|simp only[oZ] at *;omega)
  have hs:=GJ (l:=l.map Ax) (z:=(Ax false)) (k:=k) (x:=Ax x) (by simp [hx])
  refine aK ?_
  refine aS (aB ?_)
  (repeat first |refine sN rfl ?_ |((first|refine sM rfl ?_ ?_|refine s4 rfl ‹_› rfl ?_ ?_);first|exact tI|omega|simp only[oZ] at *;omega) |refine s2 rfl fun _ _hb=>?_ |refine s3 rfl ?_ ?_<;>rintro rfl |refine aU rfl ?_ |refine Aa ?_ |refine rE (by kernel_rfl) ?_)
  refine⟨⟨k+1,by first|omega|simp only[oZ] at *;omega⟩,by dsimp only;(first|omega|simp only[oZ] at *;omega),[0],?_⟩
  have hsp:Af ((Ax false)) 0 (eC (eB x))=Ax x:=rfl
  rw [hsp,hs]
  simp[cX,zC,hΓ,hren]
 ·obtain rfl:k=l.length:=by first|omega|simp only[oZ] at *;omega
  have he:C3 (l.map Ax) ((Ax false)) l.length=l.map Ax:=by
   have:=GG (l.map Ax) ((Ax false))
   rwa [hlm] at this
  rw [he]
  refine aE ?_
  (repeat first |refine sN rfl ?_ |((first|refine sM rfl ?_ ?_|refine s4 rfl ‹_› rfl ?_ ?_);first|exact tI|omega|simp only[oZ] at *;omega) |refine s2 rfl fun _ _hb=>?_ |refine s3 rfl ?_ ?_<;>rintro rfl |refine aU rfl ?_ |refine Aa ?_ |refine rE (by kernel_rfl) ?_)
  refine Au.freeze [0] [(2,EG l)] ⟨⟨_,rfl,.o (.full (by simp) rfl (by simp [Function.comp_def]) (by simp))⟩,trivial⟩ ?_
  refine aR ⟨_,rfl,rfl⟩
theorem Xt(l:List (List Int))(h:l.length≤1048576)(hr:∀r∈l,r.length≤1048576):Pure Tryz.prog TB 45 [Cm l] (Cm l):=by
 have hren:∀(r:Nat→Nat) k,(C3 (l.map FO) ((Fo [])) k).map (C.BB r)=C3 (l.map FO) ((Fo [])) k:=fun r k=>GI (fun x hx=>by obtain⟨y,_,rfl⟩:=List.mem_map.1 hx;rfl) rfl
 have hlm:(l.map FO).length=l.length:=by simp
 refine eN Tryz.func45 rfl (by kernel_rfl) rfl ?_;intro Γ hΓ
 (repeat first |refine sN rfl ?_ |((first|refine sM rfl ?_ ?_|refine s4 rfl ‹_› rfl ?_ ?_);first|exact tI|omega|simp only[oZ] at *;omega) |refine s2 rfl fun _ _hb=>?_ |refine s3 rfl ?_ ?_<;>rintro rfl |refine aU rfl ?_ |refine Aa ?_ |refine rE (by kernel_rfl) ?_)
 (refine Ai rfl ?_;refine Bs (fun _ _=>Br rfl) rfl ?_)
 (repeat first |refine sN rfl ?_ |((first|refine sM rfl ?_ ?_|refine s4 rfl ‹_› rfl ?_ ?_);first|exact tI|omega|simp only[oZ] at *;omega) |refine s2 rfl fun _ _hb=>?_ |refine s3 rfl ?_ ?_<;>rintro rfl |refine aU rfl ?_ |refine Aa ?_ |refine rE (by kernel_rfl) ?_)
 (refine pW rfl ?_ rfl (by rfl);refine Eo rfl rfl (by rfl) (by rfl) (Nat.le_of_ble_eq_true rfl) (by omega) (by omega) (by omega) ?_)
 (repeat first |refine sN rfl ?_ |((first|refine sM rfl ?_ ?_|refine s4 rfl ‹_› rfl ?_ ?_);first|exact tI|omega|simp only[oZ] at *;omega) |refine s2 rfl fun _ _hb=>?_ |refine s3 rfl ?_ ?_<;>rintro rfl |refine aU rfl ?_ |refine Aa ?_ |refine rE (by kernel_rfl) ?_)
 refine aB ?_
 refine Au.AP (α:={k:Nat // k≤l.length}) (fun ⟨k,hk⟩=>[(0,Cm l),(3,.o (.arr 0 1 0 l.length)),(4,eI .i64 k)]) (fun ⟨k,hk⟩=>[(0,.cells 62 1 (C3 (l.map FO) ((Fo [])) k))]) 1 (fun ⟨k,hk⟩=>l.length - k) (⟨0,by omega⟩) [0] (Di hΓ rfl rfl) (by ((repeat' first|exact tI|rfl|refine And.intro ?_ ?_)<;>(simp[cX,zC,hΓ,Km,hren]))) ?_;rintro⟨k,hk⟩;(try dsimp only)
 (repeat first |refine sN rfl ?_ |((first|refine sM rfl ?_ ?_|refine s4 rfl ‹_› rfl ?_ ?_);first|exact tI|omega|simp only[oZ] at *;omega) |refine s2 rfl fun _ _hb=>?_ |refine s3 rfl ?_ ?_<;>rintro rfl |refine aU rfl ?_ |refine Aa ?_ |refine rE (by kernel_rfl) ?_)
 (refine aC rfl ?_ ?_<;>rintro⟨⟩)
 ·obtain⟨x,hx⟩:=get_some (l:=l) (k:=k) (by first|omega|simp only[oZ] at *;omega)
  have hx':=get_map (g:=Dw) hx
  have hg:=GH (l:=l.map FO) (z:=(Fo [])) (k:=k) (by first|omega|simp only[oZ] at *;omega)
  have hs:=GJ (l:=l.map FO) (z:=(Fo [])) (k:=k) (x:=FO x) (by simp [hx])
  refine aK ?_
  refine aS (aB ?_)
  have hxl:=hr x (List.mem_of_getElem? hx)
  (repeat first |refine sN rfl ?_ |((first|refine sM rfl ?_ ?_|refine s4 rfl ‹_› rfl ?_ ?_);first|exact tI|omega|simp only[oZ] at *;omega) |refine s2 rfl fun _ _hb=>?_ |refine sP rfl (aJ x hxl) rfl ?_ |refine s3 rfl ?_ ?_<;>rintro rfl |refine aU rfl ?_ |refine Aa ?_ |refine rE (by kernel_rfl) ?_)
  refine⟨⟨k+1,by first|omega|simp only[oZ] at *;omega⟩,by dsimp only;(first|omega|simp only[oZ] at *;omega),[0],?_⟩
  have hsp:Af ((Fo [])) 0 (eC (Ag x))=FO x:=rfl
  rw [hsp,hs]
  simp[cX,zC,hΓ,hren]
 ·obtain rfl:k=l.length:=by first|omega|simp only[oZ] at *;omega
  have he:C3 (l.map FO) ((Fo [])) l.length=l.map FO:=by
   have:=GG (l.map FO) ((Fo []))
   rwa [hlm] at this
  rw [he]
  refine aE ?_
  (repeat first |refine sN rfl ?_ |((first|refine sM rfl ?_ ?_|refine s4 rfl ‹_› rfl ?_ ?_);first|exact tI|omega|simp only[oZ] at *;omega) |refine s2 rfl fun _ _hb=>?_ |refine s3 rfl ?_ ?_<;>rintro rfl |refine aU rfl ?_ |refine Aa ?_ |refine rE (by kernel_rfl) ?_)
  refine Au.freeze [0] [(2,Cm l)] ⟨⟨_,rfl,.o (.full (by simp) rfl (by simp [Function.comp_def]) (by simp))⟩,trivial⟩ ?_
  refine aR ⟨_,rfl,rfl⟩
theorem RN(e:ET):Pure Tryz.prog TB 86 [OI e] (OI e):=by
 refine Spec.lN 2 126 3 [] Tryz.func86 rfl (by kernel_rfl) rfl (Nat.le_of_ble_eq_true rfl) ?_;intro Γ hΓ
 (repeat first |refine sN rfl ?_ |((first|refine sA rfl ?_ ?_|refine s4 rfl ‹_› rfl ?_ ?_);first|exact tI|omega|simp only[oZ] at *;omega) |refine s2 rfl fun _ _hb=>?_ |refine s3 rfl ?_ ?_<;>rintro rfl |refine aU rfl ?_ |refine Aa ?_)
 refine aR ⟨⟨0,3,0,126,_,AA e,_,rfl,rfl,rfl,.AE,rfl⟩,?_⟩
 intro id k i h
 injection h with h;injection h with h;injection h with _ h;exact h.symm
theorem Xr(l:List ET)(h:l.length≤1048576):Pure Tryz.prog TB 44 [HE l] (HE l):=by
 have hren:∀(r:Nat→Nat) k,(C3 (l.map AA) ((AA ⟨0,0,0⟩)) k).map (C.BB r)=C3 (l.map AA) ((AA ⟨0,0,0⟩)) k:=fun r k=>GI (fun x hx=>by obtain⟨y,_,rfl⟩:=List.mem_map.1 hx;rfl) rfl
 have hlm:(l.map AA).length=l.length:=by simp
 refine eN Tryz.func44 rfl (by kernel_rfl) rfl ?_;intro Γ hΓ
 (repeat first |refine sN rfl ?_ |((first|refine sM rfl ?_ ?_|refine s4 rfl ‹_› rfl ?_ ?_);first|exact tI|omega|simp only[oZ] at *;omega) |refine s2 rfl fun _ _hb=>?_ |refine s3 rfl ?_ ?_<;>rintro rfl |refine aU rfl ?_ |refine Aa ?_ |refine rE (by kernel_rfl) ?_)
 (refine Ai rfl ?_;refine Bs (fun _ _=>Br rfl) rfl ?_)
 (repeat first |refine sN rfl ?_ |((first|refine sM rfl ?_ ?_|refine s4 rfl ‹_› rfl ?_ ?_);first|exact tI|omega|simp only[oZ] at *;omega) |refine s2 rfl fun _ _hb=>?_ |refine s3 rfl ?_ ?_<;>rintro rfl |refine aU rfl ?_ |refine Aa ?_ |refine rE (by kernel_rfl) ?_)
 (refine pW rfl ?_ rfl (by rfl);refine Eo rfl rfl (by rfl) (by rfl) (Nat.le_of_ble_eq_true rfl) (by omega) (by omega) (by omega) ?_)
 (repeat first |refine sN rfl ?_ |((first|refine sM rfl ?_ ?_|refine s4 rfl ‹_› rfl ?_ ?_);first|exact tI|omega|simp only[oZ] at *;omega) |refine s2 rfl fun _ _hb=>?_ |refine s3 rfl ?_ ?_<;>rintro rfl |refine aU rfl ?_ |refine Aa ?_ |refine rE (by kernel_rfl) ?_)
 refine aB ?_
 refine Au.AP (α:={k:Nat // k≤l.length}) (fun ⟨k,hk⟩=>[(0,HE l),(3,.o (.arr 0 3 0 l.length)),(4,eI .i64 k)]) (fun ⟨k,hk⟩=>[(0,.cells 126 3 (C3 (l.map AA) ((AA ⟨0,0,0⟩)) k))]) 1 (fun ⟨k,hk⟩=>l.length - k) (⟨0,by omega⟩) [0] (Di hΓ rfl rfl) (by ((repeat' first|exact tI|rfl|refine And.intro ?_ ?_)<;>(simp[cX,zC,hΓ,Km,hren]))) ?_;rintro⟨k,hk⟩;(try dsimp only)
 (repeat first |refine sN rfl ?_ |((first|refine sM rfl ?_ ?_|refine s4 rfl ‹_› rfl ?_ ?_);first|exact tI|omega|simp only[oZ] at *;omega) |refine s2 rfl fun _ _hb=>?_ |refine s3 rfl ?_ ?_<;>rintro rfl |refine aU rfl ?_ |refine Aa ?_ |refine rE (by kernel_rfl) ?_)
 (refine aC rfl ?_ ?_<;>rintro⟨⟩)
 ·obtain⟨x,hx⟩:=get_some (l:=l) (k:=k) (by first|omega|simp only[oZ] at *;omega)
  have hx':=get_map (g:=C9) hx
  have hg:=GH (l:=l.map AA) (z:=(AA ⟨0,0,0⟩)) (k:=k) (by first|omega|simp only[oZ] at *;omega)
  have hs:=GJ (l:=l.map AA) (z:=(AA ⟨0,0,0⟩)) (k:=k) (x:=AA x) (by simp [hx])
  refine aK ?_
  refine aS (aB ?_)
  (repeat first |refine sN rfl ?_ |((first|refine sM rfl ?_ ?_|refine s4 rfl ‹_› rfl ?_ ?_);first|exact tI|omega|simp only[oZ] at *;omega) |refine s2 rfl fun _ _hb=>?_ |refine sP rfl (RN x) rfl ?_ |refine s3 rfl ?_ ?_<;>rintro rfl |refine aU rfl ?_ |refine Aa ?_ |refine rE (by kernel_rfl) ?_)
  refine⟨⟨k+1,by first|omega|simp only[oZ] at *;omega⟩,by dsimp only;(first|omega|simp only[oZ] at *;omega),[0],?_⟩
  have hsp:Af ((AA ⟨0,0,0⟩)) 0 (eC (OI x))=AA x:=rfl
  rw [hsp,hs]
  simp[cX,zC,hΓ,hren]
 ·obtain rfl:k=l.length:=by first|omega|simp only[oZ] at *;omega
  have he:C3 (l.map AA) ((AA ⟨0,0,0⟩)) l.length=l.map AA:=by
   have:=GG (l.map AA) ((AA ⟨0,0,0⟩))
   rwa [hlm] at this
  rw [he]
  refine aE ?_
  (repeat first |refine sN rfl ?_ |((first|refine sM rfl ?_ ?_|refine s4 rfl ‹_› rfl ?_ ?_);first|exact tI|omega|simp only[oZ] at *;omega) |refine s2 rfl fun _ _hb=>?_ |refine s3 rfl ?_ ?_<;>rintro rfl |refine aU rfl ?_ |refine Aa ?_ |refine rE (by kernel_rfl) ?_)
  refine Au.freeze [0] [(2,HE l)] ⟨⟨_,rfl,.o (.full (by simp) rfl (by simp [Function.comp_def]) (by simp))⟩,trivial⟩ ?_
  refine aR ⟨_,rfl,rfl⟩
theorem Nx(s:Sys)(h:s.es.length≤1048576):Pure Tryz.prog TB 16 [Bv s] (Bv s):=by
 refine Spec.lN 2 25 3 [] Tryz.func16 rfl (by kernel_rfl) rfl (Nat.le_of_ble_eq_true rfl) ?_;intro Γ hΓ
 (repeat first |refine sN rfl ?_ |((first|refine sA rfl ?_ ?_|refine s4 rfl ‹_› rfl ?_ ?_);first|exact tI|omega|simp only[oZ] at *;omega) |refine s2 rfl fun _ _hb=>?_ |refine sP rfl (Xr s.es h) rfl ?_ |refine s3 rfl ?_ ?_<;>rintro rfl |refine aU rfl ?_ |refine Aa ?_)
 refine aR ⟨⟨0,3,0,25,_,[.d (iD s.al),.d (iD s.st),.d (Ek s.es)],_,rfl,rfl,rfl,.AE,rfl⟩,?_⟩
 intro id k i h
 injection h with h;injection h with h;injection h with _ h;exact h.symm
theorem PR(a:AU)(h1:a.nx.length≤1048576)(h2:a.ac.length≤1048576)(h3:∀r∈a.nx,r.length≤1048576):Pure Tryz.prog TB 17 [Bp a] (Bp a):=by
 refine Spec.lN 2 29 3 [] Tryz.func17 rfl (by kernel_rfl) rfl (Nat.le_of_ble_eq_true rfl) ?_;intro Γ hΓ
 (repeat first |refine sN rfl ?_ |((first|refine sA rfl ?_ ?_|refine s4 rfl ‹_› rfl ?_ ?_);first|exact tI|omega|simp only[oZ] at *;omega) |refine s2 rfl fun _ _hb=>?_ |refine sP rfl (Xt a.nx h1 h3) rfl ?_|refine sP rfl (Xq a.ac h2) rfl ?_ |refine s3 rfl ?_ ?_<;>rintro rfl |refine aU rfl ?_ |refine Aa ?_)
 refine aR ⟨⟨0,3,0,29,_,[.d (iD a.al),.d (CR a.nx),.d (E4 a.ac)],_,rfl,rfl,rfl,.AE,rfl⟩,?_⟩
 intro id k i h
 injection h with h;injection h with h;injection h with _ h;exact h.symm
theorem Zx(l:List Int):Pure Tryz.prog TB 88 [Ag l,Ag l] (eB true):=by
 refine eN Tryz.func88 rfl (by kernel_rfl) rfl ?_;intro Γ hΓ
 refine Au.bound 0 rfl fun hB0=>?_
 have hB:=hB0 (l.map Bm) .refl
 (repeat' first |refine sN rfl ?_ |((first|refine sA rfl ?_ ?_|refine s4 rfl ‹_› rfl ?_ ?_);first|exact tI|omega|simp only[oZ] at *;omega) |refine s2 rfl fun _ _hb=>?_ |refine s3 rfl ?_ ?_<;>rintro rfl |refine aU rfl ?_ |refine Aa ?_ |refine rE (by kernel_rfl) ?_|(refine aC rfl ?_ ?_<;>rintro⟨⟩)|refine aK ?_|refine aE ?_|refine aB ?_|refine aR ⟨_,rfl,?_⟩)
 all_goals try (exfalso;first|omega|simp only[oZ] at *;omega;done)
 refine Au.AP (α:={k:Nat // k≤l.length}) (fun ⟨k,hk⟩=>[(0,Ag l),(1,Ag l),(5,eI .i64 k)]) (fun ⟨k,hk⟩=>[]) 0 (fun ⟨k,hk⟩=>l.length - k) (⟨0,by omega⟩) [] (Di hΓ rfl rfl) (by ((repeat' first|exact tI|rfl|refine And.intro ?_ ?_)<;>(simp[cX,zC,hΓ]))) ?_;rintro⟨k,hk⟩;(try dsimp only)
 (repeat first |refine sN rfl ?_ |((first|refine sA rfl ?_ ?_|refine s4 rfl ‹_› rfl ?_ ?_);first|exact tI|omega|simp only[oZ] at *;omega) |refine s2 rfl fun _ _hb=>?_ |refine s3 rfl ?_ ?_<;>rintro rfl |refine aU rfl ?_ |refine Aa ?_ |refine rE (by kernel_rfl) ?_)
 (refine aC rfl ?_ ?_<;>rintro⟨⟩)
 ·obtain⟨x,hx⟩:=get_some (l:=l) (k:=k) (by first|omega|simp only[oZ] at *;omega)
  have hx':=get_map (g:=Bm) hx
  (repeat' first |refine sN rfl ?_ |((first|refine sA rfl ?_ ?_|refine s4 rfl ‹_› rfl ?_ ?_);first|exact tI|omega|simp only[oZ] at *;omega) |refine s2 rfl fun _ _hb=>?_ |refine s3 rfl ?_ ?_<;>rintro rfl |refine aU rfl ?_ |refine Aa ?_ |refine rE (by kernel_rfl) ?_|(refine aC rfl ?_ ?_<;>rintro⟨⟩)|refine aK ?_|refine aE ?_|refine aB ?_|refine aR ⟨_,rfl,?_⟩)
  all_goals first
   | (exfalso;revert _hb;simp;done)
   | (exfalso;first|omega|simp only[oZ] at *;omega;done)
   | (refine⟨⟨k+1,by first|omega|simp only[oZ] at *;omega⟩,by dsimp only;(first|omega|simp only[oZ] at *;omega),[],?_⟩;simp[cX,zC,hΓ];done)
 ·(repeat' first |refine sN rfl ?_ |((first|refine sA rfl ?_ ?_|refine s4 rfl ‹_› rfl ?_ ?_);first|exact tI|omega|simp only[oZ] at *;omega) |refine s2 rfl fun _ _hb=>?_ |refine s3 rfl ?_ ?_<;>rintro rfl |refine aU rfl ?_ |refine Aa ?_ |refine rE (by kernel_rfl) ?_|(refine aC rfl ?_ ?_<;>rintro⟨⟩)|refine aK ?_|refine aE ?_|refine aB ?_|refine aR ⟨_,rfl,?_⟩)
  all_goals rfl
theorem Ww(l:List Bool):Pure Tryz.prog TB 48 [EG l,EG l] (eB true):=by
 refine eN Tryz.func48 rfl (by kernel_rfl) rfl ?_;intro Γ hΓ
 refine Au.bound 0 rfl fun hB0=>?_
 have hB:=hB0 (l.map Ib) .refl
 (repeat' first |refine sN rfl ?_ |((first|refine sA rfl ?_ ?_|refine s4 rfl ‹_› rfl ?_ ?_);first|exact tI|omega|simp only[oZ] at *;omega) |refine s2 rfl fun _ _hb=>?_ |refine s3 rfl ?_ ?_<;>rintro rfl |refine aU rfl ?_ |refine Aa ?_ |refine rE (by kernel_rfl) ?_|(refine aC rfl ?_ ?_<;>rintro⟨⟩)|refine aK ?_|refine aE ?_|refine aB ?_|refine aR ⟨_,rfl,?_⟩)
 all_goals try (exfalso;first|omega|simp only[oZ] at *;omega;done)
 refine Au.AP (α:={k:Nat // k≤l.length}) (fun ⟨k,hk⟩=>[(0,EG l),(1,EG l),(5,eI .i64 k)]) (fun ⟨k,hk⟩=>[]) 0 (fun ⟨k,hk⟩=>l.length - k) (⟨0,by omega⟩) [] (Di hΓ rfl rfl) (by ((repeat' first|exact tI|rfl|refine And.intro ?_ ?_)<;>(simp[cX,zC,hΓ]))) ?_;rintro⟨k,hk⟩;(try dsimp only)
 (repeat first |refine sN rfl ?_ |((first|refine sA rfl ?_ ?_|refine s4 rfl ‹_› rfl ?_ ?_);first|exact tI|omega|simp only[oZ] at *;omega) |refine s2 rfl fun _ _hb=>?_ |refine s3 rfl ?_ ?_<;>rintro rfl |refine aU rfl ?_ |refine Aa ?_ |refine rE (by kernel_rfl) ?_)
 (refine aC rfl ?_ ?_<;>rintro⟨⟩)
 ·obtain⟨x,hx⟩:=get_some (l:=l) (k:=k) (by first|omega|simp only[oZ] at *;omega)
  have hx':=get_map (g:=Ib) hx
  (repeat' first |refine sN rfl ?_ |((first|refine sA rfl ?_ ?_|refine s4 rfl ‹_› rfl ?_ ?_);first|exact tI|omega|simp only[oZ] at *;omega) |refine s2 rfl fun _ _hb=>?_ |refine s3 rfl ?_ ?_<;>rintro rfl |refine aU rfl ?_ |refine Aa ?_ |refine rE (by kernel_rfl) ?_|(refine aC rfl ?_ ?_<;>rintro⟨⟩)|refine aK ?_|refine aE ?_|refine aB ?_|refine aR ⟨_,rfl,?_⟩)
  all_goals first
   | (exfalso;revert _hb;simp;done)
   | (exfalso;first|omega|simp only[oZ] at *;omega;done)
   | (refine⟨⟨k+1,by first|omega|simp only[oZ] at *;omega⟩,by dsimp only;(first|omega|simp only[oZ] at *;omega),[],?_⟩;simp[cX,zC,hΓ];done)
 ·(repeat' first |refine sN rfl ?_ |((first|refine sA rfl ?_ ?_|refine s4 rfl ‹_› rfl ?_ ?_);first|exact tI|omega|simp only[oZ] at *;omega) |refine s2 rfl fun _ _hb=>?_ |refine s3 rfl ?_ ?_<;>rintro rfl |refine aU rfl ?_ |refine Aa ?_ |refine rE (by kernel_rfl) ?_|(refine aC rfl ?_ ?_<;>rintro⟨⟩)|refine aK ?_|refine aE ?_|refine aB ?_|refine aR ⟨_,rfl,?_⟩)
  all_goals rfl
theorem Wy(l:List (List Int)):Pure Tryz.prog TB 47 [Cm l,Cm l] (eB true):=by
 refine eN Tryz.func47 rfl (by kernel_rfl) rfl ?_;intro Γ hΓ
 refine Au.bound 0 rfl fun hB0=>?_
 have hB:=hB0 (l.map Dw) .refl
 (repeat' first |refine sN rfl ?_ |((first|refine sA rfl ?_ ?_|refine s4 rfl ‹_› rfl ?_ ?_);first|exact tI|omega|simp only[oZ] at *;omega) |refine s2 rfl fun _ _hb=>?_ |refine s3 rfl ?_ ?_<;>rintro rfl |refine aU rfl ?_ |refine Aa ?_ |refine rE (by kernel_rfl) ?_|(refine aC rfl ?_ ?_<;>rintro⟨⟩)|refine aK ?_|refine aE ?_|refine aB ?_|refine aR ⟨_,rfl,?_⟩)
 all_goals try (exfalso;first|omega|simp only[oZ] at *;omega;done)
 refine Au.AP (α:={k:Nat // k≤l.length}) (fun ⟨k,hk⟩=>[(0,Cm l),(1,Cm l),(5,eI .i64 k)]) (fun ⟨k,hk⟩=>[]) 0 (fun ⟨k,hk⟩=>l.length - k) (⟨0,by omega⟩) [] (Di hΓ rfl rfl) (by ((repeat' first|exact tI|rfl|refine And.intro ?_ ?_)<;>(simp[cX,zC,hΓ]))) ?_;rintro⟨k,hk⟩;(try dsimp only)
 (repeat first |refine sN rfl ?_ |((first|refine sA rfl ?_ ?_|refine s4 rfl ‹_› rfl ?_ ?_);first|exact tI|omega|simp only[oZ] at *;omega) |refine s2 rfl fun _ _hb=>?_ |refine s3 rfl ?_ ?_<;>rintro rfl |refine aU rfl ?_ |refine Aa ?_ |refine rE (by kernel_rfl) ?_)
 (refine aC rfl ?_ ?_<;>rintro⟨⟩)
 ·obtain⟨x,hx⟩:=get_some (l:=l) (k:=k) (by first|omega|simp only[oZ] at *;omega)
  have hx':=get_map (g:=Dw) hx
  (repeat' first |refine sN rfl ?_ |((first|refine sA rfl ?_ ?_|refine s4 rfl ‹_› rfl ?_ ?_);first|exact tI|omega|simp only[oZ] at *;omega) |refine s2 rfl fun _ _hb=>?_ |refine sP rfl (Zx x) rfl ?_ |refine s3 rfl ?_ ?_<;>rintro rfl |refine aU rfl ?_ |refine Aa ?_ |refine rE (by kernel_rfl) ?_|(refine aC rfl ?_ ?_<;>rintro⟨⟩)|refine aK ?_|refine aE ?_|refine aB ?_|refine aR ⟨_,rfl,?_⟩)
  all_goals first
   | (exfalso;revert _hb;simp;done)
   | (exfalso;first|omega|simp only[oZ] at *;omega;done)
   | (refine⟨⟨k+1,by first|omega|simp only[oZ] at *;omega⟩,by dsimp only;(first|omega|simp only[oZ] at *;omega),[],?_⟩;simp[cX,zC,hΓ];done)
 ·(repeat' first |refine sN rfl ?_ |((first|refine sA rfl ?_ ?_|refine s4 rfl ‹_› rfl ?_ ?_);first|exact tI|omega|simp only[oZ] at *;omega) |refine s2 rfl fun _ _hb=>?_ |refine s3 rfl ?_ ?_<;>rintro rfl |refine aU rfl ?_ |refine Aa ?_ |refine rE (by kernel_rfl) ?_|(refine aC rfl ?_ ?_<;>rintro⟨⟩)|refine aK ?_|refine aE ?_|refine aB ?_|refine aR ⟨_,rfl,?_⟩)
  all_goals rfl
theorem Zw(e:ET):Pure Tryz.prog TB 89 [OI e,OI e] (eB true):=by
 refine eN Tryz.func89 rfl (by kernel_rfl) rfl ?_;intro Γ hΓ
 (repeat' first |refine sN rfl ?_ |((first|refine sA rfl ?_ ?_|refine s4 rfl ‹_› rfl ?_ ?_);first|exact tI|omega|simp only[oZ] at *;omega) |refine s2 rfl fun _ _hb=>?_ |refine s3 rfl ?_ ?_<;>rintro rfl |refine aU rfl ?_ |refine Aa ?_ |refine rE (by kernel_rfl) ?_|(refine aC rfl ?_ ?_<;>rintro⟨⟩)|refine aK ?_|refine aE ?_|refine aB ?_|refine aR ⟨_,rfl,?_⟩)
 all_goals first
  | rfl
  | (exfalso;first|omega|simp only[oZ] at *;omega;done)
theorem Wx(l:List ET):Pure Tryz.prog TB 49 [HE l,HE l] (eB true):=by
 refine eN Tryz.func49 rfl (by kernel_rfl) rfl ?_;intro Γ hΓ
 refine Au.bound 0 rfl fun hB0=>?_
 have hB:=hB0 (l.map C9) .refl
 (repeat' first |refine sN rfl ?_ |((first|refine sA rfl ?_ ?_|refine s4 rfl ‹_› rfl ?_ ?_);first|exact tI|omega|simp only[oZ] at *;omega) |refine s2 rfl fun _ _hb=>?_ |refine s3 rfl ?_ ?_<;>rintro rfl |refine aU rfl ?_ |refine Aa ?_ |refine rE (by kernel_rfl) ?_|(refine aC rfl ?_ ?_<;>rintro⟨⟩)|refine aK ?_|refine aE ?_|refine aB ?_|refine aR ⟨_,rfl,?_⟩)
 all_goals try (exfalso;first|omega|simp only[oZ] at *;omega;done)
 refine Au.AP (α:={k:Nat // k≤l.length}) (fun ⟨k,hk⟩=>[(0,HE l),(1,HE l),(5,eI .i64 k)]) (fun ⟨k,hk⟩=>[]) 0 (fun ⟨k,hk⟩=>l.length - k) (⟨0,by omega⟩) [] (Di hΓ rfl rfl) (by ((repeat' first|exact tI|rfl|refine And.intro ?_ ?_)<;>(simp[cX,zC,hΓ]))) ?_;rintro⟨k,hk⟩;(try dsimp only)
 (repeat first |refine sN rfl ?_ |((first|refine sA rfl ?_ ?_|refine s4 rfl ‹_› rfl ?_ ?_);first|exact tI|omega|simp only[oZ] at *;omega) |refine s2 rfl fun _ _hb=>?_ |refine s3 rfl ?_ ?_<;>rintro rfl |refine aU rfl ?_ |refine Aa ?_ |refine rE (by kernel_rfl) ?_)
 (refine aC rfl ?_ ?_<;>rintro⟨⟩)
 ·obtain⟨x,hx⟩:=get_some (l:=l) (k:=k) (by first|omega|simp only[oZ] at *;omega)
  have hx':=get_map (g:=C9) hx
  (repeat' first |refine sN rfl ?_ |((first|refine sA rfl ?_ ?_|refine s4 rfl ‹_› rfl ?_ ?_);first|exact tI|omega|simp only[oZ] at *;omega) |refine s2 rfl fun _ _hb=>?_ |refine sP rfl (Zw x) rfl ?_ |refine s3 rfl ?_ ?_<;>rintro rfl |refine aU rfl ?_ |refine Aa ?_ |refine rE (by kernel_rfl) ?_|(refine aC rfl ?_ ?_<;>rintro⟨⟩)|refine aK ?_|refine aE ?_|refine aB ?_|refine aR ⟨_,rfl,?_⟩)
  all_goals first
   | (exfalso;revert _hb;simp;done)
   | (exfalso;first|omega|simp only[oZ] at *;omega;done)
   | (refine⟨⟨k+1,by first|omega|simp only[oZ] at *;omega⟩,by dsimp only;(first|omega|simp only[oZ] at *;omega),[],?_⟩;simp[cX,zC,hΓ];done)
 ·(repeat' first |refine sN rfl ?_ |((first|refine sA rfl ?_ ?_|refine s4 rfl ‹_› rfl ?_ ?_);first|exact tI|omega|simp only[oZ] at *;omega) |refine s2 rfl fun _ _hb=>?_ |refine s3 rfl ?_ ?_<;>rintro rfl |refine aU rfl ?_ |refine Aa ?_ |refine rE (by kernel_rfl) ?_|(refine aC rfl ?_ ?_<;>rintro⟨⟩)|refine aK ?_|refine aE ?_|refine aB ?_|refine aR ⟨_,rfl,?_⟩)
  all_goals rfl
theorem Na(s:Sys):Pure Tryz.prog TB 19 [Bv s,Bv s] (eB true):=by
 refine eN Tryz.func19 rfl (by kernel_rfl) rfl ?_;intro Γ hΓ
 (repeat' first |refine sN rfl ?_ |((first|refine sA rfl ?_ ?_|refine s4 rfl ‹_› rfl ?_ ?_);first|exact tI|omega|simp only[oZ] at *;omega) |refine s2 rfl fun _ _hb=>?_ |refine sP rfl (Wx s.es) rfl ?_ |refine s3 rfl ?_ ?_<;>rintro rfl |refine aU rfl ?_ |refine Aa ?_ |refine rE (by kernel_rfl) ?_|(refine aC rfl ?_ ?_<;>rintro⟨⟩)|refine aK ?_|refine aE ?_|refine aB ?_|refine aR ⟨_,rfl,?_⟩)
 all_goals first
  | rfl
  | (exfalso;first|omega|simp only[oZ] at *;omega;done)
  | (exfalso;revert _hb;simp;done)
theorem Gy(a:AU):Pure Tryz.prog TB 18 [Bp a,Bp a] (eB true):=by
 refine eN Tryz.func18 rfl (by kernel_rfl) rfl ?_;intro Γ hΓ
 (repeat' first |refine sN rfl ?_ |((first|refine sA rfl ?_ ?_|refine s4 rfl ‹_› rfl ?_ ?_);first|exact tI|omega|simp only[oZ] at *;omega) |refine s2 rfl fun _ _hb=>?_ |refine sP rfl (Wy a.nx) rfl ?_|refine sP rfl (Ww a.ac) rfl ?_ |refine s3 rfl ?_ ?_<;>rintro rfl |refine aU rfl ?_ |refine Aa ?_ |refine rE (by kernel_rfl) ?_|(refine aC rfl ?_ ?_<;>rintro⟨⟩)|refine aK ?_|refine aE ?_|refine aB ?_|refine aR ⟨_,rfl,?_⟩)
 all_goals first
  | rfl
  | (exfalso;first|omega|simp only[oZ] at *;omega;done)
  | (exfalso;revert _hb;simp;done)
end Go.Am
namespace Go.Proofs.YtbfgijpfhgmepaaGreatDoor
open Go Go.Am Go.ChangeShapes Go.WideShapes Go.ChangeAt Go.RowKit
def aW(l:List Value):List Int:=l.map fun v=>match v with|.int _ n=>n|_=>0
theorem Zd{P:Program}{W:World}{name:String}{g:Nat}{t e:TypeId}{n:Nat}{zs:List Int}{fuel:Nat}{cs:Array Value}{p:List MemPlace}(hg:P.globalNamed name=some g)(ht:P.underlying t=some (.array n e))(he:P.underlying e=some (.int .u8))(hce:P.cellsOf e=1)(hct:P.cellsOf t=n)
 (hv:W.var? P name=some cs) (hd:DataW.trod (fun _=>()) P W 0 (fun _=>true) false fuel t cs.toList=some (Lib.tabData .u8 zs,p)):∃T fr,W.heap[g]? = some (.cells (zs.map fun z=>Value.int .u8 z).toArray T fr):=by
 have h:=Lib.cells_of_tab ht he hce hct hd
 unfold World.var? at hv
 rw [hg] at hv
 simp only [Option.bind_some] at hv
 split at hv
 ·rename_i c T fr hh
  injection hv with hv
  subst hv
  refine⟨T,fr,?_⟩
  rw [hh,←h]
 ·cases hv
theorem tables {W:World} {rest:List (String×DataW Unit)} (h:laidMet Tryz.prog (("math/bits.deBruijn32tab",Rows.laid_math_bits_deBruijn32tab)::("math/bits.deBruijn64tab",Rows.laid_math_bits_deBruijn64tab)::rest) W):∃tabs:List (Nat×Obj),Df ⟨tabs,none⟩∧∀x∈(⟨tabs,none⟩:Bt),below W x.1∧W.heap[x.1]? = some x.2:=by
 obtain⟨ps,⟨g0,t0,cs0,f0,p0,q0,hg0,ht0,hv0,hd0,⟨g1,t1,cs1,f1,p1,q1,hg1,ht1,hv1,hd1,_,_⟩,_⟩,_,_⟩:=h
 have k0:Tryz.prog.globalNamed "math/bits.deBruijn32tab" = some 0:=by kernel_rfl
 have k1:Tryz.prog.globalNamed "math/bits.deBruijn64tab" = some 1:=by kernel_rfl
 obtain rfl:=Option.some.inj (k0.symm.trans hg0)
 obtain rfl:=Option.some.inj (k1.symm.trans hg1)
 have l0:(Tryz.prog.globals[0]?).map (·.type)=some 255:=by kernel_rfl
 have l1:(Tryz.prog.globals[1]?).map (·.type)=some 256:=by kernel_rfl
 obtain rfl:=Option.some.inj (l0.symm.trans ht0)
 obtain rfl:=Option.some.inj (l1.symm.trans ht1)
 obtain⟨T0,fr0,h0⟩:=Zd (zs:=aW Cz) k0 Tryz.underlying255 Tryz.underlying5 (by kernel_rfl) (by kernel_rfl) hv0 hd0
 obtain⟨T1,fr1,h1⟩:=Zd (zs:=aW Bz) k1 Tryz.underlying256 Tryz.underlying5 (by kernel_rfl) (by kernel_rfl) hv1 hd1
 refine⟨[(0,.cells ((aW Cz).map fun z=>Value.int .u8 z).toArray T0 fr0),(1,.cells ((aW Bz).map fun z=>Value.int .u8 z).toArray T1 fr1)],⟨⟨⟨_,_,_,List.mem_cons_self,fun i v hv=>?_⟩,by decide⟩,⟨⟨_,_,_,List.mem_cons_of_mem _ List.mem_cons_self,fun i v hv=>?_⟩,by decide⟩⟩,?_⟩
 ·have:Cz=(aW Cz).map fun z=>Value.int .u8 z:=rfl
  rw [List.getElem?_toArray,←this];exact hv
 ·have:Bz=(aW Bz).map fun z=>Value.int .u8 z:=rfl
  rw [List.getElem?_toArray,←this];exact hv
 ·intro x hx
  have hx:x∈[_,_]:=hx
  simp only [List.mem_cons,List.not_mem_nil,or_false] at hx
  rcases hx with rfl|rfl
  ·exact⟨(Array.getElem?_eq_some_iff.1 h0).1,h0⟩
  ·exact⟨(Array.getElem?_eq_some_iff.1 h1).1,h1⟩
end Go.Proofs.YtbfgijpfhgmepaaGreatDoor
namespace Go.Am
open Go
set_option linter.unusedVariables false
theorem KX{a b:Nat}(ha:a < 2 ^ 62)(hb:b < 2 ^ 62):Hc .i64 a b=((a &&& b:Nat):Int):=by
 have h0:a &&& b≤a:=Nat.and_le_left
 unfold Hc
 have h1:(BitVec.ofInt IntKind.i64.bits (a:Int) &&& BitVec.ofInt IntKind.i64.bits (b:Int)).toNat=a &&& b:=by
  have e:IntKind.i64.bits=64:=rfl
  rw [e]
  simp only [BitVec.toNat_and,BitVec.ofInt_natCast,BitVec.toNat_ofNat]
  rw [Nat.mod_eq_of_lt (by omega),Nat.mod_eq_of_lt (by omega)]
 rw [h1]
 exact IntWalk.i64_in _ (by omega)
theorem bS(s n:Nat):((s:Nat):Int).fdiv (2 ^ n)=((s / 2 ^ n:Nat):Int):=by
 have h:(0:Int)≤2 ^ n:=Int.le_of_lt (Int.pow_pos (by omega))
 rw [Int.fdiv_eq_ediv_of_nonneg _ h]
 push_cast
 rfl
theorem C8{s n:Nat}(hs:s < 2 ^ 62)(hn:n < 64):A0 (s:Nat) n=s.testBit n:=by
 unfold A0
 have e:min n 64=n:=by omega
 rw [e,bS]
 have h1:s / 2 ^ n≤s:=Nat.div_le_self _ _
 have h2:=KX (a:=s / 2 ^ n) (b:=1) (by omega) (by omega)
 rw [show ((1:Nat):Int)=1 from rfl] at h2
 rw [h2,Nat.testBit_eq_decide_div_mod_eq,Nat.and_one_is_mod]
 congr 1
 rw [eq_iff_iff]
 omega
theorem gn{s a:Nat}:s &&& a=s↔∀n,s.testBit n=true→a.testBit n=true:=by
 constructor
 ·intro h n hn
  have:=congrArg (·.testBit n) h
  simp only [Nat.testBit_and,hn,Bool.true_and] at this
  exact this
 ·intro h
  apply Nat.eq_of_testBit_eq
  intro n
  rw [Nat.testBit_and]
  cases hs:s.testBit n
  ·rfl
  ·rw [h n hs];rfl
abbrev Wd:=List UInt8
def Gb(c:UInt8):Bool:=decide (97≤c.toNat∧c.toNat < 103)
def Ev(w:Wd):Bool:=decide (w.length≤50000) && w.all Gb
def Kw(w:Wd):Nat:=w.foldl (fun s c=>s ||| 2 ^ (c.toNat - 97)) 0
def Ik(al:Int)(c:UInt8):Bool:=Gb c && A0 al (c.toNat - 97)
def within(w:Wd)(al:Int):Bool:=decide (w.length≤50000) && (A4 al && w.all (Ik al))
theorem Ug(n:Nat):∀(w:Wd) (s:Nat),(w.foldl (fun s c=>s ||| 2 ^ (c.toNat - 97)) s).testBit n=(s.testBit n || w.any fun c=>decide (c.toNat - 97=n))
 | [],s=>by simp
 | c::w,s=>by
  rw [List.foldl_cons,Ug n w,Nat.testBit_or,Nat.testBit_two_pow,List.any_cons,Bool.or_assoc]
theorem Vl(w:Wd)(n:Nat):(Kw w).testBit n=w.any fun c=>decide (c.toNat - 97=n):=by
 unfold Kw;rw [Ug];simp
theorem Tm:∀ {w:Wd} {s:Nat},w.all Gb=true→s < 64→w.foldl (fun s c=>s ||| 2 ^ (c.toNat - 97)) s < 64
 | [],s,_,hs=>hs
 | c::w,s,h,hs=>by
  simp only [List.all_cons,Bool.and_eq_true] at h
  rw [List.foldl_cons]
  refine Tm h.2 ?_
  have h1:=h.1
  unfold Gb at h1
  simp only [decide_eq_true_eq] at h1
  have h2:2 ^ (c.toNat - 97) < 2 ^ 6:=Nat.pow_lt_pow_right (by omega) (by omega)
  exact Nat.or_lt_two_pow (n:=6) hs h2
theorem gd{w:Wd}{al:Int}(hw:w.all Gb=true)(ha:A4 al=true):decide (Hc .i64 (Kw w:Nat) al=(Kw w:Nat))=w.all (Ik al):=by
 have hs:Kw w < 64:=Tm hw (by omega)
 unfold A4 at ha
 simp only [decide_eq_true_eq] at ha
 obtain⟨a,rfl⟩:∃a:Nat,al=a:=⟨al.toNat,by omega⟩
 rw [KX (by omega) (by omega)]
 rw [Bool.eq_iff_iff,decide_eq_true_eq,List.all_eq_true]
 have h1:((Kw w &&& a:Nat):Int)=(Kw w:Nat)↔Kw w &&& a=Kw w:=by omega
 rw [h1,gn]
 rw [List.all_eq_true] at hw
 constructor
 ·intro h c hc
  have h2:=hw c hc
  unfold Ik
  rw [h2,Bool.true_and]
  unfold Gb at h2
  simp only [decide_eq_true_eq] at h2
  rw [C8 (by omega) (by omega)]
  refine h _ ?_
  rw [Vl,List.any_eq_true]
  exact⟨c,hc,by simp⟩
 ·intro h n hn
  rw [Vl,List.any_eq_true] at hn
  obtain⟨c,hc,hcn⟩:=hn
  simp only [decide_eq_true_eq] at hcn
  have h2:=hw c hc
  have h3:=h c hc
  unfold Ik at h3
  rw [h2,Bool.true_and] at h3
  unfold Gb at h2
  simp only [decide_eq_true_eq] at h2
  rw [C8 (by omega) (by omega),hcn] at h3
  exact h3
theorem XC{w:Wd}{al:Int}(h:w.all (Ik al)=true):w.all Gb=true:=by
 rw [List.all_eq_true] at *
 intro c hc
 have:=h c hc
 unfold Ik at this
 simp only [Bool.and_eq_true] at this
 exact this.1
inductive FL (σ:Ab) (ids:List Nat):List C→List C→Prop
 | nil:FL σ ids [] []
 | cons {c c':C} {cs cs':List C}:FC σ ids c c'→FL σ ids cs cs'→FL σ ids (c::cs) (c'::cs')
theorem FL.len{σ:Ab}{ids:List Nat}{l l':List C}(h:FL σ ids l l'):l'.length=l.length:=by
 induction h with
 | nil=>rfl
 | cons _ _ ih=>simp [ih]
theorem FL.get{σ:Ab}{ids:List Nat}{l l':List C}(h:FL σ ids l l'):∀(j:Nat) c',l'[j]? = some c'→∃c,l[j]? = some c∧FC σ ids c c':=by
 induction h with
 | nil=>intro j c' h;simp at h
 | @cons c0 c0' cs cs' h1 _ ih=>
  intro j c' hj
  cases j with
  | zero=>simp at hj;subst hj;exact⟨c0,rfl,h1⟩
  | succ j=>exact ih j c' (by simpa using hj)
def QE(σ:Ab)(ids:List Nat):Ab→Prop
 | []=>True
 | (id,.cells T k [r'])::S=>(∃r,look σ id=some (.cells T k [r])∧id∉ids∧FL σ ids r r')∧QE σ ids S
 | _=>False
theorem QE.get{σ:Ab}{ids:List Nat}:∀ {S:Ab},QE σ ids S→∀id o',look S id=some o'→∃T k r r',o'=.cells T k [r']∧look σ id=some (.cells T k [r])∧id∉ids∧FL σ ids r r'
 | [],_,id,o',h=>by cases h
 | (i, o)::S,hs,id,o',h=>by
  match o,hs with
  | .cells T k [r'],hs=>
   rw [Ay] at h
   by_cases hi:i=id
   ·rw [if_pos hi] at h
    injection h with h
    subst h;subst hi
    obtain⟨r,h1,h2,h3⟩:=hs.1
    exact⟨T,k,r,r',rfl,h1,h2,h3⟩
   ·rw [if_neg hi] at h
    exact QE.get hs.2 id o' h
section
variable {P:Program}{TB:Bt}{Γ:Ctx}{N:Nat}{σ:Ab}
theorem Ci.N6{V:View}{f:Env}{nx:Nat}{a:Act}(h:Ci TB Γ N V f σ nx a)(ids:List Nat)(L:List (Nat×E))(S:Ab)(hE:Eh σ ids f L)(hS:QE σ ids S):Ci TB Γ N (Kf V σ ids) (look L) S nx a:=by
 have e:Ext V (Kf V σ ids):=N7
 have hi:=h.inv
 refine⟨fun t x hx=>?_,fun t x hx=>?_,h.size,?_,h.nx,h.defers⟩
 ·obtain⟨y,h1,h2⟩:=hE.get t x hx
  exact h2.rel h.inv (h.env t y h1)
 ·obtain⟨y,h1,_⟩:=hE.get t x hx
  exact h.lt t y h1
 ·refine⟨hi.os,hi.tape,hi.output,hi.old,?_,?_,hi.ext.trans e,⟨?_,?_,?_,?_⟩,?_,fun x hx=>⟨.inl (hi.tabs x hx).1,(hi.tabs x hx).2⟩,hi.hid.same rfl (fun _ h=>.inl h) (fun b hb=>hb.elim .inl fun ⟨id,o,_,hl,hn,he⟩=>.inr ⟨id,o,hl,hn,he⟩) fun b ⟨id,o,hl,hn,hb⟩=>?_⟩
  ·rintro b (hb|⟨id,o,_,hl,hn,hb⟩)
   ·exact hi.iLt b hb
   ·exact(hi.st.obj id o hl).blt hn hb
  ·rintro b (hb|⟨id,o,_,hl,hn,hb⟩)
   ·exact hi.iNew b hb
   ·exact .inr (hi.live id o hl hn b hb)
  ·intro id o hl
   obtain⟨T,k,r,r',rfl,h1,h2,h3⟩:=hS.get id o hl
   rcases hi.st.obj id _ h1 with ⟨h4,h5⟩|⟨h0,cur,h4,h5,h6,h7,h8,h9⟩
   ·cases h5
   ·refine .inr ⟨h0,cur,h4,h5,h6,h7,fun x hx=>?_,fun i x j c' hix hj=>?_⟩
    ·simp at hx;subst hx;rw [h3.len];exact h8 r (by simp)
    ·have hi0:i=0:=by have:=(List.getElem?_eq_some_iff.1 hix).1;simp at this;omega
     subst hi0
     simp at hix
     subst hix
     obtain⟨c,hc,hf⟩:=h3.get j c' hj
     obtain⟨v,h10,h11⟩:=h9 0 r j c rfl hc
     exact⟨v,h10,hf.rel hi h11⟩
  ·intro id o hl
   obtain⟨T,k,r,r',_,h1,_,_⟩:=hS.get id o hl
   exact hi.st.lt id _ h1
  ·intro id o hl hn b hb' hb
   obtain⟨T,k,r,r',rfl,h1,h2,_⟩:=hS.get id o hl
   rcases hb with hb|⟨id',o',hm,hl',hn',he⟩
   ·exact hi.st.free id _ h1 hn b hb' hb
   ·exact hi.st.inj id id' _ o' h1 hl' (fun e=>h2 (e ▸ hm)) hn hn' b hb' he
  ·intro id id' o o' hl hl' hne hn hn' b hb hb'
   obtain⟨T,k,r,r',rfl,h1,_,_⟩:=hS.get id o hl
   obtain⟨T2,k2,r2,r2',rfl,h12,_,_⟩:=hS.get id' o' hl'
   exact hi.st.inj id id' _ _ h1 h12 hne hn hn' b hb hb'
  ·intro id o hl hn b hb
   obtain⟨T,k,r,r',rfl,h1,_,_⟩:=hS.get id o hl
   exact hi.live id _ h1 hn b hb
  ·obtain⟨T,k,r,r',rfl,h1,_,_⟩:=hS.get id o hl
   exact⟨id,_,h1,hn,hb⟩
theorem Au.N6{c:Code}{Q:Exit→Env→Ab→Nat→Prop}{f:Env}{nx:Nat}(ids:List Nat)(L:List (Nat×E))(S:Ab)(hE:Eh σ ids f L)(hS:QE σ ids S)(h:Au P TB Γ N c Q (look L) S nx):Au P TB Γ N c Q f σ nx:=
 fun V a hr=>h (Kf V σ ids) a (hr.N6 ids L S hE hS)
theorem YO{d:Option Tmp}{ty:TypeId}{pos:String}{af:Array Edge}{g:Option (Nat×Bool)}{f:Env}{nx:Nat}{t k e:TypeId}{x y:Operand}{id:Nat}{l:List (List UInt8×Int)}{s:List UInt8}[hm:KB P t k e][hk:DQ P k][hz:QB P e (.int .i64 0)](hx:ev f x=some (.o (.mp id)))(hy:ev f y=some (eT s))(ho:look σ id=some (.mp (IK l))) :
 AS P TB Γ ⟨d,.lookup t x y false,ty,pos,af,g⟩ f σ nx (eI .i64 ((CM l s).getD 0)):=
 AJ fun V ρ hr hi=>by
  have e1:=hr.get (by simp [Op.operands]) hx
  have e2:ρ y=.string ⟨s.toArray⟩:=AB.val (hr.get (by simp [Op.operands]) hy)
  generalize hv:ρ x=v at e1
  cases e1 with
  | mp hid=>
   obtain⟨hn,ents,clock,h1,h2⟩:=hi.st.obj id _ ho
   obtain⟨r,h3,h4⟩:=KP s l ents.toList 0 h2
   have hzz:=hz.out
   simp only [Option.bind_eq_some_iff] at hzz
   obtain⟨i,hi1,hz1⟩:=hzz
   have hzv:(zeroValue e).run P V.w=.ok (.int .i64 0) V.w:=by simp [zeroValue,typeInfo,hi1,hz1,go_sem]
   have hfk:(Instr.findKey k (.string ⟨s.toArray⟩) ents.toList).run P V.w=.ok r V.w:=by simp [Instr.findKey,run_underlying hk.out,h3,go_sem]
   have hck:=Kd hk.out ents.isEmpty ⟨s.toArray⟩ V.w
   refine⟨.int .i64 ((CM l s).getD 0),?_,.d (.v rfl)⟩
   cases r with
   | none=>
    have h5:CM l s=none:=by simpa using h4.symm
    simp [execOp,hv,e2,Instr.lookup,run_underlying hm.out,MapKept.run_getObj_map h1,hck,hfk,hzv,h5,go_sem]
   | some q=>
    obtain⟨n,h5,h6⟩:∃n,CM l s=some n∧q.2=.int .i64 n:=by
     cases hf:CM l s with
     | none=>rw [hf] at h4;simp at h4
     | some n=>rw [hf] at h4;exact⟨n,rfl,by simpa using h4⟩
    obtain⟨q1,q2⟩:=q
    simp only at h6
    subst h6
    simp [execOp,hv,e2,Instr.lookup,run_underlying hm.out,MapKept.run_getObj_map h1,hck,hfk,h5,go_sem]
end
end Go.Am
namespace Go.Am
set_option linter.unusedVariables false
abbrev W:=List UInt8
structure AW where
 rows:List W
 cols:List W
def Rp(b:Bool):UInt8:=if b then 43 else 45
theorem YB{a b:Bool}(h:Rp a=Rp b):a=b:=by cases a<;>cases b<;>first|rfl|(simp [Rp] at h)
def marks(L:W→Bool)(cols:List W)(w:W):W:=cols.map fun c=>Rp (L (w++c))
theorem UE{L:W→Bool}{cols:List W}{u w:W}:marks L cols u=marks L cols w↔∀c∈cols,L (u++c)=L (w++c):=by
 unfold marks
 rw [List.map_inj_left]
 exact⟨fun h c hc=>YB (h c hc),fun h c hc=>by rw [h c hc]⟩
def AF(L:W→Bool)(t:AW):List W:=t.rows.map (marks L t.cols)
def CJ(ls:List UInt8)(rows:List W):List W:=rows.flatMap fun r=>ls.map fun l=>r++[l]
def A8(L:W→Bool)(ls:List UInt8)(t:AW):Option W:=(CJ ls t.rows).find? fun w=>!(AF L t).contains (marks L t.cols w)
def Bf(L:W→Bool)(ls:List UInt8):Nat→AW→Option AW
 | 0,_=>none
 | n+1,t=>match A8 L ls t with
  | none=>some t
  | some w=>if t.rows.length=12 then none else Bf L ls n ⟨t.rows++[w],t.cols⟩
def AK(ls:List UInt8)(w:W):Prop:=∀c∈w,c∈ls
structure TOk (L:W→Bool) (ls:List UInt8) (t:AW):Prop where
 r0:t.rows[0]? = some []
 c0:t.cols[0]? = some []
 pre:∀(i:Nat) w,t.rows[i]? = some w→0 < i→w≠[]∧∃j,j < i∧t.rows[j]? = some w.dropLast
 onR:∀w∈t.rows,AK ls w
 onC:∀c∈t.cols,AK ls c
 nd:(AF L t).Nodup
 ndC:t.cols.Nodup
theorem Ir{L:W→Bool}{ls:List UInt8}{t:AW}{w:W}(h:A8 L ls t=some w):(∃r∈t.rows,∃l∈ls,w=r++[l])∧marks L t.cols w∉AF L t:=by
 have h1:=List.find?_some h
 have h2:=List.mem_of_find?_eq_some h
 unfold CJ at h2
 simp only [List.mem_flatMap,List.mem_map] at h2
 obtain⟨r,hr,l,hl,rfl⟩:=h2
 exact⟨⟨r,hr,l,hl,rfl⟩,by simpa using h1⟩
theorem GM{L:W→Bool}{ls:List UInt8}{t:AW}(h:A8 L ls t=none):∀r∈t.rows,∀l∈ls,marks L t.cols (r++[l])∈AF L t:=by
 intro r hr l hl
 have h1:=List.find?_eq_none.1 h (r++[l]) (by unfold CJ;simp only [List.mem_flatMap,List.mem_map];exact⟨r,hr,l,hl,rfl⟩)
 simpa using h1
theorem TOk.push{L:W→Bool}{ls:List UInt8}{t:AW}{w:W}(h:TOk L ls t)(ho:A8 L ls t=some w):TOk L ls ⟨t.rows++[w],t.cols⟩:=by
 obtain⟨⟨r,hr,l,hl,rfl⟩,hn⟩:=Ir ho
 have h0:0 < t.rows.length:=(List.getElem?_eq_some_iff.1 h.r0).1
 refine⟨by rw [List.getElem?_append_left h0];exact h.r0,h.c0,fun i w hi hp=>?_,fun w hw=>?_,h.onC,?_,h.ndC⟩
 ·by_cases hil:i < t.rows.length
  ·rw [List.getElem?_append_left hil] at hi
   obtain⟨h1,j,h2,h3⟩:=h.pre i w hi hp
   exact⟨h1,j,h2,by rw [List.getElem?_append_left (by omega)];exact h3⟩
  ·rw [List.getElem?_append_right (by omega)] at hi
   have hi0:i=t.rows.length:=by
    have:=(List.getElem?_eq_some_iff.1 hi).1
    simp at this;omega
   subst hi0
   simp at hi
   subst hi
   obtain⟨j,hj,he⟩:=List.getElem_of_mem hr
   refine⟨by simp,j,hj,?_⟩
   rw [List.getElem?_append_left hj,List.dropLast_concat,List.getElem?_eq_getElem hj,he]
 ·rcases List.mem_append.1 hw with hw|hw
  ·exact h.onR w hw
  ·simp at hw
   subst hw
   intro c hc
   rcases List.mem_append.1 hc with hc|hc
   ·exact h.onR r hr c hc
   ·simp at hc;subst hc;exact hl
 ·unfold AF
  rw [List.map_append,List.nodup_append]
  refine⟨h.nd,by simp,fun a ha b hb=>?_⟩
  simp at hb
  subst hb
  intro e
  exact hn (e ▸ ha)
structure Fin (L:W→Bool) (ls:List UInt8) (n:Nat) where
 st:W→Nat
 lt:∀w,AK ls w→st w < n
 same:∀u w v,AK ls u→AK ls w→AK ls v→st u=st w→L (u++v)=L (w++v)
theorem UN:∀(n:Nat) (l:List Nat),l.Nodup→(∀x∈l,x < n)→l.length≤n
 | 0,l,_,h=>by cases l with
  | nil=>simp
  | cons x l=>have:=h x (by simp);omega
 | n + 1,l,hd,h=>by
  have h1:=UN n (l.erase n) (hd.erase n) fun x hx=>by
   have h2:=h x (List.mem_of_mem_erase hx)
   have h3:x≠n:=fun e=>by subst e;exact(List.Nodup.not_mem_erase hd) hx
   omega
  by_cases hn:n∈l
  ·rw [List.length_erase_of_mem hn] at h1;omega
  ·rw [List.erase_of_not_mem hn] at h1;omega
def CX(L:W→Bool)(t:AW)(w:W):Nat:=(AF L t).idxOf (marks L t.cols w)
def runM(L:W→Bool)(t:AW):Nat→W→Nat
 | i,[]=>i
 | i,c::w=>runM L t (CX L t ((t.rows.getD i [])++[c])) w
theorem Px(L:W→Bool)(t:AW):∀(u w:W) (i:Nat),runM L t i (u++w)=runM L t (runM L t i u) w
 | [],_,_=>rfl
 | c::u,w,i=>Px L t u w _
structure BL (L:W→Bool) (ls:List UInt8) (t:AW):Prop extends TOk L ls t where
 cl:∀r∈t.rows,∀l∈ls,marks L t.cols (r++[l])∈AF L t
theorem BL.idx{L:W→Bool}{ls:List UInt8}{t:AW}(h:BL L ls t){i:Nat}{r:W}{l:UInt8}(hi:t.rows[i]? = some r)(hl:l∈ls):∃r',t.rows[CX L t (r++[l])]? = some r'∧marks L t.cols r'=marks L t.cols (r++[l]):=by
 have h1:=h.cl r (List.mem_of_getElem? hi) l hl
 have h2:CX L t (r++[l]) < (AF L t).length:=List.idxOf_lt_length_iff.2 h1
 have h3:(AF L t)[CX L t (r++[l])]'h2=marks L t.cols (r++[l]):=List.getElem_idxOf h2
 have h4:CX L t (r++[l]) < t.rows.length:=by simpa [AF] using h2
 refine⟨t.rows[CX L t (r++[l])],List.getElem?_eq_getElem h4,?_⟩
 rw [←h3]
 simp [AF]
theorem BL.run{L:W→Bool}{ls:List UInt8}{t:AW}(h:BL L ls t):∀(w:W) (i:Nat),AK ls w→i < t.rows.length→runM L t i w < t.rows.length
 | [],_,_,hi=>hi
 | c::w,i,hw,hi=>by
  have h1:t.rows[i]? = some t.rows[i]:=List.getElem?_eq_getElem hi
  obtain⟨_,h2,_⟩:=h.idx h1 (hw c (by simp))
  have h3:t.rows.getD i []=t.rows[i]:=by simp [h1]
  show runM L t (CX L t (t.rows.getD i []++[c])) w < _
  rw [h3]
  exact h.run w _ (fun x hx=>hw x (by simp [hx])) (List.getElem?_eq_some_iff.1 h2).1
def splitAt(L:W→Bool)(t:AW)(b:Bool):Nat→W→Option W
 | _,[]=>none
 | i,c::v=>if L (t.rows.getD (CX L t ((t.rows.getD i [])++[c])) []++v)≠b then some v else splitAt L t b (CX L t ((t.rows.getD i [])++[c])) v
end Go.Am
namespace Go.Am
open Go Go.Proofs
set_option maxHeartbeats 1000000
attribute [local irreducible] AS BT Lex Bc Au Spec
variable {TB:Bt}
abbrev Vx(t:AW):List D:=[Ch t.rows,Ch t.cols]
abbrev DW(t:AW):E:=.a [.d (Ch t.rows),.d (Ch t.cols)]
abbrev IX(al:Int)(c:C):E:=.a [.d (iD al),c]
mutual
theorem EO:∀(c:C),c.Cp=true→∀r,c.A3 r=c
 | .d x,_,r=>rfl
 | .fn g cap,h,r=>by
  simp only [C.Cp] at h
  simp only [C.A3,Ps cap h r]
 | .arr ..,h,_=>by cases h
 | .ptr ..,h,_=>by cases h
 | .mp ..,h,_=>by cases h
 | .mv g l,h,r=>by
  simp only [C.Cp] at h
  simp only [C.A3,Ps l h r]
theorem Ps:∀(l:List C),C.Dr l=true→∀r,C.BB r l=l
 | [],_,r=>rfl
 | c::l,h,r=>by
  simp only [C.Dr,Bool.and_eq_true] at h
  simp only [C.BB,EO c h.1 r,Ps l h.2 r]
end
structure JL (P:Program) (TB:Bt) (c:C) (L:W→Bool) (ok:W→Prop):Prop where
 Cp:c.Cp=true
 ask:∀ {Γ:Ctx} {d:Option Tmp} {ty:TypeId} {pos:String} {af:Array Edge} {g:Option (Nat×Bool)} {f:Env} {σ:Ab} {nx:Nat} {x a:Operand} {tys:Array TypeId} {w:W},
  ev f x=some (.o c)→ev f a=some (eT w)→ok w→AS P TB Γ ⟨d,.call ⟨.value x,#[a],tys⟩,ty,pos,af,g⟩ f σ nx (eB (L w))
def UH(L:W→Bool)(cols:List W)(w:W)(k:Nat)(i:Nat):UInt8:=if i < k then Rp (L (w++cols.getD i [])) else 0
theorem WN(L:W→Bool)(cols:List W)(w:W):(BF cols.length fun i=>Fv (UH L cols w cols.length i))=(marks L cols w).map Fv:=by
 apply List.ext_getElem?
 intro i
 by_cases h:i < cols.length
 ·rw [DJ h]
  simp [marks,UH,h]
 ·rw [List.getElem?_eq_none (by simp [BF];omega),List.getElem?_eq_none (by simp [marks];omega)]
theorem lX:Fv 0=[C.d (D.v (Value.int IntKind.u8 0))]:=rfl
theorem kx(L:W→Bool)(cols:List W)(w:W)(n:Nat):(BF n fun i=>Fv (UH L cols w 0 i))=List.replicate n (Fv 0):=by
 apply List.ext_getElem?
 intro i
 by_cases h:i < n
 ·rw [DJ h];simp [UH,h]
 ·rw [List.getElem?_eq_none (by simp [BF];omega),List.getElem?_eq_none (by simp;omega)]
theorem cD{L:W→Bool}{cols:List W}{w x:W}{k:Nat}(hx:cols[k]? = some x):(BF cols.length fun i=>Fv (if i=k then Rp (L (w++x)) else UH L cols w k i))=BF cols.length fun i=>Fv (UH L cols w (k+1) i):=by
 refine C4 fun i _=>?_
 congr 1
 unfold UH
 by_cases h:i=k
 ·subst h
  rw [if_pos rfl,if_pos (by omega)]
  simp [hx]
 ·rw [if_neg h]
  by_cases h2:i < k
  ·rw [if_pos h2,if_pos (by omega)]
  ·rw [if_neg h2,if_neg (by omega)]
theorem K5{c:C}{L:W→Bool}{ok:W→Prop}(hc:JL Tryz.prog TB c L ok)(al:Int)(t:AW)(w:W)(hl:t.cols.length≤1048576)(hk:∀x∈t.cols,ok (w++x))(hb:∀x∈t.cols,w.length+x.length≤1048576) :
 Pure Tryz.prog TB 109 [IX al c,DW t,eT w] (eT (marks L t.cols w)):=by
 have hr:=EO c hc.Cp
 refine eN Tryz.func109 rfl (by kernel_rfl) rfl ?_;intro Γ hΓ
 (repeat first|refine aU rfl ?_)
 (refine pW rfl ?_ rfl (by rfl);refine Da rfl rfl ?_)
 (refine Ai rfl ?_;refine Bs (fun _ _=>C0 rfl rfl rfl) rfl ?_)
 (repeat first|refine sN rfl ?_ |refine tM rfl ?_ |refine aU rfl ?_ |refine Aa ?_)
 (refine pW rfl ?_ rfl (by rfl);refine Eo rfl rfl (by rfl) (by rfl) (Nat.le_of_ble_eq_true rfl) (by omega) (by omega) (by omega) ?_)
 (repeat first|refine sN rfl ?_ |refine tM rfl ?_ |refine aU rfl ?_ |refine Aa ?_)
 refine aB ?_
 refine Au.AP (α:={k:Nat // k≤t.cols.length}) (fun ⟨k,hkl⟩=>[(2,eT w),(3,.o (.ptr 0 2 0 0)),(7,.o (.arr 1 1 0 t.cols.length)),(15,.o (.d (Ch t.cols))),(16,eI .i64 t.cols.length),(17,eI .i64 k)]) (fun ⟨k,hkl⟩=>[(1,.cells 5 1 (BF t.cols.length fun i=>Fv (UH L t.cols w k i))),(0,.cells 92 2 [[.d (iD al),c]])]) 2 (fun ⟨k,hkl⟩=>t.cols.length - k) (⟨0,by omega⟩) [0,1] (Di hΓ rfl rfl) (by (simp[cX,zC,hΓ,MF,hr,kx,eC,FH,lX])) ?_;rintro⟨k,hkl⟩;(try dsimp only)
 (repeat first|refine s2 rfl fun _ _hb=>?_ |refine aU rfl ?_ |refine Aa ?_)
 (refine aC rfl ?_ ?_<;>rintro⟨⟩)
 ·have hlt:k < t.cols.length:=by (simp only[oZ] at *;omega)
  obtain⟨x,hx⟩:=get_some (l:=t.cols) (k:=k) hlt
  have hx':=get_map (g:=Ed) hx
  have hxm:=List.mem_of_getElem? hx
  have hxb:=hb x hxm
  have hok:=hk x hxm
  have hg:=KS (H:=UH L t.cols w k) (q:=k) (n:=t.cols.length) hlt
  have hs1:(BF t.cols.length fun i=>Fv (UH L t.cols w k i)).set (0+((k:Nat):Int).toNat) (Af (Fv (UH L t.cols w k k)) 0 (eC (eI .u8 45)))=BF t.cols.length fun i=>Fv (if i=k then 45 else UH L t.cols w k i):=Ol (c:=45)
  have hg2:=KS (H:=fun i=>if i=k then 45 else UH L t.cols w k i) (q:=k) (n:=t.cols.length) hlt
  rw [←hs1] at hg2
  have hs2:(BF t.cols.length fun i=>Fv (if i=k then 45 else UH L t.cols w k i)).set (0+((k:Nat):Int).toNat) (Af (Fv (if k=k then 45 else UH L t.cols w k k)) 0 (eC (eI .u8 43)))=BF t.cols.length fun i=>Fv (if i=k then 43 else UH L t.cols w k i):=by
   refine(Ol (H:=fun i=>if i=k then 45 else UH L t.cols w k i) (c:=43)).trans ?_
   refine C4 fun i _=>?_
   by_cases h:i=k<;>simp [h]
  have hst:=cD (L:=L) (w:=w) hx
  refine aK ?_
  refine aS (aB ?_)
  (repeat first|((first|refine sM rfl ?_ ?_|refine s4 rfl ‹_› rfl ?_ ?_);first|exact tI|omega)|(refine Ai rfl ?_;refine gA rfl ?_;first| (refine gB (fun _ _=>hc.ask rfl rfl hok) ?_;intro _ _hb)) |refine aU rfl ?_ |refine Aa ?_)
  (refine aC rfl ?_ ?_<;>rintro⟨⟩)
  ·(repeat first|(refine sM rfl ?_ ?_;first|exact tI|omega) |refine t4 rfl ‹_› rfl ?_ |refine aU rfl ?_ |refine Aa ?_)
   refine⟨⟨k+1,by omega⟩,by dsimp only;(omega),[0,1],?_⟩
   rw [hs1,hs2]
   rw [_hb] at hst
   have e43:Rp true=43:=rfl
   have e45:Rp false=45:=rfl
   simp only [e43,e45] at hst
   simp[cX,zC,hΓ,MF,hr,hst]
  ·refine aK ?_
   (repeat first|(refine sM rfl ?_ ?_;first|exact tI|omega) |refine aU rfl ?_ |refine Aa ?_)
   refine⟨⟨k+1,by omega⟩,by dsimp only;(omega),[0,1],?_⟩
   rw [hs1]
   rw [_hb] at hst
   have e43:Rp true=43:=rfl
   have e45:Rp false=45:=rfl
   simp only [e43,e45] at hst
   simp[cX,zC,hΓ,MF,hr,hst]
 ·obtain rfl:k=t.cols.length:=by (simp only[oZ] at *;omega)
  rw [WN]
  refine aE ?_
  (repeat first|refine tM rfl ?_|(refine Ai rfl ?_;refine gA rfl ?_;first| refine gQ (Oi (marks L t.cols w) rfl rfl (by simp [marks]) (by rw [List.drop_zero,List.take_of_length_le (by simp [marks])])) (by rfl) ?_) |refine aU rfl ?_ |refine Aa ?_)
  refine aR ⟨_,rfl,rfl⟩
def BS(L:W→Bool)(t:AW):Nat→List (W×Int)
 | 0=>[]
 | k+1=>if (CM (BS L t k) (marks L t.cols (t.rows.getD k []))).isSome then BS L t k else BS L t k++[(marks L t.cols (t.rows.getD k []),(k:Int))]
structure aY (ok:W→Prop) (t:AW):Prop where
 ok:∀w∈t.rows,∀x∈t.cols,ok (w++x)
 rb:∀w∈t.rows,w.length≤65536
 cb:∀x∈t.cols,x.length≤65536
 rl:t.rows.length≤4096
 cl:t.cols.length≤4096
theorem Hu{c:C}{L:W→Bool}{ok:W→Prop}(hc:JL Tryz.prog TB c L ok)(al:Int)(t:AW)(ht:aY ok t) :
 Spec Tryz.prog TB 108 [] 0 [IX al c,DW t] (fun x σ nx=>x=.o (.mp 0)∧nx=1∧σ=[(0,.mp (IK (BS L t t.rows.length)))]):=by
 have hr:=EO c hc.Cp
 have hrl:=ht.rl
 refine eN Tryz.func108 rfl (by kernel_rfl) rfl ?_;intro Γ hΓ
 (repeat first|refine aU rfl ?_)
 (refine pW rfl ?_ rfl (by rfl);refine Da rfl rfl ?_)
 (refine Ai rfl ?_;refine Bs (fun _ _=>C0 rfl rfl rfl) rfl ?_)
 (repeat first|refine tM rfl ?_ |refine aU rfl ?_ |refine Aa ?_)
 (refine pW rfl ?_ rfl (by rfl);refine Rs ?_)
 (repeat first|refine sN rfl ?_ |refine tM rfl ?_ |refine aU rfl ?_ |refine Aa ?_)
 refine aB ?_
 refine Au.AP (α:={k:Nat // k≤t.rows.length}) (fun ⟨k,hkl⟩=>[(2,.o (.ptr 0 2 0 0)),(3,.o (.ip (Vx t))),(5,.o (.mp 1)),(13,.o (.d (Ch t.rows))),(14,eI .i64 t.rows.length),(15,eI .i64 k)]) (fun ⟨k,hkl⟩=>[(1,.mp (IK (BS L t k))),(0,.cells 92 2 [[.d (iD al),c]])]) 2 (fun ⟨k,hkl⟩=>t.rows.length - k) (⟨0,by omega⟩) [0,1] (Di hΓ rfl rfl) (by (simp[cX,zC,hΓ,hr,eC,BS,IK])) ?_;rintro⟨k,hkl⟩;(try dsimp only)
 (repeat first|refine s2 rfl fun _ _hb=>?_ |refine aU rfl ?_ |refine Aa ?_)
 (refine aC rfl ?_ ?_<;>rintro⟨⟩)
 ·have hlt:k < t.rows.length:=by (simp only[oZ] at *;omega)
  obtain⟨x,hx⟩:=get_some (l:=t.rows) (k:=k) hlt
  have hx':=get_map (g:=Ed) hx
  have hxm:=List.mem_of_getElem? hx
  have hxb:=ht.rb x hxm
  have hm:=K5 hc al t x (by have:=ht.cl;omega) (ht.ok x hxm) (fun y hy=>by have:=ht.cb y hy;omega)
  have hgd:t.rows.getD k []=x:=by simp [hx]
  have hstep:BS L t (k+1)=if (CM (BS L t k) (marks L t.cols x)).isSome then BS L t k else BS L t k++[(marks L t.cols x,(k:Int))]:=by
   rw [BS,hgd]
  refine aK ?_
  refine aS (aB ?_)
  (repeat first|refine tM rfl ?_ |(refine s4 rfl ‹_› rfl ?_ ?_;omega) |refine s2 rfl fun _ _hb=>?_|(refine Ai rfl ?_;refine gA rfl ?_;first| refine gS (fun _ _=>AO rfl rfl (by simp [E.Cp,C.Dr,C.Cp,hc.Cp]) hm rfl) ?_|refine gQ (dq rfl rfl rfl) (by rfl) ?_) |refine aU rfl ?_ |refine Aa ?_)
  (refine aC rfl ?_ ?_<;>rintro⟨⟩)
  ·have hn:CM (BS L t k) (marks L t.cols x)=none:=by simpa using _hb
   rw [hn] at hstep
   (repeat first|refine tM rfl ?_ |refine aU rfl ?_)
   (refine Ai rfl ?_;refine HP ?_ rfl (by rfl);refine kz rfl rfl rfl rfl hn ?_)
   (repeat first|(refine sM rfl ?_ ?_;first|exact tI|omega) |refine aU rfl ?_ |refine Aa ?_)
   refine⟨⟨k+1,by omega⟩,by dsimp only;(omega),[0,1],?_⟩
   simp[cX,zC,hΓ,hr,hstep]
  ·have hn:(CM (BS L t k) (marks L t.cols x)).isSome=true:=by simpa using _hb
   rw [if_pos hn] at hstep
   refine aK ?_
   (repeat first|(refine sM rfl ?_ ?_;first|exact tI|omega) |refine aU rfl ?_ |refine Aa ?_)
   refine⟨⟨k+1,by omega⟩,by dsimp only;(omega),[0,1],?_⟩
   simp[cX,zC,hΓ,hr,hstep]
 ·obtain rfl:k=t.rows.length:=by (simp only[oZ] at *;omega)
  refine aE ?_
  (repeat first|refine tM rfl ?_ |refine aU rfl ?_ |refine Aa ?_)
  refine Au.names [1] [(4,.o (.mp 0))] [(0,.mp (IK (BS L t t.rows.length)))] (by intro i hi;rw [hΓ] at hi;omega) (by simp) (by simp[cX,zC,hΓ]) (by simp[cX,zC,hΓ]) ?_
  refine aR ⟨_,rfl,rfl,rfl,rfl⟩
theorem ZE(l:List (W×Int))(p:W×Int)(s:W):CM (l++[p]) s=(CM l s).or (if p.1=s then some p.2 else none):=by
 unfold CM
 rw [List.find?_append]
 cases h:l.find? (fun p=>decide (p.1=s)) with
 | some q=>simp
 | none=>by_cases hp:p.1=s<;>simp [hp]
theorem Pv{L:W→Bool}{t:AW}{k:Nat}(h:k < t.rows.length):(AF L t)[k]? = some (marks L t.cols (t.rows.getD k [])):=by
 simp [AF,h]
theorem Rv(L:W→Bool)(t:AW):∀k,k≤t.rows.length→∀s,CM (BS L t k) s=if s∈(AF L t).take k then some (((AF L t).idxOf s:Nat):Int) else none
 | 0,_,s=>by simp [BS,CM]
 | k + 1, hk, s=>by
  have ih:=Rv L t k (by omega)
  have hx:=Pv (L:=L) (t:=t) (k:=k) (by omega)
  generalize marks L t.cols (t.rows.getD k [])=x at *
  have hst:BS L t (k+1)=if (CM (BS L t k) x).isSome then BS L t k else BS L t k++[(x,(k:Int))]:=by
   have hx2:=Pv (L:=L) (t:=t) (k:=k) (by omega)
   rw [hx] at hx2
   injection hx2 with hx2
   rw [BS,←hx2]
  have htk:∀s,s∈(AF L t).take (k+1)↔s∈(AF L t).take k∨s=x:=fun s=>by
   rw [List.take_add_one,hx];simp
  rw [hst]
  by_cases hm:x∈(AF L t).take k
  ·rw [if_pos (by rw [ih x,if_pos hm];rfl),ih s]
   by_cases hs:s∈(AF L t).take k
   ·rw [if_pos hs,if_pos ((htk s).2 (.inl hs))]
   ·rw [if_neg hs,if_neg]
    intro h
    rcases(htk s).1 h with h|h
    ·exact hs h
    ·subst h;exact hs hm
  ·rw [if_neg (by rw [ih x,if_neg hm];simp),ZE,ih s]
   by_cases hs:s∈(AF L t).take k
   ·rw [if_pos hs,if_pos ((htk s).2 (.inl hs))];rfl
   ·rw [if_neg hs]
    by_cases he:x=s
    ·subst he
     rw [if_pos ((htk x).2 (.inr rfl))]
     have hix:(AF L t).idxOf x=k:=by
      have hl:k < (AF L t).length:=(List.getElem?_eq_some_iff.1 hx).1
      have e:AF L t=(AF L t).take k++x::(AF L t).drop (k+1):=by
       rw [←Bo hx,List.take_append_drop]
      rw [e,List.idxOf_append,if_neg hm,List.idxOf_cons_self]
      simp;omega
     simp [hix]
    ·have hns:s∉(AF L t).take (k+1):=fun h=>by
      rcases(htk s).1 h with h|h
      ·exact hs h
      ·exact he h.symm
     rw [if_neg hns]
     simp [he]
theorem UO{L:W→Bool}{t:AW}{s:W}:CM (BS L t t.rows.length) s=if s∈AF L t then some (((AF L t).idxOf s:Nat):Int) else none:=by
 have h:=Rv L t t.rows.length (Nat.le_refl _) s
 have e:(AF L t).take t.rows.length=AF L t:=List.take_of_length_le (by simp [AF])
 rwa [e] at h
theorem YI{L:W→Bool}{ls:List UInt8}{t:AW}{k j:Nat}{r:W}{l:UInt8}(hr:t.rows[k]? = some r)(hl:ls[j]? = some l)(h1:∀w∈CJ ls (t.rows.take k),marks L t.cols w∈AF L t)(h2:∀x∈ls.take j,marks L t.cols (r++[x])∈AF L t)
 (h3:marks L t.cols (r++[l])∉AF L t):A8 L ls t=some (r++[l]):=by
 have e1:t.rows=t.rows.take k++r::t.rows.drop (k+1):=by
  rw [←Bo hr,List.take_append_drop]
 have e2:ls=ls.take j++l::ls.drop (j+1):=by
  rw [←Bo hl,List.take_append_drop]
 have e3:CJ ls t.rows=CJ ls (t.rows.take k)++((ls.take j).map (fun x=>r++[x])++(r++[l])::((ls.drop (j+1)).map (fun x=>r++[x])++CJ ls (t.rows.drop (k+1)))):=by
  have h4:CJ ls t.rows=CJ ls (t.rows.take k++r::t.rows.drop (k+1)):=congrArg _ e1
  rw [h4]
  unfold CJ
  rw [List.flatMap_append,List.flatMap_cons]
  have h5:ls.map (fun x=>r++[x])=(ls.take j++l::ls.drop (j+1)).map (fun x=>r++[x]):=congrArg _ e2
  rw [h5]
  simp
 unfold A8
 rw [e3,List.find?_append,List.find?_append]
 have n1:(CJ ls (t.rows.take k)).find? (fun w=>!(AF L t).contains (marks L t.cols w))=none:=List.find?_eq_none.2 fun w hw=>by simpa using h1 w hw
 have n2:((ls.take j).map (fun x=>r++[x])).find? (fun w=>!(AF L t).contains (marks L t.cols w))=none:=List.find?_eq_none.2 fun w hw=>by
  obtain⟨x,hx,rfl⟩:=List.mem_map.1 hw
  simpa using h2 x hx
 rw [n1,n2]
 simp [h3]
def lb(l:Int):UInt8:=UInt8.ofNat (97+l.toNat)
def AZ(al:Int):List UInt8:=(Ac al).map lb
def Zv(o:Option W):E:=match o with
 | some w=>.t [(false,[.d (tD w)]),(false,[.d (bD true)])]
 | none=>.t [(false,[.d (tD [])]),(false,[.d (bD false)])]
theorem cu{l:Int}(h0:0≤l):UInt8.ofNat (97+l).toNat=lb l:=by
 unfold lb
 congr 1
 omega
theorem Uf{L:W→Bool}{t:AW}{s:W}:(CM (BS L t t.rows.length) s).isSome=true↔s∈AF L t:=by
 rw [UO]
 by_cases h:s∈AF L t<;>simp [h]
theorem Pc{ls:List UInt8}{t:AW}{k:Nat}{r:W}(h:t.rows[k]? = some r):CJ ls (t.rows.take (k+1))=CJ ls (t.rows.take k)++ls.map fun l=>r++[l]:=by
 unfold CJ
 rw [List.take_add_one,h]
 simp
theorem Sq{c:C}{L:W→Bool}{ok:W→Prop}(hc:JL Tryz.prog TB c L ok)(al:Int)(t:AW)(ht:aY ok t)(hn:∀w∈t.rows,∀l∈AZ al,∀x∈t.cols,ok (w++[l]++x)) :
 Pure Tryz.prog TB 158 [IX al c,DW t] (Zv (A8 L (AZ al) t)):=by
 have hr:=EO c hc.Cp
 have hrl:=ht.rl
 have hla:(Ac al).length≤6:=AV al 6
 refine eN Tryz.func158 rfl (by kernel_rfl) rfl ?_;intro Γ hΓ
 (repeat first|refine aU rfl ?_)
 (refine pW rfl ?_ rfl (by rfl);refine Da rfl rfl ?_)
 (refine Ai rfl ?_;refine Bs (fun _ _=>C0 rfl rfl rfl) rfl ?_)
 (repeat first|refine tM rfl ?_ |refine aU rfl ?_ |refine Aa ?_)
 (refine pW rfl ?_ rfl (by rfl);refine Bx [] rfl rfl (Hu hc al t ht) ⟨rfl,by simp,by simp⟩ (by simp [EM,E.A3,C.BB,C.A3,hr,eC]) trivial ?_;rintro x0 σ1 nx1 ⟨rfl,rfl,rfl⟩ _)
 (repeat first|refine sN rfl ?_ |refine tM rfl ?_ |refine aU rfl ?_ |refine Aa ?_)
 refine aB ?_
 refine Au.AP (α:={k:Nat // k≤t.rows.length∧∀w∈CJ (AZ al) (t.rows.take k),marks L t.cols w∈AF L t}) (fun ⟨k,hkl,hkd⟩=>[(2,.o (.ptr 0 2 0 0)),(3,.o (.ip (Vx t))),(6,.o (.mp 1)),(18,.o (.d (Ch t.rows))),(19,eI .i64 t.rows.length),(20,eI .i64 k)]) (fun ⟨k,hkl,hkd⟩=>[(1,.mp (IK (BS L t t.rows.length))),(0,.cells 92 2 [[.d (iD al),c]])]) 2 (fun ⟨k,hkl,hkd⟩=>t.rows.length - k) (⟨0,by omega,by simp [CJ]⟩) [0,1] (Di hΓ rfl rfl) (by (simp[cX,zC,hΓ,hr,eC,Ab.A3,BN,IC])) ?_;rintro⟨k,hkl,hkd⟩;(try dsimp only)
 (repeat first|refine s2 rfl fun _ _hb=>?_ |refine aU rfl ?_ |refine Aa ?_)
 (refine aC rfl ?_ ?_<;>rintro⟨⟩)
 ·have hlt:k < t.rows.length:=by (simp only[oZ] at *;omega)
  obtain⟨r,hx⟩:=get_some (l:=t.rows) (k:=k) hlt
  have hx':=get_map (g:=Ed) hx
  have hxm:=List.mem_of_getElem? hx
  have hxb:=ht.rb r hxm
  refine aK ?_
  refine aS (aB ?_)
  (repeat first|refine sN rfl ?_ |refine tM rfl ?_ |(refine s4 rfl ‹_› rfl ?_ ?_;omega) |refine sP rfl (CN al) rfl ?_ |refine aU rfl ?_ |refine Aa ?_)
  refine aB ?_
  refine Au.AP (α:={j:Nat // j≤(Ac al).length∧∀x∈(AZ al).take j,marks L t.cols (r++[x])∈AF L t}) (fun ⟨j,hjl,hjd⟩=>[(2,.o (.ptr 0 2 0 0)),(3,.o (.ip (Vx t))),(6,.o (.mp 1)),(18,.o (.d (Ch t.rows))),(19,eI .i64 t.rows.length),(20,eI .i64 k),(8,eT r),(26,Ag (Ac al)),(27,eI .i64 (Ac al).length),(28,eI .i64 j)]) (fun ⟨j,hjl,hjd⟩=>[(1,.mp (IK (BS L t t.rows.length))),(0,.cells 92 2 [[.d (iD al),c]])]) 2 (fun ⟨j,hjl,hjd⟩=>(Ac al).length - j) (⟨0,by omega,by simp⟩) [0,1] (Di hΓ rfl rfl) (by (simp[cX,zC,hΓ,hr])) ?_;rintro⟨j,hjl,hjd⟩;(try dsimp only)
  (repeat first|refine s2 rfl fun _ _hb=>?_ |refine aU rfl ?_ |refine Aa ?_)
  (refine aC rfl ?_ ?_<;>rintro⟨⟩)
  ·have hjlt:j < (Ac al).length:=by (simp only[oZ] at *;omega)
   obtain⟨l,hl⟩:=get_some (l:=Ac al) (k:=j) hjlt
   have hl':=get_map (g:=Bm) hl
   have hlb:=Ak (List.mem_of_getElem? hl)
   have hll:(AZ al)[j]? = some (lb l):=by simp [AZ,hl]
   have hlm:=List.mem_of_getElem? hll
   have hm:=K5 hc al t (r++[lb l]) (by have:=ht.cl;omega) (fun x hx=>hn r hxm _ hlm x hx) (fun y hy=>by have:=ht.cb y hy;simp;omega)
   refine aK ?_
   refine aS (aB ?_)
   (repeat first|(refine sM rfl ?_ ?_;first|exact tI|omega|simp only[oZ] at *;omega) |(refine s4 rfl ‹_› rfl ?_ ?_;omega) |refine sP rfl (Fp l hlb.1 (by omega)) rfl ?_|(refine Ai rfl ?_;refine gA rfl ?_;first| refine gS (fun _ _=>WY rfl (by omega) (by omega)) ?_) |refine aU rfl ?_ |refine Aa ?_)
   rw [cu hlb.1]
   (repeat first|refine tM rfl ?_ |refine s2 rfl fun _ _hb=>?_|(refine Ai rfl ?_;refine gA rfl ?_;first| refine gS (fun _ _=>AO rfl rfl (by simp [E.Cp,C.Dr,C.Cp,hc.Cp]) hm rfl) ?_|refine gQ (dq rfl rfl rfl) (by rfl) ?_) |refine aU rfl ?_ |refine Aa ?_)
   (refine aC rfl ?_ ?_<;>rintro⟨⟩)
   ·have hno:marks L t.cols (r++[lb l])∉AF L t:=fun h=>by
     rw [Uf.2 h] at _hb
     cases _hb
    (repeat first|refine tM rfl ?_ |refine aU rfl ?_ |refine Aa ?_)
    refine aR ⟨_,rfl,?_⟩
    rw [YI hx hll hkd hjd hno]
    rfl
   ·have hyes:marks L t.cols (r++[lb l])∈AF L t:=Uf.1 (by simpa using _hb)
    have hjd2:∀x∈(AZ al).take (j+1),marks L t.cols (r++[x])∈AF L t:=fun x hx=>by
     rw [List.take_add_one,hll] at hx
     rcases List.mem_append.1 hx with hx|hx
     ·exact hjd x hx
     ·simp at hx;subst hx;exact hyes
    refine aK ?_
    (repeat first|(refine sM rfl ?_ ?_;first|exact tI|omega) |refine aU rfl ?_ |refine Aa ?_)
    refine⟨⟨j+1,by omega,hjd2⟩,by dsimp only;(omega),[0,1],?_⟩
    simp[cX,zC,hΓ,hr]
  ·obtain rfl:j=(Ac al).length:=by (simp only[oZ] at *;omega)
   have hkd2:∀w∈CJ (AZ al) (t.rows.take (k+1)),marks L t.cols w∈AF L t:=fun w hw=>by
    rw [Pc hx] at hw
    rcases List.mem_append.1 hw with hw|hw
    ·exact hkd w hw
    ·obtain⟨x,hx2,rfl⟩:=List.mem_map.1 hw
     exact hjd x (by rw [List.take_of_length_le (by simp [AZ])];exact hx2)
   refine aE ?_
   (repeat first|(refine sM rfl ?_ ?_;first|exact tI|omega) |refine aU rfl ?_ |refine Aa ?_)
   refine⟨⟨k+1,by omega,hkd2⟩,by dsimp only;(omega),[0,1],?_⟩
   simp[cX,zC,hΓ,hr]
 ·obtain rfl:k=t.rows.length:=by (simp only[oZ] at *;omega)
  have hno:A8 L (AZ al) t=none:=List.find?_eq_none.2 fun w hw=>by
   have:=hkd w (by rw [List.take_length];exact hw)
   simpa using this
  refine aE ?_
  (repeat first|refine tM rfl ?_ |refine aU rfl ?_ |refine Aa ?_)
  refine aR ⟨_,rfl,?_⟩
  rw [hno]
  rfl
end Go.Am
