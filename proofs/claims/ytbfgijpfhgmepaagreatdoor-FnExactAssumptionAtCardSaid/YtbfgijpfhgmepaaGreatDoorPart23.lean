/-
  The text of a mark; marks written into arrays of the caller's own: walked.
-/
import Derived.Test.YtbfgijpfhgmepaaGreatDoorPart22
import Derived.Test.YtbfgijpfhgmepaaGreatDoorPart20
import Derived.Test.YtbfgijpfhgmepaaGreatDoorPart16
import Derived.Test.YtbfgijpfhgmepaaGreatDoorPart21
set_option linter.constructorNameAsVariable false
set_option linter.unusedSectionVars false
set_option linter.unusedSimpArgs false
set_option linter.unusedVariables false
namespace Go.Am
open Go Go.Proofs
set_option maxHeartbeats 1000000
attribute [local irreducible] AS BT Lex Bc Au Spec
variable {TB:Bt}
theorem UD(l:List Int)(k:Int)(h0:0≤k)(h1:k≤1152921504606846976)(h2:l.length≤1152921504606846976):Spec Tryz.prog TB 90 [(0,.cells 3 1 (l.map Al))] 1 [.o (.arr 0 1 0 l.length),eI .i64 k] (fun x σ nx=>x=eI .i64 (k+l.length)∧nx=1∧σ=[(0,.cells 3 1 ((Rq k l.length).map Al))]):=by
 refine eR Tryz.func90 rfl (by kernel_rfl) rfl ?_;intro Γ hΓ
 (repeat first |refine sN rfl ?_ |((first|refine sA rfl ?_ ?_|refine s4 rfl ‹_› rfl ?_ ?_);first|exact tI|omega|simp only[oZ] at *;omega) |refine s2 rfl fun _ _hb=>?_ |refine s3 rfl ?_ ?_<;>rintro rfl |refine aU rfl ?_ |refine Aa ?_)
 refine aB ?_
 refine aL (α:={i:Nat // i≤l.length}) [0] [] rfl rfl (fun s=>[(1,eI .i64 (k+s.1)),(5,eI .i64 s.1)]) (fun s=>[(0,.cells 3 1 ((FP (fun j:Nat=>k+(j:Int)) l s.1).map Al))]) 1 (fun s=>l.length - s.1) (⟨0,by omega⟩) hΓ rfl (by ((repeat' first|exact tI|rfl|refine And.intro ?_ ?_)<;>(simp[cX,zC,hΓ,cN,SG]<;>rfl))) ?_;rintro⟨i,hi⟩;(try dsimp only[cA,cB])
 by_cases hlt:i < l.length
 ·obtain⟨x,hx⟩:=get_some hlt
  have hg:((FP (fun j:Nat=>k+(j:Int)) l i).map Al)[0+((i:Nat):Int).toNat]? = some (Al x):=by rw [Nat.zero_add,Int.toNat_natCast,List.getElem?_map,K9 hx];rfl
  have hs:((FP (fun j:Nat=>k+(j:Int)) l i).map Al).set (0+((i:Nat):Int).toNat) (Al (k+i))=(FP (fun j:Nat=>k+(j:Int)) l (i+1)).map Al:=by rw [Nat.zero_add,Int.toNat_natCast,←List.map_set,La hx]
  (repeat first |refine sN rfl ?_ |((first|refine sA rfl ?_ ?_|refine s4 rfl ‹_› rfl ?_ ?_);first|exact tI|omega|simp only[oZ] at *;omega) |refine s2 rfl fun _ _hb=>?_ |refine s3 rfl ?_ ?_<;>rintro rfl |refine aU rfl ?_ |refine Aa ?_)
  ((refine aC rfl ?_ ?_<;>rintro⟨⟩);all_goals try(exfalso;first|omega|simp only[oZ] at *;omega))
  refine aK ?_
  refine aS (aB ?_)
  (repeat first |refine sN rfl ?_ |((first|refine sA rfl ?_ ?_|refine s4 rfl ‹_› rfl ?_ ?_);first|exact tI|omega|simp only[oZ] at *;omega) |refine s2 rfl fun _ _hb=>?_ |refine s3 rfl ?_ ?_<;>rintro rfl |refine aU rfl ?_ |refine Aa ?_)
  refine⟨⟨i+1,by first|omega|simp only[oZ] at *;omega⟩,by dsimp only;(first|omega|simp only[oZ] at *;omega),[0],?_⟩
  have hsp:Af (Al x) 0 (eC (eI .i64 (k+i)))=Al (k+i):=rfl
  rw [hsp,hs]
  simp[cX,zC,hΓ,cN,Int.add_assoc]
 ·obtain rfl:i=l.length:=by omega
  rw [K8]
  (repeat first |refine sN rfl ?_ |((first|refine sA rfl ?_ ?_|refine s4 rfl ‹_› rfl ?_ ?_);first|exact tI|omega|simp only[oZ] at *;omega) |refine s2 rfl fun _ _hb=>?_ |refine s3 rfl ?_ ?_<;>rintro rfl |refine aU rfl ?_ |refine Aa ?_)
  ((refine aC rfl ?_ ?_<;>rintro⟨⟩);all_goals try(exfalso;first|omega|simp only[oZ] at *;omega))
  refine aE ?_
  (repeat first |refine sN rfl ?_ |((first|refine sA rfl ?_ ?_|refine s4 rfl ‹_› rfl ?_ ?_);first|exact tI|omega|simp only[oZ] at *;omega) |refine s2 rfl fun _ _hb=>?_ |refine s3 rfl ?_ ?_<;>rintro rfl |refine aU rfl ?_ |refine Aa ?_)
  exact aR ⟨_,rfl,[0],eI .i64 (k+l.length),[(0,.cells 3 1 ((Rq k l.length).map Al))],⟨by intro i hi;match i with|0=>rfl,by decide⟩,rfl,by ((repeat' first|exact tI|rfl|refine And.intro ?_ ?_)<;>(simp[cX,zC,hΓ,cN,Rq]<;>rfl)),rfl,rfl,rfl⟩
theorem SD(l:List Bool)(k:Int)(h0:0≤k)(h1:k≤1152921504606846976)(h2:l.length≤1152921504606846976):Spec Tryz.prog TB 52 [(0,.cells 4 1 (l.map Ax))] 1 [.o (.arr 0 1 0 l.length),eI .i64 k] (fun x σ nx=>x=eI .i64 (k+l.length)∧nx=1∧σ=[(0,.cells 4 1 ((Mu k l.length).map Ax))]):=by
 refine eR Tryz.func52 rfl (by kernel_rfl) rfl ?_;intro Γ hΓ
 (repeat first |refine sN rfl ?_ |((first|refine sA rfl ?_ ?_|refine s4 rfl ‹_› rfl ?_ ?_);first|exact tI|omega|simp only[oZ] at *;omega) |refine s2 rfl fun _ _hb=>?_ |refine s3 rfl ?_ ?_<;>rintro rfl |refine aU rfl ?_ |refine Aa ?_)
 refine aB ?_
 refine aL (α:={i:Nat // i≤l.length}) [0] [] rfl rfl (fun s=>[(1,eI .i64 (k+s.1)),(5,eI .i64 s.1)]) (fun s=>[(0,.cells 4 1 ((FP (fun j:Nat=>decide ((k+(j:Int)) % 3=0)) l s.1).map Ax))]) 1 (fun s=>l.length - s.1) (⟨0,by omega⟩) hΓ rfl (by ((repeat' first|exact tI|rfl|refine And.intro ?_ ?_)<;>(simp[cX,zC,hΓ,cN,SG]<;>rfl))) ?_;rintro⟨i,hi⟩;(try dsimp only[cA,cB])
 by_cases hlt:i < l.length
 ·obtain⟨x,hx⟩:=get_some hlt
  have hg:((FP (fun j:Nat=>decide ((k+(j:Int)) % 3=0)) l i).map Ax)[0+((i:Nat):Int).toNat]? = some (Ax x):=by rw [Nat.zero_add,Int.toNat_natCast,List.getElem?_map,K9 hx];rfl
  have hs:((FP (fun j:Nat=>decide ((k+(j:Int)) % 3=0)) l i).map Ax).set (0+((i:Nat):Int).toNat) (Ax (decide ((k+(i:Int)) % 3=0)))=(FP (fun j:Nat=>decide ((k+(j:Int)) % 3=0)) l (i+1)).map Ax:=by rw [Nat.zero_add,Int.toNat_natCast,←List.map_set,La hx]
  (repeat first |refine sN rfl ?_ |((first|refine sA rfl ?_ ?_|refine s4 rfl ‹_› rfl ?_ ?_);first|exact tI|omega|simp only[oZ] at *;omega) |refine s2 rfl fun _ _hb=>?_ |refine s3 rfl ?_ ?_<;>rintro rfl |refine aU rfl ?_ |refine Aa ?_)
  ((refine aC rfl ?_ ?_<;>rintro⟨⟩);all_goals try(exfalso;first|omega|simp only[oZ] at *;omega))
  refine aK ?_
  refine aS (aB ?_)
  (repeat first |refine sN rfl ?_ |((first|refine sA rfl ?_ ?_|refine s4 rfl ‹_› rfl ?_ ?_);first|exact tI|omega|simp only[oZ] at *;omega) |refine s2 rfl fun _ _hb=>?_ |refine s3 rfl ?_ ?_<;>rintro rfl |refine aU rfl ?_ |refine Aa ?_)
  subst _hb
  refine⟨⟨i+1,by first|omega|simp only[oZ] at *;omega⟩,by dsimp only;(first|omega|simp only[oZ] at *;omega),[0],?_⟩
  have hsp:Af (Ax x) 0 (eC (eB (decide ((k+(i:Int)) % 3=0))))=Ax (decide ((k+(i:Int)) % 3=0)):=rfl
  rw [hsp,hs]
  simp[cX,zC,hΓ,cN,Int.add_assoc]
 ·obtain rfl:i=l.length:=by omega
  rw [K8]
  (repeat first |refine sN rfl ?_ |((first|refine sA rfl ?_ ?_|refine s4 rfl ‹_› rfl ?_ ?_);first|exact tI|omega|simp only[oZ] at *;omega) |refine s2 rfl fun _ _hb=>?_ |refine s3 rfl ?_ ?_<;>rintro rfl |refine aU rfl ?_ |refine Aa ?_)
  ((refine aC rfl ?_ ?_<;>rintro⟨⟩);all_goals try(exfalso;first|omega|simp only[oZ] at *;omega))
  refine aE ?_
  (repeat first |refine sN rfl ?_ |((first|refine sA rfl ?_ ?_|refine s4 rfl ‹_› rfl ?_ ?_);first|exact tI|omega|simp only[oZ] at *;omega) |refine s2 rfl fun _ _hb=>?_ |refine s3 rfl ?_ ?_<;>rintro rfl |refine aU rfl ?_ |refine Aa ?_)
  exact aR ⟨_,rfl,[0],eI .i64 (k+l.length),[(0,.cells 4 1 ((Mu k l.length).map Ax))],⟨by intro i hi;match i with|0=>rfl,by decide⟩,rfl,by ((repeat' first|exact tI|rfl|refine And.intro ?_ ?_)<;>(simp[cX,zC,hΓ,cN,Mu]<;>rfl)),rfl,rfl,rfl⟩
theorem Un(n:Nat)(k:Int)(h0:0≤k)(h1:k≤1152921504606846976)(h2:n≤1152921504606846976):Pure Tryz.prog TB 91 [Ag (Rq k n),eI .i64 k] (eI .i64 (k+n)):=by
 have hl:=YC k n
 refine eG Tryz.func91 rfl (by kernel_rfl) rfl ?_;intro Γ hΓ
 (repeat first |refine sN rfl ?_ |((first|refine sA rfl ?_ ?_|refine s4 rfl ‹_› rfl ?_ ?_);first|exact tI|omega|simp only[oZ] at *;omega) |refine s2 rfl fun _ _hb=>?_ |refine s3 rfl ?_ ?_<;>rintro rfl |refine aU rfl ?_ |refine Aa ?_)
 refine aB ?_
 refine aL (α:={i:Nat // i≤n}) [0] [] rfl rfl (fun s=>[(1,eI .i64 (k+s.1)),(5,eI .i64 s.1)]) (fun s=>[]) 0 (fun s=>n - s.1) (⟨0,by omega⟩) hΓ rfl (by ((repeat' first|exact tI|rfl|refine And.intro ?_ ?_)<;>(simp[cX,zC,hΓ]<;>rfl))) ?_;rintro⟨i,hi⟩;(try dsimp only[cA,cB])
 by_cases hlt:i < n
 ·have hx:(Rq k n)[i]? = some (k+i):=MD hlt
  have hx':=get_map (g:=Bm) hx
  (repeat first |refine sN rfl ?_ |((first|refine sA rfl ?_ ?_|refine s4 rfl ‹_› rfl ?_ ?_);first|exact tI|omega|simp only[oZ] at *;omega) |refine s2 rfl fun _ _hb=>?_ |refine s3 rfl ?_ ?_<;>rintro rfl |refine aU rfl ?_ |refine Aa ?_)
  ((refine aC rfl ?_ ?_<;>rintro⟨⟩);all_goals try(exfalso;first|omega|simp only[oZ] at *;omega))
  refine aK ?_
  refine aS (aB ?_)
  (repeat first |refine sN rfl ?_ |((first|refine sA rfl ?_ ?_|refine s4 rfl ‹_› rfl ?_ ?_);first|exact tI|omega|simp only[oZ] at *;omega) |refine s2 rfl fun _ _hb=>?_ |refine s3 rfl ?_ ?_<;>rintro rfl |refine aU rfl ?_ |refine Aa ?_)
  ((refine aC rfl ?_ ?_<;>rintro⟨⟩);all_goals try(exfalso;first|omega|simp only[oZ] at *;omega))
  refine aK ?_
  (repeat first |refine sN rfl ?_ |((first|refine sA rfl ?_ ?_|refine s4 rfl ‹_› rfl ?_ ?_);first|exact tI|omega|simp only[oZ] at *;omega) |refine s2 rfl fun _ _hb=>?_ |refine s3 rfl ?_ ?_<;>rintro rfl |refine aU rfl ?_ |refine Aa ?_)
  refine⟨⟨i+1,by first|omega|simp only[oZ] at *;omega⟩,by dsimp only;(first|omega|simp only[oZ] at *;omega),[],?_⟩
  simp[cX,zC,hΓ,Int.add_assoc]
 ·obtain rfl:i=n:=by omega
  (repeat first |refine sN rfl ?_ |((first|refine sA rfl ?_ ?_|refine s4 rfl ‹_› rfl ?_ ?_);first|exact tI|omega|simp only[oZ] at *;omega) |refine s2 rfl fun _ _hb=>?_ |refine s3 rfl ?_ ?_<;>rintro rfl |refine aU rfl ?_ |refine Aa ?_)
  ((refine aC rfl ?_ ?_<;>rintro⟨⟩);all_goals try(exfalso;first|omega|simp only[oZ] at *;omega))
  refine aE ?_
  (repeat first |refine sN rfl ?_ |((first|refine sA rfl ?_ ?_|refine s4 rfl ‹_› rfl ?_ ?_);first|exact tI|omega|simp only[oZ] at *;omega) |refine s2 rfl fun _ _hb=>?_ |refine s3 rfl ?_ ?_<;>rintro rfl |refine aU rfl ?_ |refine Aa ?_)
  (subst_vars;exact aR ⟨_,rfl,rfl⟩)
theorem Sr(n:Nat)(k:Int)(h0:0≤k)(h1:k≤1152921504606846976)(h2:n≤1152921504606846976):Pure Tryz.prog TB 54 [EG (Mu k n),eI .i64 k] (eI .i64 (k+n)):=by
 have hl:=O7 k n
 refine eG Tryz.func54 rfl (by kernel_rfl) rfl ?_;intro Γ hΓ
 (repeat first |refine sN rfl ?_ |((first|refine sA rfl ?_ ?_|refine s4 rfl ‹_› rfl ?_ ?_);first|exact tI|omega|simp only[oZ] at *;omega) |refine s2 rfl fun _ _hb=>?_ |refine s3 rfl ?_ ?_<;>rintro rfl |refine aU rfl ?_ |refine Aa ?_)
 refine aB ?_
 refine aL (α:={i:Nat // i≤n}) [0] [] rfl rfl (fun s=>[(1,eI .i64 (k+s.1)),(5,eI .i64 s.1)]) (fun s=>[]) 0 (fun s=>n - s.1) (⟨0,by omega⟩) hΓ rfl (by ((repeat' first|exact tI|rfl|refine And.intro ?_ ?_)<;>(simp[cX,zC,hΓ]<;>rfl))) ?_;rintro⟨i,hi⟩;(try dsimp only[cA,cB])
 by_cases hlt:i < n
 ·have hx:(Mu k n)[i]? = some (decide ((k+(i:Int)) % 3=0)):=MD hlt
  have hx':=get_map (g:=Ib) hx
  (repeat first |refine sN rfl ?_ |((first|refine sA rfl ?_ ?_|refine s4 rfl ‹_› rfl ?_ ?_);first|exact tI|omega|simp only[oZ] at *;omega) |refine s2 rfl fun _ _hb=>?_ |refine s3 rfl ?_ ?_<;>rintro rfl |refine aU rfl ?_ |refine Aa ?_)
  ((refine aC rfl ?_ ?_<;>rintro⟨⟩);all_goals try(exfalso;first|omega|simp only[oZ] at *;omega))
  refine aK ?_
  refine aS (aB ?_)
  (repeat first |refine sN rfl ?_ |((first|refine sA rfl ?_ ?_|refine s4 rfl ‹_› rfl ?_ ?_);first|exact tI|omega|simp only[oZ] at *;omega) |refine s2 rfl fun _ _hb=>?_ |refine s3 rfl ?_ ?_<;>rintro rfl |refine aU rfl ?_ |refine Aa ?_)
  (refine aC rfl ?_ ?_<;>rintro⟨⟩)
  ·exfalso
   simp_all
  refine aK ?_
  (repeat first |refine sN rfl ?_ |((first|refine sA rfl ?_ ?_|refine s4 rfl ‹_› rfl ?_ ?_);first|exact tI|omega|simp only[oZ] at *;omega) |refine s2 rfl fun _ _hb=>?_ |refine s3 rfl ?_ ?_<;>rintro rfl |refine aU rfl ?_ |refine Aa ?_)
  refine⟨⟨i+1,by first|omega|simp only[oZ] at *;omega⟩,by dsimp only;(first|omega|simp only[oZ] at *;omega),[],?_⟩
  simp[cX,zC,hΓ,Int.add_assoc]
 ·obtain rfl:i=n:=by omega
  (repeat first |refine sN rfl ?_ |((first|refine sA rfl ?_ ?_|refine s4 rfl ‹_› rfl ?_ ?_);first|exact tI|omega|simp only[oZ] at *;omega) |refine s2 rfl fun _ _hb=>?_ |refine s3 rfl ?_ ?_<;>rintro rfl |refine aU rfl ?_ |refine Aa ?_)
  ((refine aC rfl ?_ ?_<;>rintro⟨⟩);all_goals try(exfalso;first|omega|simp only[oZ] at *;omega))
  refine aE ?_
  (repeat first |refine sN rfl ?_ |((first|refine sA rfl ?_ ?_|refine s4 rfl ‹_› rfl ?_ ?_);first|exact tI|omega|simp only[oZ] at *;omega) |refine s2 rfl fun _ _hb=>?_ |refine s3 rfl ?_ ?_<;>rintro rfl |refine aU rfl ?_ |refine Aa ?_)
  (subst_vars;exact aR ⟨_,rfl,rfl⟩)
theorem Ss(ns:List Nat)(k:Int)(h0:0≤k)(h1:k+ns.sum≤1152921504606846976)(h2:ns.length≤1152921504606846976):Pure Tryz.prog TB 53 [Cm (O8 k ns),eI .i64 k] (eI .i64 (k+ns.sum)):=by
 have hl:=UI k ns
 refine eG Tryz.func53 rfl (by kernel_rfl) rfl ?_;intro Γ hΓ
 (repeat first |refine sN rfl ?_ |((first|refine sA rfl ?_ ?_|refine s4 rfl ‹_› rfl ?_ ?_);first|exact tI|omega|simp only[oZ] at *;omega) |refine s2 rfl fun _ _hb=>?_ |refine s3 rfl ?_ ?_<;>rintro rfl |refine aU rfl ?_ |refine Aa ?_)
 refine aB ?_
 refine aL (α:={i:Nat // i≤ns.length}) [0] [] rfl rfl (fun s=>[(1,eI .i64 (k+Cw ns s.1)),(5,eI .i64 s.1)]) (fun s=>[]) 0 (fun s=>ns.length - s.1) (⟨0,by omega⟩) hΓ rfl (by ((repeat' first|exact tI|rfl|refine And.intro ?_ ?_)<;>(simp[cX,zC,hΓ,Cw]<;>rfl))) ?_;rintro⟨i,hi⟩;(try dsimp only[cA,cB])
 by_cases hlt:i < ns.length
 ·obtain⟨n,hn⟩:=get_some hlt
  have hx:(O8 k ns)[i]? = some (Rq (k+Cw ns i) n):=by
   have:=MD (f:=fun i=>Rq (k+Cw ns i) (ns.getD i 0)) hlt
   rw [X9 hn] at this
   exact this
  have hx':=get_map (g:=Dw) hx
  have hs:=PI hn
  have hle:=PH ns (i+1)
  have hc:=Un (TB:=TB) n (k+Cw ns i) (by omega) (by omega) (by omega)
  have ek:k+((Cw ns (i+1):Nat):Int)=k+Cw ns i+n:=by rw [hs];omega
  (repeat first |refine sN rfl ?_ |((first|refine sA rfl ?_ ?_|refine s4 rfl ‹_› rfl ?_ ?_);first|exact tI|omega|simp only[oZ] at *;omega) |refine s2 rfl fun _ _hb=>?_ |refine s3 rfl ?_ ?_<;>rintro rfl |refine aU rfl ?_ |refine Aa ?_)
  ((refine aC rfl ?_ ?_<;>rintro⟨⟩);all_goals try(exfalso;first|omega|simp only[oZ] at *;omega))
  refine aK ?_
  refine aS (aB ?_)
  (repeat first |refine sN rfl ?_ |((first|refine sA rfl ?_ ?_|refine s4 rfl ‹_› rfl ?_ ?_);first|exact tI|omega|simp only[oZ] at *;omega) |refine s2 rfl fun _ _hb=>?_ |refine sP rfl (hc) rfl ?_ |refine s3 rfl ?_ ?_<;>rintro rfl |refine aU rfl ?_ |refine Aa ?_)
  ((refine aC rfl ?_ ?_<;>rintro⟨⟩);all_goals try(exfalso;first|omega|simp only[oZ] at *;omega))
  refine aK ?_
  (repeat first |refine sN rfl ?_ |((first|refine sA rfl ?_ ?_|refine s4 rfl ‹_› rfl ?_ ?_);first|exact tI|omega|simp only[oZ] at *;omega) |refine s2 rfl fun _ _hb=>?_ |refine s3 rfl ?_ ?_<;>rintro rfl |refine aU rfl ?_ |refine Aa ?_)
  refine⟨⟨i+1,by first|omega|simp only[oZ] at *;omega⟩,by dsimp only;(first|omega|simp only[oZ] at *;omega),[],?_⟩
  simp[cX,zC,hΓ,ek]
 ·obtain rfl:i=ns.length:=by omega
  rw [RL]
  (repeat first |refine sN rfl ?_ |((first|refine sA rfl ?_ ?_|refine s4 rfl ‹_› rfl ?_ ?_);first|exact tI|omega|simp only[oZ] at *;omega) |refine s2 rfl fun _ _hb=>?_ |refine s3 rfl ?_ ?_<;>rintro rfl |refine aU rfl ?_ |refine Aa ?_)
  ((refine aC rfl ?_ ?_<;>rintro⟨⟩);all_goals try(exfalso;first|omega|simp only[oZ] at *;omega))
  refine aE ?_
  (repeat first |refine sN rfl ?_ |((first|refine sA rfl ?_ ?_|refine s4 rfl ‹_› rfl ?_ ?_);first|exact tI|omega|simp only[oZ] at *;omega) |refine s2 rfl fun _ _hb=>?_ |refine s3 rfl ?_ ?_<;>rintro rfl |refine aU rfl ?_ |refine Aa ?_)
  (subst_vars;exact aR ⟨_,rfl,rfl⟩)
theorem HI(al:Int)(ns:List Nat)(n:Nat)(k:Int)(h0:0≤k)(h1:k+ns.sum+n≤1152921504606846976)(h2:ns.length≤1152921504606846976):Pure Tryz.prog TB 22 [Bp ⟨al,O8 k ns,Mu (k+ns.sum) n⟩,eI .i64 k] (eI .i64 (k+ns.sum+n)):=by
 have c1:=Ss (TB:=TB) ns k h0 (by omega) h2
 have c2:=Sr (TB:=TB) n (k+ns.sum) (by omega) (by omega) (by omega)
 refine eG Tryz.func22 rfl (by kernel_rfl) rfl ?_;intro Γ hΓ
 (repeat first |refine sN rfl ?_ |((first|refine sA rfl ?_ ?_|refine s4 rfl ‹_› rfl ?_ ?_);first|exact tI|omega|simp only[oZ] at *;omega) |refine s2 rfl fun _ _hb=>?_ |refine sP rfl (c1) rfl ?_ |refine s3 rfl ?_ ?_<;>rintro rfl |refine aU rfl ?_ |refine Aa ?_)
 ((refine aC rfl ?_ ?_<;>rintro⟨⟩);all_goals try(exfalso;first|omega|simp only[oZ] at *;omega))
 refine aK ?_
 (repeat first |refine sN rfl ?_ |((first|refine sA rfl ?_ ?_|refine s4 rfl ‹_› rfl ?_ ?_);first|exact tI|omega|simp only[oZ] at *;omega) |refine s2 rfl fun _ _hb=>?_ |refine sP rfl (c2) rfl ?_ |refine s3 rfl ?_ ?_<;>rintro rfl |refine aU rfl ?_ |refine Aa ?_)
 ((refine aC rfl ?_ ?_<;>rintro⟨⟩);all_goals try(exfalso;first|omega|simp only[oZ] at *;omega))
 refine aK ?_
 (repeat first |refine sN rfl ?_ |((first|refine sA rfl ?_ ?_|refine s4 rfl ‹_› rfl ?_ ?_);first|exact tI|omega|simp only[oZ] at *;omega) |refine s2 rfl fun _ _hb=>?_ |refine s3 rfl ?_ ?_<;>rintro rfl |refine aU rfl ?_ |refine Aa ?_)
 (subst_vars;exact aR ⟨_,rfl,rfl⟩)
abbrev BD(l:Ga):List Nat:=l.map fun x=>x.2.length
theorem SF(l:Ga)(k:Int)(h0:0≤k)(h1:k+(BD l).sum≤1152921504606846976)(h2:l.length≤1152921504606846976):Spec Tryz.prog TB 51 [(0,.cells 62 1 (A6 l)),(1,.sld 3 (sI l))] 2 [.o (.arr 0 1 0 l.length),eI .i64 k] (fun x σ nx=>∃l':Ga,l'.map (·.2)=O8 k (BD l)∧x=eI .i64 (k+(BD l).sum)∧nx=2∧σ=[(0,.cells 62 1 (A6 l')),(1,.sld 3 (sI l'))]):=by
 have hnl:(BD l).length=l.length:=by simp
 refine eR Tryz.func51 rfl (by kernel_rfl) rfl ?_;intro Γ hΓ
 (repeat first |refine sN rfl ?_ |((first|refine sA rfl ?_ ?_|refine s4 rfl ‹_› rfl ?_ ?_);first|exact tI|omega|simp only[oZ] at *;omega) |refine s2 rfl fun _ _hb=>?_ |refine s3 rfl ?_ ?_<;>rintro rfl |refine aU rfl ?_ |refine Aa ?_)
 refine aB ?_
 refine aL (α:={s:Nat×Ga // s.1≤l.length∧s.2.map (·.2)=FP (fun i=>Rq (k+Cw (BD l) i) ((BD l).getD i 0)) (l.map (·.2)) s.1}) [0] [] rfl rfl (fun s=>[(1,eI .i64 (k+Cw (BD l) s.1.1)),(5,eI .i64 s.1.1)]) (fun s=>[(0,.cells 62 1 (A6 s.1.2)),(1,.sld 3 (sI s.1.2))]) 2 (fun s=>l.length - s.1.1) (⟨⟨0,l⟩,by simp,by simp [SG]⟩) hΓ rfl (by ((repeat' first|exact tI|rfl|refine And.intro ?_ ?_)<;>(simp[cX,zC,hΓ,cN,Cw]<;>rfl))) ?_;rintro⟨⟨i,u⟩,hi,hu⟩;(try dsimp only[cA,cB])
 have hi:i≤l.length:=hi
 have hu:u.map (·.2)=FP (fun i=>Rq (k+Cw (BD l) i) ((BD l).getD i 0)) (l.map (·.2)) i:=hu
 have hul:u.length=l.length:=by have:=congrArg List.length hu;rw [UG (by simpa using hi)] at this;simpa using this
 by_cases hlt:i < l.length
 ·obtain⟨y,hy⟩:=get_some (l:=u) (k:=i) (by omega)
  obtain⟨y0,hy0⟩:=get_some hlt
  have e0:(l.map (·.2))[i]? = some y0.2:=by rw [List.getElem?_map,hy0];rfl
  have e1:y.2=y0.2:=by
   have h3:(u.map (·.2))[i]? = some y.2:=by rw [List.getElem?_map,hy];rfl
   rw [hu,K9 e0] at h3
   injection h3 with h3;exact h3.symm
  have hn:(BD l)[i]? = some y.2.length:=by rw [List.getElem?_map,hy0,e1];rfl
  have hs:=PI hn
  have hle:=PH (BD l) (i+1)
  have ek:k+((Cw (BD l) (i+1):Nat):Int)=k+Cw (BD l) i+y.2.length:=by rw [hs];omega
  have hc:=UD (TB:=TB) y.2 (k+Cw (BD l) i) (by omega) (by omega) (by omega)
  have hrow:((A6 u).set i [.arr 2 1 0 y.2.length])[0+((i:Nat):Int).toNat]? = some [.arr 2 1 0 y.2.length]:=by
   rw [Nat.zero_add,Int.toNat_natCast,List.getElem?_set,if_pos rfl,if_pos (by rw [Ec];omega)]
  have hnew:∀v,(u.set i (v,Rq (k+Cw (BD l) i) y.2.length)).map (·.2)=FP (fun i=>Rq (k+Cw (BD l) i) ((BD l).getD i 0)) (l.map (·.2)) (i+1):=fun v=>by
   rw [List.map_set,hu]
   show (FP _ _ i).set i (Rq (k+Cw (BD l) i) y.2.length)=_
   have:=La (f:=fun i=>Rq (k+Cw (BD l) i) ((BD l).getD i 0)) e0
   rw [X9 hn] at this
   exact this
  (repeat first |refine sN rfl ?_ |((first|refine sA rfl ?_ ?_|refine s4 rfl ‹_› rfl ?_ ?_);first|exact tI|omega|simp only[oZ] at *;omega) |refine s2 rfl fun _ _hb=>?_ |refine s3 rfl ?_ ?_<;>rintro rfl |refine aU rfl ?_ |refine Aa ?_)
  ((refine aC rfl ?_ ?_<;>rintro⟨⟩);all_goals try(exfalso;first|omega|simp only[oZ] at *;omega))
  refine aK ?_
  refine Au.jx 0 1 u i y hy rfl rfl ?_
  refine aS (aB ?_)
  (repeat first |refine sN rfl ?_ |((first|refine sA rfl ?_ ?_|refine s4 rfl ‹_› rfl ?_ ?_);first|exact tI|omega|simp only[oZ] at *;omega) |refine s2 rfl fun _ _hb=>?_ |refine s3 rfl ?_ ?_<;>rintro rfl |refine aU rfl ?_ |refine Aa ?_)
  (refine pW rfl ?_ rfl (by rfl);refine Bx [2] rfl rfl (hc) ⟨rfl,by decide,by decide⟩ rfl (by simp[cX,zC,hΓ,cN]) ?_;rintro x0 σ1 nx1 ⟨rfl,rfl,rfl⟩ _)
  (repeat first |refine sN rfl ?_ |((first|refine sA rfl ?_ ?_|refine s4 rfl ‹_› rfl ?_ ?_);first|exact tI|omega|simp only[oZ] at *;omega) |refine s2 rfl fun _ _hb=>?_ |refine s3 rfl ?_ ?_<;>rintro rfl)
  refine Aa ?_
  refine Au.BR [0,1,5] [] rfl rfl [] [(0,.cells 62 1 ((A6 u).set i [.arr 2 1 0 y.2.length])),(1,.sld 3 (sI (u.eraseIdx i))),(2,.cells 3 1 ((Rq (k+Cw (BD l) i) y.2.length).map Al))] [0,1,2] (rl hΓ rfl) (by ((repeat' first|exact tI|rfl|refine And.intro ?_ ?_)<;>(simp[cX,zC,hΓ,cN]<;>rfl))) ?_;(try dsimp only[cA,cB])
  refine Au.putAt 0 2 1 u i y hy (Rq (k+Cw (BD l) i) y.2.length) (by rw [YC];rfl) rfl rfl fun v=>?_
  (repeat first |refine sN rfl ?_ |((first|refine sA rfl ?_ ?_|refine s4 rfl ‹_› rfl ?_ ?_);first|exact tI|omega|simp only[oZ] at *;omega) |refine s2 rfl fun _ _hb=>?_ |refine s3 rfl ?_ ?_<;>rintro rfl |refine aU rfl ?_ |refine Aa ?_)
  refine⟨⟨⟨i+1,u.set i (v,Rq (k+Cw (BD l) i) y.2.length)⟩,by dsimp only;omega,hnew v⟩,by dsimp only;(first|omega|simp only[oZ] at *;omega),[0,1],?_⟩
  simp[cX,zC,hΓ,cN,ek]
  intro i hi;match i with|0=>rfl|1=>rfl
 ·obtain rfl:i=l.length:=by omega
  rw [←hnl,RL]
  have hend:u.map (·.2)=O8 k (BD l):=by
   rw [hu]
   have:=K8 (f:=fun i=>Rq (k+Cw (BD l) i) ((BD l).getD i 0)) (l:=l.map (·.2))
   rw [List.length_map] at this
   rw [this]
   unfold O8
   rw [hnl]
  (repeat first |refine sN rfl ?_ |((first|refine sA rfl ?_ ?_|refine s4 rfl ‹_› rfl ?_ ?_);first|exact tI|omega|simp only[oZ] at *;omega) |refine s2 rfl fun _ _hb=>?_ |refine s3 rfl ?_ ?_<;>rintro rfl |refine aU rfl ?_ |refine Aa ?_)
  ((refine aC rfl ?_ ?_<;>rintro⟨⟩);all_goals try(exfalso;first|omega|simp only[oZ] at *;omega))
  refine aE ?_
  (repeat first |refine sN rfl ?_ |((first|refine sA rfl ?_ ?_|refine s4 rfl ‹_› rfl ?_ ?_);first|exact tI|omega|simp only[oZ] at *;omega) |refine s2 rfl fun _ _hb=>?_ |refine s3 rfl ?_ ?_<;>rintro rfl |refine aU rfl ?_ |refine Aa ?_)
  exact aR ⟨_,rfl,[0,1],eI .i64 (k+(BD l).sum),[(0,.cells 62 1 (A6 u)),(1,.sld 3 (sI u))],⟨by intro i hi;match i with|0=>rfl|1=>rfl,by decide⟩,rfl,by ((repeat' first|exact tI|rfl|refine And.intro ?_ ?_)<;>(simp[cX,zC,hΓ,cN]<;>rfl)),u,hend,rfl,rfl,rfl⟩
theorem Fe(al:Int)(l:Ga)(ac:List Bool)(k:Int)(h0:0≤k)(h1:k+(BD l).sum≤576460752303423488)(h2:l.length≤576460752303423488)(h3:ac.length≤576460752303423488) :
 Spec Tryz.prog TB 21 [(0,.cells 62 1 (A6 l)),(1,.cells 4 1 (ac.map Ax)),(2,.sld 3 (sI l))] 3 [Wu al 0 1 l.length ac.length,eI .i64 k] (fun x σ nx=>∃l':Ga,l'.map (·.2)=O8 k (BD l)∧x=eI .i64 (k+(BD l).sum+ac.length)∧nx=3∧σ=[(0,.cells 62 1 (A6 l')),(1,.cells 4 1 ((Mu (k+(BD l).sum) ac.length).map Ax)),(2,.sld 3 (sI l'))]):=by
 have c1:=SF (TB:=TB) l k h0 (by omega) (by omega)
 have c2:=SD (TB:=TB) ac (k+(BD l).sum) (by omega) (by omega) (by omega)
 refine eR Tryz.func21 rfl (by kernel_rfl) rfl ?_;intro Γ hΓ
 (repeat first |refine sN rfl ?_ |((first|refine sM rfl ?_ ?_|refine s4 rfl ‹_› rfl ?_ ?_);first|exact tI|omega|simp only[oZ] at *;omega) |refine s2 rfl fun _ _hb=>?_ |refine s3 rfl ?_ ?_<;>rintro rfl |refine aU rfl ?_ |refine Aa ?_ |refine rE (by kernel_rfl) ?_)
 (refine pW rfl ?_ rfl (by rfl);refine Da rfl rfl ?_)
 (repeat first |refine sN rfl ?_ |((first|refine sA rfl ?_ ?_|refine s4 rfl ‹_› rfl ?_ ?_);first|exact tI|omega|simp only[oZ] at *;omega) |refine s2 rfl fun _ _hb=>?_ |refine s3 rfl ?_ ?_<;>rintro rfl |refine aU rfl ?_ |refine Aa ?_)
 (refine pW rfl ?_ rfl (by rfl);refine Bx [0,2] rfl rfl (c1) ⟨rfl,by decide,by decide⟩ rfl (by simp[cX,zC,hΓ,cN]) ?_;rintro x0 σ1 nx1 ⟨u,hu,rfl,rfl,rfl⟩ _)
 (repeat first |refine sN rfl ?_ |((first|refine sA rfl ?_ ?_|refine s4 rfl ‹_› rfl ?_ ?_);first|exact tI|omega|simp only[oZ] at *;omega) |refine s2 rfl fun _ _hb=>?_ |refine s3 rfl ?_ ?_<;>rintro rfl |refine aU rfl ?_ |refine Aa ?_)
 (refine pW rfl ?_ rfl (by rfl);refine Bx [1] rfl rfl (c2) ⟨rfl,by decide,by decide⟩ rfl (by simp[cX,zC,hΓ,cN]) ?_;rintro x0 σ1 nx1 ⟨rfl,rfl,rfl⟩ _)
 (repeat first |refine sN rfl ?_ |((first|refine sA rfl ?_ ?_|refine s4 rfl ‹_› rfl ?_ ?_);first|exact tI|omega|simp only[oZ] at *;omega) |refine s2 rfl fun _ _hb=>?_ |refine s3 rfl ?_ ?_<;>rintro rfl |refine aU rfl ?_ |refine Aa ?_)
 exact aR ⟨_,rfl,[0,1,2],eI .i64 (k+(BD l).sum+ac.length),[(0,.cells 62 1 (A6 u)),(1,.cells 4 1 ((Mu (k+(BD l).sum) ac.length).map Ax)),(2,.sld 3 (sI u))],⟨by intro i hi;match i with|0=>rfl|1=>rfl|2=>rfl,by decide⟩,rfl,by ((repeat' first|exact tI|rfl|refine And.intro ?_ ?_)<;>(simp[cX,zC,hΓ,cN]<;>rfl)),u,hu,rfl,rfl,rfl⟩
theorem SE(l:List ET)(k:Int)(h0:0≤k)(h1:k≤576460752303423488)(h2:l.length≤288230376151711744):Spec Tryz.prog TB 50 [(0,.cells 126 3 (l.map AA))] 1 [.o (.arr 0 3 0 l.length),eI .i64 k] (fun x σ nx=>x=eI .i64 (k+3*l.length)∧nx=1∧σ=[(0,.cells 126 3 ((kv k l.length).map AA))]):=by
 refine eR Tryz.func50 rfl (by kernel_rfl) rfl ?_;intro Γ hΓ
 (repeat first |refine sN rfl ?_ |((first|refine sA rfl ?_ ?_|refine s4 rfl ‹_› rfl ?_ ?_);first|exact tI|omega|simp only[oZ] at *;omega) |refine s2 rfl fun _ _hb=>?_ |refine s3 rfl ?_ ?_<;>rintro rfl |refine aU rfl ?_ |refine Aa ?_)
 refine aB ?_
 refine aL (α:={i:Nat // i≤l.length}) [0] [] rfl rfl (fun s=>[(1,eI .i64 (k+3*s.1)),(5,eI .i64 s.1)]) (fun s=>[(0,.cells 126 3 ((FP (fun j:Nat=>(⟨k+3*j,k+3*j+1,k+3*j+2⟩:ET)) l s.1).map AA))]) 1 (fun s=>l.length - s.1) (⟨0,by omega⟩) hΓ rfl (by ((repeat' first|exact tI|rfl|refine And.intro ?_ ?_)<;>(simp[cX,zC,hΓ,cN,SG]<;>rfl))) ?_;rintro⟨i,hi⟩;(try dsimp only[cA,cB])
 by_cases hlt:i < l.length
 ·obtain⟨x,hx⟩:=get_some hlt
  have hm:=K9 (f:=fun j:Nat=>(⟨k+3*j,k+3*j+1,k+3*j+2⟩:ET)) hx
  have hs:=La (f:=fun j:Nat=>(⟨k+3*j,k+3*j+1,k+3*j+2⟩:ET)) hx
  have hml:=UG (f:=fun j:Nat=>(⟨k+3*j,k+3*j+1,k+3*j+2⟩:ET)) (l:=l) (i:=i) hi
  generalize hM:FP (fun j:Nat=>(⟨k+3*j,k+3*j+1,k+3*j+2⟩:ET)) l i=M at *
  have hg:(M.map AA)[0+((i:Nat):Int).toNat]? = some (AA x):=by rw [Nat.zero_add,Int.toNat_natCast,List.getElem?_map,hm];rfl
  have hu:∀y:ET,(M.map AA).set (0+((i:Nat):Int).toNat) (AA y)=(M.set i y).map AA:=fun y=>by rw [Nat.zero_add,Int.toNat_natCast,List.map_set]
  have hu2:∀y z:ET,((M.set i y).map AA).set (0+((i:Nat):Int).toNat) (AA z)=(M.set i z).map AA:=fun y z=>by rw [Nat.zero_add,Int.toNat_natCast,←List.map_set,List.set_set]
  have hg2:∀y:ET,((M.set i y).map AA)[0+((i:Nat):Int).toNat]? = some (AA y):=fun y=>by rw [Nat.zero_add,Int.toNat_natCast,List.getElem?_map,List.getElem?_set];simp;omega
  have hga:=hg2 ⟨k+3*i,x.l,x.t⟩
  have hgb:=hg2 ⟨k+3*i,k+3*i+1,x.t⟩
  (repeat first |refine sN rfl ?_ |((first|refine sA rfl ?_ ?_|refine s4 rfl ‹_› rfl ?_ ?_);first|exact tI|omega|simp only[oZ] at *;omega) |refine s2 rfl fun _ _hb=>?_ |refine s3 rfl ?_ ?_<;>rintro rfl |refine aU rfl ?_ |refine Aa ?_)
  ((refine aC rfl ?_ ?_<;>rintro⟨⟩);all_goals try(exfalso;first|omega|simp only[oZ] at *;omega))
  refine aK ?_
  refine aS (aB ?_)
  have q1:Af (AA x) 0 (eC (eI .i64 (k+3*i)))=AA ⟨k+3*i,x.l,x.t⟩:=rfl
  have q2:Af (AA ⟨k+3*i,x.l,x.t⟩) 1 (eC (eI .i64 (k+3*i+1)))=AA ⟨k+3*i,k+3*i+1,x.t⟩:=rfl
  have q3:Af (AA ⟨k+3*i,k+3*i+1,x.t⟩) 2 (eC (eI .i64 (k+3*i+1+1)))=AA ⟨k+3*i,k+3*i+1,k+3*i+1+1⟩:=rfl
  (repeat first |refine sN rfl ?_ |((first|refine sA rfl ?_ ?_|refine s4 rfl ‹_› rfl ?_ ?_);first|exact tI|omega|simp only[oZ] at *;omega) |refine s2 rfl fun _ _hb=>?_ |refine s3 rfl ?_ ?_<;>rintro rfl |refine aU rfl ?_ |refine Aa ?_)
  rw [q1,hu]
  (repeat first |refine sN rfl ?_ |((first|refine sA rfl ?_ ?_|refine s4 rfl ‹_› rfl ?_ ?_);first|exact tI|omega|simp only[oZ] at *;omega) |refine s2 rfl fun _ _hb=>?_ |refine s3 rfl ?_ ?_<;>rintro rfl |refine aU rfl ?_ |refine Aa ?_)
  rw [q2,hu2]
  (repeat first |refine sN rfl ?_ |((first|refine sA rfl ?_ ?_|refine s4 rfl ‹_› rfl ?_ ?_);first|exact tI|omega|simp only[oZ] at *;omega) |refine s2 rfl fun _ _hb=>?_ |refine s3 rfl ?_ ?_<;>rintro rfl |refine aU rfl ?_ |refine Aa ?_)
  rw [q3,hu2]
  have e4:k+3*(i:Int)+1+1=k+3*i+2:=by omega
  have e5:k+3*(((i+1:Nat)):Int)=k+3*i+1+1+1:=by omega
  rw [e4,hs]
  refine⟨⟨i+1,by first|omega|simp only[oZ] at *;omega⟩,by dsimp only;(first|omega|simp only[oZ] at *;omega),[0],?_⟩
  simp[cX,zC,hΓ,cN,e5]
  omega
 ·obtain rfl:i=l.length:=by omega
  rw [K8]
  (repeat first |refine sN rfl ?_ |((first|refine sA rfl ?_ ?_|refine s4 rfl ‹_› rfl ?_ ?_);first|exact tI|omega|simp only[oZ] at *;omega) |refine s2 rfl fun _ _hb=>?_ |refine s3 rfl ?_ ?_<;>rintro rfl |refine aU rfl ?_ |refine Aa ?_)
  ((refine aC rfl ?_ ?_<;>rintro⟨⟩);all_goals try(exfalso;first|omega|simp only[oZ] at *;omega))
  refine aE ?_
  (repeat first |refine sN rfl ?_ |((first|refine sA rfl ?_ ?_|refine s4 rfl ‹_› rfl ?_ ?_);first|exact tI|omega|simp only[oZ] at *;omega) |refine s2 rfl fun _ _hb=>?_ |refine s3 rfl ?_ ?_<;>rintro rfl |refine aU rfl ?_ |refine Aa ?_)
  exact aR ⟨_,rfl,[0],eI .i64 (k+3*l.length),[(0,.cells 126 3 ((kv k l.length).map AA))],⟨by intro i hi;match i with|0=>rfl,by decide⟩,rfl,by ((repeat' first|exact tI|rfl|refine And.intro ?_ ?_)<;>(simp[cX,zC,hΓ,cN,kv]<;>rfl)),rfl,rfl,rfl⟩
end Go.Am
namespace Go.Am
open Go Go.Proofs
set_option linter.unusedVariables false
theorem Gz{σ:Ab}{T U S:TypeId}{i j k n m:Nat}{al:Int}{l:Ga}{nx:List (List Int)}{ac:List Bool}(h0:look σ i=some (.cells T 1 (A6 l)))(h1:look σ j=some (.cells U 1 (ac.map Ax)))(h2:look σ k=some (.sld S (sI l)))(hl:l.map (·.2)=nx)(hn:l.length=n)(hm:ac.length=m):EZ σ (.a [.d (iD al),.arr i 1 0 n,.arr j 1 0 m]) (.a [.d (iD al),.d (CR nx),.d (E4 ac)]):=by
 subst hn hm hl
 exact .a (ds:=[iD al,CR (l.map (·.2)),E4 ac]) (.cons .d (.cons (.kE h0 h2) (.cons (.full h1 (by simp [Function.comp_def]) (List.length_map _)) .nil)))
theorem Vw{M:Nat}:∀ {nx:List (List Int)},(∀r∈nx,r.length≤M)→(nx.map List.length).sum≤nx.length*M
 | [],_=>by simp
 | r::nx,h=>by
  have h1:=h r (by simp)
  have h2:=Vw (nx:=nx) fun x hx=>h x (by simp [hx])
  simp only [List.map_cons,List.sum_cons,List.length_cons,Nat.add_mul]
  omega
theorem Sy{l:Ga}{nx:List (List Int)}(hl:l.map (·.2)=nx)(h:nx.length≤1048576)(hr:∀r∈nx,r.length≤1048576):l.length≤1048576∧(BD l).sum≤1099511627776:=by
 have h1:=Vw hr
 have e:BD l=nx.map List.length:=by rw [←hl,List.map_map];rfl
 have e2:l.length=nx.length:=by rw [←hl,List.length_map]
 rw [e]
 have:nx.length*1048576≤1048576*1048576:=Nat.mul_le_mul_right _ h
 omega
theorem Ng(b:Bool):E.Il (eB b):=rfl
theorem gL(k:IntKind)(n:Int):E.Il (eI k n):=rfl
end Go.Am
namespace Go.Am
open Go Go.Proofs
set_option maxHeartbeats 1000000
attribute [local irreducible] AS BT Lex Bc Au Spec
variable {TB:Bt}
theorem Fq(s:Sys)(k:Int)(h0:0≤k)(h1:k≤576460752303423488)(h2:s.es.length≤288230376151711744):Spec Tryz.prog TB 20 [(0,.cells 126 3 (s.es.map AA))] 1 [.a (OJ s 0),eI .i64 k] (fun x σ nx=>x=eI .i64 (k+3*s.es.length)∧nx=1∧σ=[(0,.cells 126 3 ((kv k s.es.length).map AA))]):=by
 have c1:=SE (TB:=TB) s.es k h0 h1 h2
 refine eR Tryz.func20 rfl (by kernel_rfl) rfl ?_;intro Γ hΓ
 (repeat first |refine sN rfl ?_ |((first|refine sM rfl ?_ ?_|refine s4 rfl ‹_› rfl ?_ ?_);first|exact tI|omega|simp only[oZ] at *;omega) |refine s2 rfl fun _ _hb=>?_ |refine s3 rfl ?_ ?_<;>rintro rfl |refine aU rfl ?_ |refine Aa ?_ |refine rE (by kernel_rfl) ?_)
 (refine pW rfl ?_ rfl (by rfl);refine Da rfl rfl ?_)
 (repeat first |refine sN rfl ?_ |((first|refine sA rfl ?_ ?_|refine s4 rfl ‹_› rfl ?_ ?_);first|exact tI|omega|simp only[oZ] at *;omega) |refine s2 rfl fun _ _hb=>?_ |refine s3 rfl ?_ ?_<;>rintro rfl |refine aU rfl ?_ |refine Aa ?_)
 (refine pW rfl ?_ rfl (by rfl);refine Bx [0] rfl rfl (c1) ⟨rfl,by decide,by decide⟩ rfl (by simp[cX,zC,hΓ,cN]) ?_;rintro x0 σ1 nx1 ⟨rfl,rfl,rfl⟩ _)
 (repeat first |refine sN rfl ?_ |((first|refine sA rfl ?_ ?_|refine s4 rfl ‹_› rfl ?_ ?_);first|exact tI|omega|simp only[oZ] at *;omega) |refine s2 rfl fun _ _hb=>?_ |refine s3 rfl ?_ ?_<;>rintro rfl |refine aU rfl ?_ |refine Aa ?_)
 exact aR ⟨_,rfl,[0],eI .i64 (k+3*s.es.length),[(0,.cells 126 3 ((kv k s.es.length).map AA))],⟨by intro i hi;match i with|0=>rfl,by decide⟩,rfl,by ((repeat' first|exact tI|rfl|refine And.intro ?_ ?_)<;>(simp[cX,zC,hΓ,cN]<;>rfl)),rfl,rfl,rfl⟩
theorem Qe{c:C}{L:W→Bool}{ok:W→Prop}(hc:JL Tryz.prog TB c L ok)(al:Int)(t:AW)(hf:IN ok (AZ al) t)(ht:GY al 20012 t)(ho:A8 L (AZ al) t=none) :
 AD Tryz.prog TB 61 0 [] 0 [IX al c,DW t] (IP (AT L al t)):=by
 have hr:=EO c hc.Cp
 have hrl:=ht.rl
 have hcl:=ht.cl
 have hla:(Ac al).length≤6:=AV al 6
 have hask:=ht.ib hf (by omega)
 have hnl:(AT L al t).nx.length=t.rows.length:=by simp [AT]
 have hal:(AT L al t).ac.length=t.rows.length:=by simp [AT]
 refine AD.A3 (AD.P6 (m:=0) (Nat.le_of_ble_eq_true rfl) Tryz.func61 rfl (by kernel_rfl) (Nat.le_of_ble_eq_true rfl) ?_);intro Γ hΓ
 (repeat first |refine sN rfl ?_ |((first|refine sM rfl ?_ ?_|refine s4 rfl ‹_› rfl ?_ ?_);first|exact tI|omega|simp only[oZ] at *;omega) |refine s2 rfl fun _ _hb=>?_ |refine s3 rfl ?_ ?_<;>rintro rfl |refine aU rfl ?_ |refine Aa ?_ |refine rE (by kernel_rfl) ?_)
 (refine pW rfl ?_ rfl (by rfl);refine Da rfl rfl ?_)
 (refine Ai rfl ?_;refine Bs (fun _ _=>C0 rfl rfl rfl) rfl ?_)
 (repeat first |refine sN rfl ?_ |((first|refine sA rfl ?_ ?_|refine s4 rfl ‹_› rfl ?_ ?_);first|exact tI|omega|simp only[oZ] at *;omega) |refine s2 rfl fun _ _hb=>?_ |refine s3 rfl ?_ ?_<;>rintro rfl |refine aU rfl ?_ |refine Aa ?_)
 (refine pW rfl ?_ rfl (by rfl);refine Bx [] rfl rfl (Hu hc al t hask.1) ⟨rfl,by simp,by simp⟩ (by simp [EM,E.A3,C.BB,C.A3,hr,eC]) trivial ?_;rintro x0 σ1 nx1 ⟨rfl,rfl,rfl⟩ _)
 (repeat first |refine sN rfl ?_ |((first|refine sA rfl ?_ ?_|refine s4 rfl ‹_› rfl ?_ ?_);first|exact tI|omega|simp only[oZ] at *;omega) |refine s2 rfl fun _ _hb=>?_ |refine s3 rfl ?_ ?_<;>rintro rfl |refine aU rfl ?_ |refine Aa ?_)
 (refine pW rfl ?_ rfl (by rfl);refine Mw 1 1 62 2 1 4 rfl rfl (by decide) rfl rfl (by rfl) (by rfl) ?_)
 (repeat first |refine sN rfl ?_ |((first|refine sA rfl ?_ ?_|refine s4 rfl ‹_› rfl ?_ ?_);first|exact tI|omega|simp only[oZ] at *;omega) |refine s2 rfl fun _ _hb=>?_ |refine s3 rfl ?_ ?_<;>rintro rfl |refine aU rfl ?_ |refine Aa ?_)
 refine aB ?_
 refine Au.dT 3 ?_
 refine aL (α:={s:Nat×Ga // s.1≤t.rows.length∧s.2.map (·.2)=(AT L al t).nx.take s.1}) [2,3,4,5,6,19,20] [0,1,2] rfl rfl (fun s=>[(21,eI .i64 s.1.1)]) (fun s=>[(5,.cells 29 3 [[.d (iD al),.arr 3 1 0 s.1.2.length,.arr 4 1 0 s.1.1]]),(3,.cells 62 1 (A6 s.1.2)),(4,.cells 4 1 (((AT L al t).ac.take s.1.1).map Ax)),(6,.sld 3 (sI s.1.2))]) 7 (fun s=>t.rows.length - s.1.1) (⟨⟨0,[]⟩,by simp,by simp⟩) hΓ rfl (by ((repeat' first|exact tI|rfl|refine And.intro ?_ ?_)<;>(simp[cX,zC,hΓ,cN,hr,eC,Bi,Af]<;>rfl))) ?_;rintro⟨⟨k,l⟩,hkl,hl⟩;(try dsimp only[cA,cB])
 have hkl:k≤t.rows.length:=hkl
 have hl:l.map (·.2)=(AT L al t).nx.take k:=hl
 have hll:l.length=k:=by have:=congrArg List.length hl;simp at this;omega
 by_cases hlt:k < t.rows.length
 ·obtain⟨r,hx⟩:=get_some (l:=t.rows) (k:=k) hlt
  have hx':=get_map (g:=Ed) hx
  have hxm:=List.mem_of_getElem? hx
  (repeat first |refine sN rfl ?_ |((first|refine sA rfl ?_ ?_|refine s4 rfl ‹_› rfl ?_ ?_);first|exact tI|omega|simp only[oZ] at *;omega) |refine s2 rfl fun _ _hb=>?_ |refine s3 rfl ?_ ?_<;>rintro rfl |refine aU rfl ?_ |refine Aa ?_)
  ((refine aC rfl ?_ ?_<;>rintro⟨⟩);all_goals try(exfalso;first|omega|simp only[oZ] at *;omega))
  refine aK ?_
  refine aS (aB ?_)
  (repeat first |refine sN rfl ?_ |((first|refine sM rfl ?_ ?_|refine s4 rfl ‹_› rfl ?_ ?_);first|exact tI|omega|simp only[oZ] at *;omega) |refine s2 rfl fun _ _hb=>?_ |refine s3 rfl ?_ ?_<;>rintro rfl |refine aU rfl ?_ |refine Aa ?_ |refine rE (by kernel_rfl) ?_)
  (refine pW rfl ?_ rfl (by rfl);refine Hk 1 3 ?_)
  (repeat first |refine sN rfl ?_ |((first|refine sM rfl ?_ ?_|refine s4 rfl ‹_› rfl ?_ ?_);first|exact tI|omega|simp only[oZ] at *;omega) |refine s2 rfl fun _ _hb=>?_ |refine sP rfl (CN al) rfl ?_ |refine s3 rfl ?_ ?_<;>rintro rfl |refine aU rfl ?_ |refine Aa ?_ |refine rE (by kernel_rfl) ?_)
  refine aB ?_
  refine aL (α:={j:Nat // j≤(Ac al).length}) [2,3,4,5,6,8,19,20,21,27,28] [0,1,2,3,4,5,6] rfl rfl (fun s=>[(9,.o (.arr 7 1 0 s.1)),(29,eI .i64 s.1)]) (fun s=>[(7,.cells 3 1 (((Ac al).take s.1).map fun l=>[.d (iD ((CX L t (r++[lb l]):Nat):Int))]))]) 8 (fun s=>(Ac al).length - s.1) (⟨0,by omega⟩) hΓ rfl (by ((repeat' first|exact tI|rfl|refine And.intro ?_ ?_)<;>(simp[cX,zC,hΓ,cN,hr,eC]<;>rfl))) ?_;rintro⟨j,hjl⟩;(try dsimp only[cA,cB])
  have hjl:j≤(Ac al).length:=hjl
  by_cases hjlt:j < (Ac al).length
  ·obtain⟨m,hm⟩:=get_some hjlt
   have hm':=get_map (g:=Bm) hm
   have hlm:=List.mem_of_getElem? hm
   have hlb:=Ak hlm
   have hrb:=ht.onR r hxm
   have hmk:=K5 (TB:=TB) hc al t (r++[lb m]) (by omega) (fun x hx=>hask.2 r hxm _ (List.mem_map.2 ⟨m,hlm,rfl⟩) x hx) (fun y hy=>by have:=(ht.onC y hy).2;simp;omega)
   have hlk:=UB ho hxm hlm
   (repeat first |refine sN rfl ?_ |((first|refine sA rfl ?_ ?_|refine s4 rfl ‹_› rfl ?_ ?_);first|exact tI|omega|simp only[oZ] at *;omega) |refine s2 rfl fun _ _hb=>?_ |refine s3 rfl ?_ ?_<;>rintro rfl |refine aU rfl ?_ |refine Aa ?_)
   ((refine aC rfl ?_ ?_<;>rintro⟨⟩);all_goals try(exfalso;first|omega|simp only[oZ] at *;omega))
   refine aK ?_
   refine aS (aB ?_)
   (repeat first |refine sN rfl ?_ |((first|refine sA rfl ?_ ?_|refine s4 rfl ‹_› rfl ?_ ?_);first|exact tI|omega|simp only[oZ] at *;omega) |refine s2 rfl fun _ _hb=>?_ |refine s3 rfl ?_ ?_<;>rintro rfl |refine aU rfl ?_ |refine Aa ?_)
   refine rG (IZ [13]) (by kernel_rfl) ?_
   (repeat first |refine sN rfl ?_ |((first|refine sA rfl ?_ ?_|refine s4 rfl ‹_› rfl ?_ ?_);first|exact tI|omega|simp only[oZ] at *;omega) |refine s2 rfl fun _ _hb=>?_ |refine sP rfl (Fp m hlb.1 (by omega)) rfl ?_|(refine Ai rfl ?_;refine gA rfl ?_;first|refine gS (fun _ _=>WY rfl (by omega) (by omega)) ?_) |refine s3 rfl ?_ ?_<;>rintro rfl |refine aU rfl ?_ |refine Aa ?_)
   rw [cu hlb.1]
   (repeat first |refine sN rfl ?_ |((first|refine sM rfl ?_ ?_|refine s4 rfl ‹_› rfl ?_ ?_);first|exact tI|omega|simp only[oZ] at *;omega) |refine s2 rfl fun _ _hb=>?_|(refine Ai rfl ?_;refine gA rfl ?_;first|refine gS (fun _ _=>AO rfl rfl (by simp [E.Cp,C.Dr,C.Cp,hc.Cp,eC]) hmk rfl) ?_|refine gQ (YO rfl rfl rfl) (by rfl) ?_) |refine s3 rfl ?_ ?_<;>rintro rfl |refine aU rfl ?_ |refine Aa ?_ |refine rE (by kernel_rfl) ?_)
   (repeat first |refine sN rfl ?_ |((first|refine sA rfl ?_ ?_|refine s4 rfl ‹_› rfl ?_ ?_);first|exact tI|omega|simp only[oZ] at *;omega) |refine s2 rfl fun _ _hb=>?_ |refine s3 rfl ?_ ?_<;>rintro rfl |refine aU rfl ?_ |refine Aa ?_)
   (refine pW rfl ?_ rfl (by rfl);refine AH rfl rfl rfl (by first|(simp;done)|(simp;(first|omega|simp only[oZ] at *;omega))) rfl (by intro r hr;simp at hr;subst hr;rfl) (by rfl) (Nat.le_of_ble_eq_true rfl) (by simp;omega) ?_)
   (repeat first |refine sN rfl ?_ |((first|refine sA rfl ?_ ?_|refine s4 rfl ‹_› rfl ?_ ?_);first|exact tI|omega|simp only[oZ] at *;omega) |refine s2 rfl fun _ _hb=>?_ |refine s3 rfl ?_ ?_<;>rintro rfl |refine aU rfl ?_ |refine Aa ?_)
   rw [hlk]
   refine⟨⟨j+1,by first|omega|simp only[oZ] at *;omega⟩,by dsimp only;(first|omega|simp only[oZ] at *;omega),[0,1,2,3,4,5,6,8],?_⟩
   simp[cX,zC,hΓ,cN,hr,List.take_add_one,hm]
  ·obtain rfl:j=(Ac al).length:=by omega
   have hok:=hf r ⟨r,hxm,[],.inl rfl,[],.inl rfl,by simp⟩
   have hnx:(AT L al t).nx.take (k+1)=(AT L al t).nx.take k++[(Ac al).map fun l=>((CX L t (r++[lb l]):Nat):Int)]:=by
    rw [List.take_add_one];simp [AT,hx]
   have hac:(AT L al t).ac.take (k+1)=(AT L al t).ac.take k++[L r]:=by
    rw [List.take_add_one];simp [AT,hx]
   rw [List.take_length]
   generalize hrow:(Ac al).map (fun l=>((CX L t (r++[lb l]):Nat):Int))=row at *
   have hrl2:(Ac al).length=row.length:=by rw [←hrow];simp
   have hmp:(Ac al).map (fun l=>[C.d (iD ((CX L t (r++[lb l]):Nat):Int))])=row.map Al:=by rw [←hrow,List.map_map];rfl
   (repeat first |refine sN rfl ?_ |((first|refine sA rfl ?_ ?_|refine s4 rfl ‹_› rfl ?_ ?_);first|exact tI|omega|simp only[oZ] at *;omega) |refine s2 rfl fun _ _hb=>?_ |refine s3 rfl ?_ ?_<;>rintro rfl |refine aU rfl ?_ |refine Aa ?_)
   ((refine aC rfl ?_ ?_<;>rintro⟨⟩);all_goals try(exfalso;first|omega|simp only[oZ] at *;omega))
   refine aE ?_
   (repeat first |refine sN rfl ?_ |((first|refine sX rfl ?_ ?_|refine s4 rfl ‹_› rfl ?_ ?_);first|exact tI|omega|simp only[oZ] at *;omega) |refine s2 rfl fun _ _hb=>?_ |refine s3 rfl ?_ ?_<;>rintro rfl |refine aU rfl ?_ |refine Aa ?_)
   (refine pW rfl ?_ rfl (by rfl);refine BP rfl rfl rfl rfl (by simp [eC]) (by rfl) (by rfl) (by rfl) (by rfl) ?_)
   (repeat first |refine sN rfl ?_ |((first|refine sX rfl ?_ ?_|refine s4 rfl ‹_› rfl ?_ ?_);first|exact tI|omega|simp only[oZ] at *;omega) |refine s2 rfl fun _ _hb=>?_ |refine s3 rfl ?_ ?_<;>rintro rfl |refine aU rfl ?_ |refine Aa ?_)
   (refine pW rfl ?_ rfl (by rfl);refine AH rfl rfl rfl (Ec _) rfl (by intro r hr;simp at hr;subst hr;rfl) (by rfl) (Nat.le_of_ble_eq_true rfl) (by simp;omega) ?_)
   (repeat first |refine sN rfl ?_ |((first|refine sX rfl ?_ ?_|refine s4 rfl ‹_› rfl ?_ ?_);first|exact tI|omega|simp only[oZ] at *;omega) |refine s2 rfl fun _ _hb=>?_ |refine s3 rfl ?_ ?_<;>rintro rfl |refine aU rfl ?_ |refine Aa ?_)
   refine Au.BR [2,3,4,5,6,8,19,20,21] [0,1,2,4] rfl rfl [] [(3,.cells 62 1 (A6 l++[[.arr 7 1 0 row.length]])),(5,.cells 29 3 [[.d (iD al),.arr 3 1 0 (l.length+1),.arr 4 1 0 k]]),(6,.sld 3 (sI l)),(7,.cells 3 1 (row.map Al))] [0,1,2,9,4,5,6,7] (rl hΓ rfl) (by ((repeat' first|exact tI|rfl|refine And.intro ?_ ?_)<;>(simp[cX,zC,hΓ,cN,hr,Bi,Af,eC,hrl2,hmp]<;>rfl))) ?_;(try dsimp only[cA,cB])
   refine Au.WW 3 7 6 l row rfl rfl rfl fun v=>?_
   (repeat first |refine sN rfl ?_ |((first|refine sA rfl ?_ ?_|refine s4 rfl ‹_› rfl ?_ ?_);first|exact tI|omega|simp only[oZ] at *;omega) |refine s2 rfl fun _ _hb=>?_ |refine s3 rfl ?_ ?_<;>rintro rfl |refine aU rfl ?_ |refine Aa ?_)
   refine rG (IZ [7,9]) (by kernel_rfl) ?_
   (repeat first |refine sN rfl ?_ |((first|refine sA rfl ?_ ?_|refine s4 rfl ‹_› rfl ?_ ?_);first|exact tI|omega|simp only[oZ] at *;omega) |refine s2 rfl fun _ _hb=>?_|(refine Ai rfl ?_;refine gA rfl ?_;first|refine gS (fun _ _=>hc.ask rfl rfl hok) ?_) |refine s3 rfl ?_ ?_<;>rintro rfl |refine aU rfl ?_ |refine Aa ?_)
   (refine pW rfl ?_ rfl (by rfl);refine AH rfl rfl rfl (by first|(simp;done)|(simp;(first|omega|simp only[oZ] at *;omega))) rfl (by intro r hr;simp at hr;subst hr;rfl) (by rfl) (Nat.le_of_ble_eq_true rfl) (by simp;omega) ?_)
   (repeat first |refine sN rfl ?_ |((first|refine sA rfl ?_ ?_|refine s4 rfl ‹_› rfl ?_ ?_);first|exact tI|omega|simp only[oZ] at *;omega) |refine s2 rfl fun _ _hb=>?_ |refine s3 rfl ?_ ?_<;>rintro rfl |refine aU rfl ?_ |refine Aa ?_)
   refine⟨⟨⟨k+1,l++[(v,row)]⟩,by dsimp only;omega,by dsimp only;rw [List.map_append,hl,hnx];rfl⟩,by dsimp only;(first|omega|simp only[oZ] at *;omega),[0,1,2,3,8,5,6],?_⟩
   simp[cX,zC,hΓ,cN,hr,eC,Bi,Af,hac]
 ·have hkn:k=t.rows.length:=by omega
  (repeat first |refine sN rfl ?_ |((first|refine sA rfl ?_ ?_|refine s4 rfl ‹_› rfl ?_ ?_);first|exact tI|omega|simp only[oZ] at *;omega) |refine s2 rfl fun _ _hb=>?_ |refine s3 rfl ?_ ?_<;>rintro rfl |refine aU rfl ?_ |refine Aa ?_)
  ((refine aC rfl ?_ ?_<;>rintro⟨⟩);all_goals try(exfalso;first|omega|simp only[oZ] at *;omega))
  refine aE ?_
  (repeat first |refine sN rfl ?_ |((first|refine sA rfl ?_ ?_|refine s4 rfl ‹_› rfl ?_ ?_);first|exact tI|omega|simp only[oZ] at *;omega) |refine s2 rfl fun _ _hb=>?_ |refine s3 rfl ?_ ?_<;>rintro rfl |refine aU rfl ?_ |refine Aa ?_)
  have hlx:l.map (·.2)=(AT L al t).nx:=by rw [hl,hkn,←hnl,List.take_length]
  have hll2:l.length=t.rows.length:=by omega
  have hac:(AT L al t).ac.take k=(AT L al t).ac:=List.take_of_length_le (by rw [hal];omega)
  rw [hac]
  obtain rfl:k=(AT L al t).ac.length:=by omega
  refine aR ⟨_,rfl,[3,4,6],Wu al 0 1 l.length (AT L al t).ac.length,[(0,.cells 62 1 (A6 l)),(1,.cells 4 1 ((AT L al t).ac.map Ax)),(2,.sld 3 (sI l))],⟨by intro i hi;omega,by decide⟩,rfl,by ((repeat' first|exact tI|rfl|refine And.intro ?_ ?_)<;>(simp[cX,zC,hΓ,cN]<;>rfl)),l,hlx,rfl,rfl,rfl⟩
def RS(o:Option AU)(x:E)(σ:Ab)(nx:Nat):Prop:=
 match o with
 | none=>x=MZ none∧σ=[]∧nx=0
 | some a=>∃l:Ga,l.map (·.2)=a.nx∧x=.t [(true,[.d (iD a.al),.arr 0 1 0 l.length,.arr 1 1 0 a.ac.length]),(false,[.d (bD true)])]∧σ=[(0,.cells 62 1 (A6 l)),(1,.cells 4 1 (a.ac.map Ax)),(2,.sld 3 (sI l))]∧nx=3
section
variable {tabs:List (Nat×Obj)}[hTb:Df ⟨tabs,none⟩]{te:Ew}
include hTb
end
theorem Qr(k:Int):Pure Tryz.prog TB 51 [Cm [],eI .i64 k] (eI .i64 k):=by
 refine eG Tryz.func51 rfl (by kernel_rfl) rfl ?_;intro Γ hΓ
 (repeat first |refine sN rfl ?_ |((first|refine sA rfl ?_ ?_|refine s4 rfl ‹_› rfl ?_ ?_);first|exact tI|omega|simp only[oZ] at *;omega) |refine s2 rfl fun _ _hb=>?_ |refine s3 rfl ?_ ?_<;>rintro rfl |refine aU rfl ?_ |refine Aa ?_)
 refine aB ?_
 refine aL (α:={i:Nat // i=0}) [0,1] [] rfl rfl (fun s=>[(5,eI .i64 s.1)]) (fun s=>[]) 0 (fun s=>0) (⟨0,rfl⟩) hΓ rfl (by ((repeat' first|exact tI|rfl|refine And.intro ?_ ?_)<;>(simp[cX,zC,hΓ]<;>rfl))) ?_;rintro⟨i,hi⟩;(try dsimp only[cA,cB])
 subst hi
 (repeat first |refine sN rfl ?_ |((first|refine sA rfl ?_ ?_|refine s4 rfl ‹_› rfl ?_ ?_);first|exact tI|omega|simp only[oZ] at *;omega) |refine s2 rfl fun _ _hb=>?_ |refine s3 rfl ?_ ?_<;>rintro rfl |refine aU rfl ?_ |refine Aa ?_)
 ((refine aC rfl ?_ ?_<;>rintro⟨⟩);all_goals try(exfalso;first|omega|simp only[oZ] at *;omega))
 refine aE ?_
 (repeat first |refine sN rfl ?_ |((first|refine sA rfl ?_ ?_|refine s4 rfl ‹_› rfl ?_ ?_);first|exact tI|omega|simp only[oZ] at *;omega) |refine s2 rfl fun _ _hb=>?_ |refine s3 rfl ?_ ?_<;>rintro rfl |refine aU rfl ?_ |refine Aa ?_)
 (subst_vars;exact aR ⟨_,rfl,rfl⟩)
theorem Qq(k:Int):Pure Tryz.prog TB 52 [EG [],eI .i64 k] (eI .i64 k):=by
 refine eG Tryz.func52 rfl (by kernel_rfl) rfl ?_;intro Γ hΓ
 (repeat first |refine sN rfl ?_ |((first|refine sA rfl ?_ ?_|refine s4 rfl ‹_› rfl ?_ ?_);first|exact tI|omega|simp only[oZ] at *;omega) |refine s2 rfl fun _ _hb=>?_ |refine s3 rfl ?_ ?_<;>rintro rfl |refine aU rfl ?_ |refine Aa ?_)
 refine aB ?_
 refine aL (α:={i:Nat // i=0}) [0,1] [] rfl rfl (fun s=>[(5,eI .i64 s.1)]) (fun s=>[]) 0 (fun s=>0) (⟨0,rfl⟩) hΓ rfl (by ((repeat' first|exact tI|rfl|refine And.intro ?_ ?_)<;>(simp[cX,zC,hΓ]<;>rfl))) ?_;rintro⟨i,hi⟩;(try dsimp only[cA,cB])
 subst hi
 (repeat first |refine sN rfl ?_ |((first|refine sA rfl ?_ ?_|refine s4 rfl ‹_› rfl ?_ ?_);first|exact tI|omega|simp only[oZ] at *;omega) |refine s2 rfl fun _ _hb=>?_ |refine s3 rfl ?_ ?_<;>rintro rfl |refine aU rfl ?_ |refine Aa ?_)
 ((refine aC rfl ?_ ?_<;>rintro⟨⟩);all_goals try(exfalso;first|omega|simp only[oZ] at *;omega))
 refine aE ?_
 (repeat first |refine sN rfl ?_ |((first|refine sA rfl ?_ ?_|refine s4 rfl ‹_› rfl ?_ ?_);first|exact tI|omega|simp only[oZ] at *;omega) |refine s2 rfl fun _ _hb=>?_ |refine s3 rfl ?_ ?_<;>rintro rfl |refine aU rfl ?_ |refine Aa ?_)
 (subst_vars;exact aR ⟨_,rfl,rfl⟩)
theorem K4:Pure Tryz.prog TB 21 [Bp TV,eI .i64 1] (eI .i64 1):=by
 have c1:=Qr (TB:=TB) 1
 have c2:=Qq (TB:=TB) 1
 refine eG Tryz.func21 rfl (by kernel_rfl) rfl ?_;intro Γ hΓ
 (repeat first |refine sN rfl ?_ |((first|refine sA rfl ?_ ?_|refine s4 rfl ‹_› rfl ?_ ?_);first|exact tI|omega|simp only[oZ] at *;omega) |refine s2 rfl fun _ _hb=>?_ |refine sP rfl (c1) rfl ?_|refine sP rfl (c2) rfl ?_ |refine s3 rfl ?_ ?_<;>rintro rfl |refine aU rfl ?_ |refine Aa ?_)
 (subst_vars;exact aR ⟨_,rfl,rfl⟩)
theorem KV:Pure Tryz.prog TB 22 [Bp TV,eI .i64 1] (eI .i64 1):=HI (TB:=TB) 0 [] 0 1 (by decide) (by decide) (by decide)
theorem ZJ(r:Nat→Nat):E.Il (E.A3 r (MZ none)):=by
 show ∀x∈[(true,[C.d (iD 0),C.d (.l []),C.d (.l [])]),(false,[C.d (bD false)])],∀c∈x.2,C.Il c=true
 simp [C.Il]
theorem cg(r:Nat→Nat)(al:Int)(n m:Nat):E.Il (E.A3 r (.t [(true,[.d (iD al),.arr 0 1 0 n,.arr 1 1 0 m]),(false,[.d (bD true)])])):=by
 show ∀x∈[(true,[C.d (iD al),C.arr (r 0) 1 0 n,C.arr (r 1) 1 0 m]),(false,[C.d (bD true)])],∀c∈x.2,C.Il c=true
 simp [C.Il]
theorem mn{T:TypeId}{r:Nat→Nat}{l:Ga}:O.Il (O.A3 r (.cells T 1 (A6 l))):=by
 show ∀x∈(A6 l).map (C.BB r),∀c∈x,C.Il c=true
 intro x hx c hc
 obtain⟨y,hy,rfl⟩:=List.mem_map.1 hx
 obtain⟨w,_,rfl⟩:=List.mem_map.1 hy
 have hc:c∈[C.d (.v w.1)]:=hc
 simp at hc;subst hc;rfl
theorem ka{T:TypeId}{r:Nat→Nat}{l:List Bool}:O.Il (O.A3 r (.cells T 1 (l.map Ax))):=by
 show ∀x∈(l.map Ax).map (C.BB r),∀c∈x,C.Il c=true
 intro x hx c hc
 obtain⟨y,hy,rfl⟩:=List.mem_map.1 hx
 obtain⟨w,_,rfl⟩:=List.mem_map.1 hy
 have hc:c∈[C.d (bD w)]:=hc
 simp at hc;subst hc;rfl
end Go.Am
namespace Go.Am
open Go
section
variable {P:Program}{TB:Bt}{Γ:Ctx}{σ:Ab}
theorem Inv.freeze{V:View}(hi:Inv TB Γ V σ)(ids:List Nat):Inv TB Γ (EW V (GO σ ids)) (BN ids σ):=by
 have hsub:∀id o,look (GO σ ids) id=some o→look σ id=some o:=fun id o h=>(Em h).2
 have e:Ext V (EW V (GO σ ids)):=KF
 refine⟨hi.os,hi.tape,hi.output,hi.old,?_,?_,hi.ext.trans e,⟨?_,?_,?_,?_⟩,?_,fun x hx=>⟨.inl (hi.tabs x hx).1,(hi.tabs x hx).2⟩,hi.hid.same rfl (fun _ h=>.inl h) (fun b hb=>hb.elim .inl fun ⟨id,o,hl,hn,he⟩=>.inr ⟨id,o,hsub _ _ hl,hn,he⟩) fun b ⟨id,o,hl,hn,hb⟩=>have h2:=(A2 ids σ id o hl).2;⟨id,o,h2,hn,(Az e (hi.st.lt id o h2)).1 hb⟩⟩
 ·rintro b (hb|⟨id,o,hl,hn,hb⟩)
  ·exact hi.iLt b hb
  ·exact(hi.st.obj id o (hsub _ _ hl)).blt hn hb
 ·rintro b (hb|⟨id,o,hl,hn,hb⟩)
  ·exact hi.iNew b hb
  ·exact .inr (hi.live id o (hsub _ _ hl) hn b hb)
 ·intro id o hl
  have:=(A2 ids σ id o hl).2
  exact(hi.st.obj id o this).AE e (hi.st.lt id o this) fun _ _ _=>rfl
 ·intro id o hl;exact hi.st.lt id o (A2 ids σ id o hl).2
 ·intro id o hl hn b hb' hb
  obtain⟨h1,h2⟩:=A2 ids σ id o hl
  have hb':=(Az e (hi.st.lt id o h2)).1 hb'
  rcases hb with hb|⟨id',o',hl',hn',he⟩
  ·exact hi.st.free id o h2 hn b hb' hb
  ·have h3:=Em hl'
   exact hi.st.inj id id' o o' h2 h3.2 (fun e=>h1 (e ▸ h3.1)) hn hn' b hb' he
 ·intro id id' o o' hl hl' hne hn hn' b hb hb'
  have h2:=(A2 ids σ id o hl).2
  have h2':=(A2 ids σ id' o' hl').2
  exact hi.st.inj id id' o o' h2 h2' hne hn hn' b ((Az e (hi.st.lt id o h2)).1 hb) ((Az e (hi.st.lt id' o' h2')).1 hb')
 ·intro id o hl hn b hb
  have h2:=(A2 ids σ id o hl).2
  exact hi.live id o h2 hn b ((Az e (hi.st.lt id o h2)).1 hb)
theorem cW{V:View}{e:E}{x:Bool×List C}{v:Value}(h:My e=some x)(ht:LY V x v):Bd V e v:=by
 cases e with
 | o c=>injection h with h;subst h;obtain⟨c',h1,h2⟩:=ht;injection h1 with h1;subst h1;exact h2
 | a cs=>injection h with h;subst h;exact ht
 | t=>cases h
 | e=>cases h
inductive FT (σ:Ab):List (Bool×List C)→List (Bool×List C)→Prop
 | nil:FT σ [] []
 | cons {e e':E} {x x':Bool×List C} {xs xs':List (Bool×List C)}:My e=some x→My e'=some x'→EZ σ e e'→FT σ xs xs'→FT σ (x::xs) (x'::xs')
theorem FT.get{xs xs':List (Bool×List C)}(h:FT σ xs xs'):xs'.length=xs.length∧∀(j:Nat) x',xs'[j]? = some x'→∃x e e',xs[j]? = some x∧My e=some x∧My e'=some x'∧EZ σ e e':=by
 induction h with
 | nil=>exact⟨rfl,fun j x h=>by simp at h⟩
 | @cons e e' x x' xs xs' h1 h2 h3 _ ih=>
  refine⟨by simp [ih.1],fun j y hj=>?_⟩
  cases j with
  | zero=>simp at hj;subst hj;exact⟨x,e,e',rfl,h1,h2,h3⟩
  | succ j=>exact ih.2 j y (by simpa using hj)
theorem FT.rel{V:View}{xs xs':List (Bool×List C)}(hi:Inv TB Γ V σ)(h:FT σ xs xs'){v:Value}(hr:Bd V (.t xs) v):Bd (EW V σ) (.t xs') v:=by
 obtain⟨vs,h1,h2,h3⟩:=hr
 obtain⟨hl,hg⟩:=h.get
 refine⟨vs,h1,by rw [h2,hl],fun j x' v' hx hv=>?_⟩
 obtain⟨x,e,e',g1,g2,g3,g4⟩:=hg j x' hx
 exact FF g3 (g4.rel hi (cW g2 (h3 j x v' g1 hv)))
theorem AD.toPure{g:FuncId}{args:List E}{post:E→Ab→Nat→Prop}{r:E}(h:AD P TB g 0 [] 0 args post)
 (hp:∀x σ nx,post x σ nx→∃ids,EZ (GO σ ids) x r∨∃xs xs',x=.t xs∧r=.t xs'∧FT (GO σ ids) xs xs'):Pure P TB g args r:=
 ⟨h.1,fun V vs S hg ha=>(h.2 V vs S hg ha).mono fun _ _ ⟨V',v,x,σ',h1,h2,h3,h4,h5⟩=>by
  obtain⟨ids,hz⟩:=hp _ _ _ h5
  have hn:Kk V 0=V:=by have:=hg.nx;unfold Kk;rw [←this]
  rw [hn] at h3
  have hi:=h3.sub fun id o h=>(Em (σ:=σ') (ids:=ids) h).2
  refine⟨EW V' (GO σ' ids),v,r,BN ids σ',h1,h2,h3.freeze ids,?_,rfl⟩
  rcases hz with hz|⟨xs,xs',rfl,rfl,hz⟩
  ·exact hz.rel hi h4
  ·exact hz.rel hi h4⟩
end
section
variable {P:Program}{TB:Bt}
theorem RS.pure{g:FuncId}{args:List E}{o:Option AU}(h:AD P TB g 0 [] 0 args (RS o)):Pure P TB g args (MZ o):=by
 refine h.toPure fun x σ nx hx=>?_
 cases o with
 | none=>
  obtain⟨rfl,rfl,rfl⟩:=hx
  exact⟨[],.inl (.AE rfl)⟩
 | some a=>
  obtain⟨al,anx,aac⟩:=a
  obtain⟨l,hl,rfl,rfl,rfl⟩:=hx
  have hl:l.map (·.2)=anx:=hl
  subst hl
  exact⟨[0,1,2],.inr ⟨_,_,rfl,rfl,.cons (e:=.a _) (e':=Bp ⟨al,l.map (·.2),aac⟩) rfl rfl (.a (.cons .d (.cons (.kE (s:=2) rfl rfl) (.cons (.full rfl (by simp [Function.comp_def]) (by simp)) .nil)))) (.cons (e:=.o _) rfl rfl (.AE rfl) .nil)⟩⟩
end
end Go.Am
namespace Go.Am
set_option linter.unusedVariables false
section
variable {α:Type}[DecidableEq α]
def Dj{α:Type}(f:α→Int→α):α→List Int→α
 | q,[]=>q
 | q,l::w=>Dj f (f q l) w
theorem Lr{α:Type}(f:α→Int→α):∀(u w:List Int) (q:α),Dj f q (u++w)=Dj f (Dj f q u) w
 | [],_,_=>rfl
 | l::u,w,q=>Lr f u w _
structure Part (f:α→Int→α) (ls:List Int) (s:α) (nd:List α) (rows:List (List Int)) (lim:Nat):Prop where
 st:nd[0]? = some s
 nodup:nd.Nodup
 len:rows.length≤nd.length
 lim:nd.length≤lim
 row:∀(i:Nat) (r:List Int),rows[i]? = some r→∃q,nd[i]? = some q∧r=ls.map (fun l=>((nd.idxOf (f q l):Nat):Int))∧∀l∈ls,f q l∈nd
 rc:∀q∈nd,∃w:List Int,(∀l∈w,l∈ls)∧Dj f s w=q
structure ng (f:α→Int→α) (ls:List Int) (s:α) (nd:List α) (rows:List (List Int)):Prop where
 st:nd[0]? = some s
 nodup:nd.Nodup
 len:rows.length=nd.length
 row:∀(i:Nat) (q:α),nd[i]? = some q→rows[i]? = some (ls.map fun l=>((nd.idxOf (f q l):Nat):Int))
 cl:∀q∈nd,∀l∈ls,f q l∈nd
 rc:∀q∈nd,∃w:List Int,(∀l∈w,l∈ls)∧Dj f s w=q
end
section
variable {α β:Type}[DecidableEq α][DecidableEq β]
end
theorem N8{α:Type}{l:List α}{k:Nat}{x d:α}(h:l[k]? = some x):l.getD k d=x:=by rw [List.getD_eq_getElem?_getD,h];rfl
def fA(a:AU)(q l:Int):Int:=Cy a q.toNat l
def VU(a:AU)(q:Int):Bool:=a.ac.getD q.toNat false
theorem RG{a:AU}:∀(w:List Int) (q:Int),(∀l∈w,l∈Ac a.al)→Dj (fA a) q w=Fh a q (Dk w)
 | [],q,_=>rfl
 | l::w,q,h=>by
  have hl:=Ak (h l (by simp))
  have e:Fh a q (Dk (l::w))=Fh a (Cy a q.toNat (((lb l).toNat:Int) - 97)) (Dk w):=rfl
  rw [e,Mt hl.1 (by omega)]
  exact RG w _ fun m hm=>h m (by simp [hm])
end Go.Am
