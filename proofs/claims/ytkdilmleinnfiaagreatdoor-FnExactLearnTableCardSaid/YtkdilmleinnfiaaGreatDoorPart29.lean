/-
  Marks written into nested arrays, tables, automata and teachers of the caller's own: walked.
-/
import Derived.Test.YtkdilmleinnfiaaGreatDoorPart28
import Derived.Test.YtkdilmleinnfiaaGreatDoorPart23
import Derived.Test.YtkdilmleinnfiaaGreatDoorPart15
import Derived.Test.YtkdilmleinnfiaaGreatDoorPart16
import Derived.Test.YtkdilmleinnfiaaGreatDoorPart22
import Derived.Test.YtkdilmleinnfiaaGreatDoorPart20
set_option linter.constructorNameAsVariable false
set_option linter.unusedSectionVars false
set_option linter.unusedSimpArgs false
set_option linter.unusedVariables false
namespace Go.Am
open Go Go.Proofs
set_option maxHeartbeats 1000000
set_option maxRecDepth 4000
attribute [local irreducible] AV BX Lex Bf Av Spec
variable {TB:Be}
abbrev gy(l:Pr):List Nat:=l.map fun x=>x.2.length
theorem iG(l:Pr)(k:Int)(h0:0≤k)(h1:k+(gy l).sum≤1152921504606846976)(h2:l.length≤1152921504606846976):Spec Tryz.prog TB 102 [(0,.cells 84 1 (CQ l)),(1,.sld 3 (sI l))] 2 [.o (.arr 0 1 0 l.length),eI .i64 k] (fun x σ nx=>∃l':Pr,l'.map (·.2)=iI k (gy l)∧x=eI .i64 (k+(gy l).sum)∧nx=2∧σ=[(0,.cells 84 1 (CQ l')),(1,.sld 3 (sI l'))]):=by
 have hnl:(gy l).length=l.length:=by simp
 refine eR Tryz.func102 rfl (by kernel_rfl) rfl ?_;intro Γ hΓ
 (repeat first |refine sN rfl ?_ |((first|refine sA rfl ?_ ?_|refine s4 rfl ‹_› rfl ?_ ?_);first|exact tI|omega|simp only[oZ] at *;omega) |refine s2 rfl fun _ _hb=>?_ |refine s3 rfl ?_ ?_<;>rintro rfl |refine aU rfl ?_ |refine Aa ?_)
 refine aB ?_
 refine aL (α:={s:Nat×Pr // s.1≤l.length∧s.2.map (·.2)=gE (fun i=>iy (k+gz (gy l) i) ((gy l).getD i 0)) (l.map (·.2)) s.1}) [0] [] rfl rfl (fun s=>[(1,eI .i64 (k+gz (gy l) s.1.1)),(5,eI .i64 s.1.1)]) (fun s=>[(0,.cells 84 1 (CQ s.1.2)),(1,.sld 3 (sI s.1.2))]) 2 (fun s=>l.length - s.1.1) (⟨⟨0,l⟩,by simp,by simp [ie]⟩) hΓ rfl (by ((repeat' first|exact tI|rfl|refine And.intro ?_ ?_)<;>(simp[cX,zC,hΓ,cN,gz]<;>rfl))) ?_;rintro⟨⟨i,u⟩,hi,hu⟩;(try dsimp only[cA,cB])
 have hi:i≤l.length:=hi
 have hu:u.map (·.2)=gE (fun i=>iy (k+gz (gy l) i) ((gy l).getD i 0)) (l.map (·.2)) i:=hu
 have hul:u.length=l.length:=by have:=congrArg List.length hu;rw [iT (by simpa using hi)] at this;simpa using this
 by_cases hlt:i < l.length
 ·obtain⟨y,hy⟩:=get_some (l:=u) (k:=i) (by omega)
  obtain⟨y0,hy0⟩:=get_some hlt
  have e0:(l.map (·.2))[i]? = some y0.2:=by rw [List.getElem?_map,hy0];rfl
  have e1:y.2=y0.2:=by
   have h3:(u.map (·.2))[i]? = some y.2:=by rw [List.getElem?_map,hy];rfl
   rw [hu,gP e0] at h3
   injection h3 with h3;exact h3.symm
  have hn:(gy l)[i]? = some y.2.length:=by rw [List.getElem?_map,hy0,e1];rfl
  have hs:=ij hn
  have hle:=ig (gy l) (i+1)
  have ek:k+((gz (gy l) (i+1):Nat):Int)=k+gz (gy l) i+y.2.length:=by rw [hs];omega
  have hc:=iR (TB:=TB) y.2 (k+gz (gy l) i) (by omega) (by omega) (by omega)
  have hrow:((CQ u).set i [.arr 2 1 0 y.2.length])[0+((i:Nat):Int).toNat]? = some [.arr 2 1 0 y.2.length]:=by
   rw [Nat.zero_add,Int.toNat_natCast,List.getElem?_set,if_pos rfl,if_pos (by rw [Mw];omega)]
  have hnew:∀v,(u.set i (v,iy (k+gz (gy l) i) y.2.length)).map (·.2)=gE (fun i=>iy (k+gz (gy l) i) ((gy l).getD i 0)) (l.map (·.2)) (i+1):=fun v=>by
   rw [List.map_set,hu]
   show (gE _ _ i).set i (iy (k+gz (gy l) i) y.2.length)=_
   have:=gR (f:=fun i=>iy (k+gz (gy l) i) ((gy l).getD i 0)) e0
   rw [jg hn] at this
   exact this
  (repeat first |refine sN rfl ?_ |((first|refine sA rfl ?_ ?_|refine s4 rfl ‹_› rfl ?_ ?_);first|exact tI|omega|simp only[oZ] at *;omega) |refine s2 rfl fun _ _hb=>?_ |refine s3 rfl ?_ ?_<;>rintro rfl |refine aU rfl ?_ |refine Aa ?_)
  ((refine aC rfl ?_ ?_<;>rintro⟨⟩);all_goals try(exfalso;first|omega|simp only[oZ] at *;omega))
  refine aK ?_
  refine Av.fv 0 1 u i y hy rfl rfl ?_
  refine aS (aB ?_)
  (repeat first |refine sN rfl ?_ |((first|refine sA rfl ?_ ?_|refine s4 rfl ‹_› rfl ?_ ?_);first|exact tI|omega|simp only[oZ] at *;omega) |refine s2 rfl fun _ _hb=>?_ |refine s3 rfl ?_ ?_<;>rintro rfl |refine aU rfl ?_ |refine Aa ?_)
  (refine pW rfl ?_ rfl (by rfl);refine Cr [2] rfl rfl (hc) ⟨rfl,by decide,by decide⟩ rfl (by simp[cX,zC,hΓ,cN]) ?_;rintro x0 σ1 nx1 ⟨rfl,rfl,rfl⟩ _)
  (repeat first |refine sN rfl ?_ |((first|refine sA rfl ?_ ?_|refine s4 rfl ‹_› rfl ?_ ?_);first|exact tI|omega|simp only[oZ] at *;omega) |refine s2 rfl fun _ _hb=>?_ |refine s3 rfl ?_ ?_<;>rintro rfl)
  refine Aa ?_
  refine Av.Cs [0,1,5] [] rfl rfl [] [(0,.cells 84 1 ((CQ u).set i [.arr 2 1 0 y.2.length])),(1,.sld 3 (sI (u.eraseIdx i))),(2,.cells 3 1 ((iy (k+gz (gy l) i) y.2.length).map AI))] [0,1,2] (rl hΓ rfl) (by ((repeat' first|exact tI|rfl|refine And.intro ?_ ?_)<;>(simp[cX,zC,hΓ,cN]<;>rfl))) ?_;(try dsimp only[cA,cB])
  refine Av.putAt 0 2 1 u i y hy (iy (k+gz (gy l) i) y.2.length) (by rw [jn];rfl) rfl rfl fun v=>?_
  (repeat first |refine sN rfl ?_ |((first|refine sA rfl ?_ ?_|refine s4 rfl ‹_› rfl ?_ ?_);first|exact tI|omega|simp only[oZ] at *;omega) |refine s2 rfl fun _ _hb=>?_ |refine s3 rfl ?_ ?_<;>rintro rfl |refine aU rfl ?_ |refine Aa ?_)
  refine⟨⟨⟨i+1,u.set i (v,iy (k+gz (gy l) i) y.2.length)⟩,by dsimp only;omega,hnew v⟩,by dsimp only;(first|omega|simp only[oZ] at *;omega),[0,1],?_⟩
  simp[cX,zC,hΓ,cN,ek]
  intro i hi;match i with|0=>rfl|1=>rfl
 ·obtain rfl:i=l.length:=by omega
  rw [←hnl,iz]
  have hend:u.map (·.2)=iI k (gy l):=by
   rw [hu]
   have:=gO (f:=fun i=>iy (k+gz (gy l) i) ((gy l).getD i 0)) (l:=l.map (·.2))
   rw [List.length_map] at this
   rw [this]
   unfold iI
   rw [hnl]
  (repeat first |refine sN rfl ?_ |((first|refine sA rfl ?_ ?_|refine s4 rfl ‹_› rfl ?_ ?_);first|exact tI|omega|simp only[oZ] at *;omega) |refine s2 rfl fun _ _hb=>?_ |refine s3 rfl ?_ ?_<;>rintro rfl |refine aU rfl ?_ |refine Aa ?_)
  ((refine aC rfl ?_ ?_<;>rintro⟨⟩);all_goals try(exfalso;first|omega|simp only[oZ] at *;omega))
  refine aE ?_
  (repeat first |refine sN rfl ?_ |((first|refine sA rfl ?_ ?_|refine s4 rfl ‹_› rfl ?_ ?_);first|exact tI|omega|simp only[oZ] at *;omega) |refine s2 rfl fun _ _hb=>?_ |refine s3 rfl ?_ ?_<;>rintro rfl |refine aU rfl ?_ |refine Aa ?_)
  exact aR ⟨_,rfl,[0,1],eI .i64 (k+(gy l).sum),[(0,.cells 84 1 (CQ u)),(1,.sld 3 (sI u))],⟨by intro i hi;match i with|0=>rfl|1=>rfl,by decide⟩,rfl,by ((repeat' first|exact tI|rfl|refine And.intro ?_ ?_)<;>(simp[cX,zC,hΓ,cN]<;>rfl)),u,hend,rfl,rfl,rfl⟩
theorem gC(al:Int)(l:Pr)(ac:List Bool)(k:Int)(h0:0≤k)(h1:k+(gy l).sum≤576460752303423488)(h2:l.length≤576460752303423488)(h3:ac.length≤576460752303423488) :
 Spec Tryz.prog TB 34 [(0,.cells 84 1 (CQ l)),(1,.cells 4 1 (ac.map BE)),(2,.sld 3 (sI l))] 3 [eP al 0 1 l.length ac.length,eI .i64 k] (fun x σ nx=>∃l':Pr,l'.map (·.2)=iI k (gy l)∧x=eI .i64 (k+(gy l).sum+ac.length)∧nx=3∧σ=[(0,.cells 84 1 (CQ l')),(1,.cells 4 1 ((ia (k+(gy l).sum) ac.length).map BE)),(2,.sld 3 (sI l'))]):=by
 have c1:=iG (TB:=TB) l k h0 (by omega) (by omega)
 have c2:=iE (TB:=TB) ac (k+(gy l).sum) (by omega) (by omega) (by omega)
 refine eR Tryz.func34 rfl (by kernel_rfl) rfl ?_;intro Γ hΓ
 (repeat first |refine sN rfl ?_ |((first|refine sM rfl ?_ ?_|refine s4 rfl ‹_› rfl ?_ ?_);first|exact tI|omega|simp only[oZ] at *;omega) |refine s2 rfl fun _ _hb=>?_ |refine s3 rfl ?_ ?_<;>rintro rfl |refine aU rfl ?_ |refine Aa ?_ |refine rE (by kernel_rfl) ?_)
 (refine pW rfl ?_ rfl (by rfl);refine CT rfl rfl ?_)
 (repeat first |refine sN rfl ?_ |((first|refine sA rfl ?_ ?_|refine s4 rfl ‹_› rfl ?_ ?_);first|exact tI|omega|simp only[oZ] at *;omega) |refine s2 rfl fun _ _hb=>?_ |refine s3 rfl ?_ ?_<;>rintro rfl |refine aU rfl ?_ |refine Aa ?_)
 (refine pW rfl ?_ rfl (by rfl);refine Cr [0,2] rfl rfl (c1) ⟨rfl,by decide,by decide⟩ rfl (by simp[cX,zC,hΓ,cN]) ?_;rintro x0 σ1 nx1 ⟨u,hu,rfl,rfl,rfl⟩ _)
 (repeat first |refine sN rfl ?_ |((first|refine sA rfl ?_ ?_|refine s4 rfl ‹_› rfl ?_ ?_);first|exact tI|omega|simp only[oZ] at *;omega) |refine s2 rfl fun _ _hb=>?_ |refine s3 rfl ?_ ?_<;>rintro rfl |refine aU rfl ?_ |refine Aa ?_)
 (refine pW rfl ?_ rfl (by rfl);refine Cr [1] rfl rfl (c2) ⟨rfl,by decide,by decide⟩ rfl (by simp[cX,zC,hΓ,cN]) ?_;rintro x0 σ1 nx1 ⟨rfl,rfl,rfl⟩ _)
 (repeat first |refine sN rfl ?_ |((first|refine sA rfl ?_ ?_|refine s4 rfl ‹_› rfl ?_ ?_);first|exact tI|omega|simp only[oZ] at *;omega) |refine s2 rfl fun _ _hb=>?_ |refine s3 rfl ?_ ?_<;>rintro rfl |refine aU rfl ?_ |refine Aa ?_)
 exact aR ⟨_,rfl,[0,1,2],eI .i64 (k+(gy l).sum+ac.length),[(0,.cells 84 1 (CQ u)),(1,.cells 4 1 ((ia (k+(gy l).sum) ac.length).map BE)),(2,.sld 3 (sI u))],⟨by intro i hi;match i with|0=>rfl|1=>rfl|2=>rfl,by decide⟩,rfl,by ((repeat' first|exact tI|rfl|refine And.intro ?_ ?_)<;>(simp[cX,zC,hΓ,cN]<;>rfl)),u,hu,rfl,rfl,rfl⟩
theorem iH(r c:List W)(k:Int)(h0:0≤k)(h1:k≤576460752303423488)(h2:r.length≤576460752303423488)(h3:c.length≤576460752303423488) :
 Spec Tryz.prog TB 25 [(0,.cells 9 1 (r.map Bg)),(1,.cells 9 1 (c.map Bg))] 2 [.a [.arr 0 1 0 r.length,.arr 1 1 0 c.length],eI .i64 k] (fun x σ nx=>x=eI .i64 (k+r.length+c.length)∧nx=2∧σ=[(0,.cells 9 1 ((iJ k r.length).map Bg)),(1,.cells 9 1 ((iJ (k+r.length) c.length).map Bg))]):=by
 have c1:=gM (TB:=TB) r k h0 (by omega) (by omega)
 have c2:=gM (TB:=TB) c (k+r.length) (by omega) (by omega) (by omega)
 refine eR Tryz.func25 rfl (by kernel_rfl) rfl ?_;intro Γ hΓ
 (repeat first |refine sN rfl ?_ |((first|refine sM rfl ?_ ?_|refine s4 rfl ‹_› rfl ?_ ?_);first|exact tI|omega|simp only[oZ] at *;omega) |refine s2 rfl fun _ _hb=>?_ |refine s3 rfl ?_ ?_<;>rintro rfl |refine aU rfl ?_ |refine Aa ?_ |refine rE (by kernel_rfl) ?_)
 (refine pW rfl ?_ rfl (by rfl);refine CT rfl rfl ?_)
 (repeat first |refine sN rfl ?_ |((first|refine sA rfl ?_ ?_|refine s4 rfl ‹_› rfl ?_ ?_);first|exact tI|omega|simp only[oZ] at *;omega) |refine s2 rfl fun _ _hb=>?_ |refine s3 rfl ?_ ?_<;>rintro rfl |refine aU rfl ?_ |refine Aa ?_)
 (refine pW rfl ?_ rfl (by rfl);refine Cr [0] rfl rfl (c1) ⟨rfl,by decide,by decide⟩ rfl (by simp[cX,zC,hΓ,cN]) ?_;rintro x0 σ1 nx1 ⟨rfl,rfl,rfl⟩ _)
 (repeat first |refine sN rfl ?_ |((first|refine sA rfl ?_ ?_|refine s4 rfl ‹_› rfl ?_ ?_);first|exact tI|omega|simp only[oZ] at *;omega) |refine s2 rfl fun _ _hb=>?_ |refine s3 rfl ?_ ?_<;>rintro rfl |refine aU rfl ?_ |refine Aa ?_)
 (refine pW rfl ?_ rfl (by rfl);refine Cr [1] rfl rfl (c2) ⟨rfl,by decide,by decide⟩ rfl (by simp[cX,zC,hΓ,cN]) ?_;rintro x0 σ1 nx1 ⟨rfl,rfl,rfl⟩ _)
 (repeat first |refine sN rfl ?_ |((first|refine sA rfl ?_ ?_|refine s4 rfl ‹_› rfl ?_ ?_);first|exact tI|omega|simp only[oZ] at *;omega) |refine s2 rfl fun _ _hb=>?_ |refine s3 rfl ?_ ?_<;>rintro rfl |refine aU rfl ?_ |refine Aa ?_)
 exact aR ⟨_,rfl,[0,1],eI .i64 (k+r.length+c.length),[(0,.cells 9 1 ((iJ k r.length).map Bg)),(1,.cells 9 1 ((iJ (k+r.length) c.length).map Bg))],⟨by intro i hi;match i with|0=>rfl|1=>rfl,by decide⟩,rfl,by ((repeat' first|exact tI|rfl|refine And.intro ?_ ?_)<;>(simp[cX,zC,hΓ,cN]<;>rfl)),rfl,rfl,rfl⟩
theorem iF(l:List Fk)(k:Int)(h0:0≤k)(h1:k≤576460752303423488)(h2:l.length≤288230376151711744):Spec Tryz.prog TB 212 [(0,.cells 189 3 (l.map B2))] 1 [.o (.arr 0 3 0 l.length),eI .i64 k] (fun x σ nx=>x=eI .i64 (k+3*l.length)∧nx=1∧σ=[(0,.cells 189 3 ((jI k l.length).map B2))]):=by
 refine eR Tryz.func212 rfl (by kernel_rfl) rfl ?_;intro Γ hΓ
 (repeat first |refine sN rfl ?_ |((first|refine sA rfl ?_ ?_|refine s4 rfl ‹_› rfl ?_ ?_);first|exact tI|omega|simp only[oZ] at *;omega) |refine s2 rfl fun _ _hb=>?_ |refine s3 rfl ?_ ?_<;>rintro rfl |refine aU rfl ?_ |refine Aa ?_)
 refine aB ?_
 refine aL (α:={i:Nat // i≤l.length}) [0] [] rfl rfl (fun s=>[(1,eI .i64 (k+3*s.1)),(5,eI .i64 s.1)]) (fun s=>[(0,.cells 189 3 ((gE (fun j:Nat=>(⟨k+3*j,k+3*j+1,k+3*j+2⟩:Fk)) l s.1).map B2))]) 1 (fun s=>l.length - s.1) (⟨0,by omega⟩) hΓ rfl (by ((repeat' first|exact tI|rfl|refine And.intro ?_ ?_)<;>(simp[cX,zC,hΓ,cN,ie]<;>rfl))) ?_;rintro⟨i,hi⟩;(try dsimp only[cA,cB])
 by_cases hlt:i < l.length
 ·obtain⟨x,hx⟩:=get_some hlt
  have hm:=gP (f:=fun j:Nat=>(⟨k+3*j,k+3*j+1,k+3*j+2⟩:Fk)) hx
  have hs:=gR (f:=fun j:Nat=>(⟨k+3*j,k+3*j+1,k+3*j+2⟩:Fk)) hx
  have hml:=iT (f:=fun j:Nat=>(⟨k+3*j,k+3*j+1,k+3*j+2⟩:Fk)) (l:=l) (i:=i) hi
  generalize hM:gE (fun j:Nat=>(⟨k+3*j,k+3*j+1,k+3*j+2⟩:Fk)) l i=M at *
  have hg:(M.map B2)[0+((i:Nat):Int).toNat]? = some (B2 x):=by rw [Nat.zero_add,Int.toNat_natCast,List.getElem?_map,hm];rfl
  have hu:∀y:Fk,(M.map B2).set (0+((i:Nat):Int).toNat) (B2 y)=(M.set i y).map B2:=fun y=>by rw [Nat.zero_add,Int.toNat_natCast,List.map_set]
  have hu2:∀y z:Fk,((M.set i y).map B2).set (0+((i:Nat):Int).toNat) (B2 z)=(M.set i z).map B2:=fun y z=>by rw [Nat.zero_add,Int.toNat_natCast,←List.map_set,List.set_set]
  have hg2:∀y:Fk,((M.set i y).map B2)[0+((i:Nat):Int).toNat]? = some (B2 y):=fun y=>by rw [Nat.zero_add,Int.toNat_natCast,List.getElem?_map,List.getElem?_set];simp;omega
  have hga:=hg2 ⟨k+3*i,x.l,x.t⟩
  have hgb:=hg2 ⟨k+3*i,k+3*i+1,x.t⟩
  (repeat first |refine sN rfl ?_ |((first|refine sA rfl ?_ ?_|refine s4 rfl ‹_› rfl ?_ ?_);first|exact tI|omega|simp only[oZ] at *;omega) |refine s2 rfl fun _ _hb=>?_ |refine s3 rfl ?_ ?_<;>rintro rfl |refine aU rfl ?_ |refine Aa ?_)
  ((refine aC rfl ?_ ?_<;>rintro⟨⟩);all_goals try(exfalso;first|omega|simp only[oZ] at *;omega))
  refine aK ?_
  refine aS (aB ?_)
  have q1:AE (B2 x) 0 (eC (eI .i64 (k+3*i)))=B2 ⟨k+3*i,x.l,x.t⟩:=rfl
  have q2:AE (B2 ⟨k+3*i,x.l,x.t⟩) 1 (eC (eI .i64 (k+3*i+1)))=B2 ⟨k+3*i,k+3*i+1,x.t⟩:=rfl
  have q3:AE (B2 ⟨k+3*i,k+3*i+1,x.t⟩) 2 (eC (eI .i64 (k+3*i+1+1)))=B2 ⟨k+3*i,k+3*i+1,k+3*i+1+1⟩:=rfl
  (repeat first |refine sN rfl ?_ |((first|refine sA rfl ?_ ?_|refine s4 rfl ‹_› rfl ?_ ?_);first|exact tI|omega|simp only[oZ] at *;omega) |refine s2 rfl fun _ _hb=>?_ |refine s3 rfl ?_ ?_<;>rintro rfl |refine aU rfl ?_ |refine Aa ?_)
  rw [q1,hu]
  (repeat first |refine sN rfl ?_ |((first|refine sA rfl ?_ ?_|refine s4 rfl ‹_› rfl ?_ ?_);first|exact tI|omega|simp only[oZ] at *;omega) |refine s2 rfl fun _ _hb=>?_ |refine s3 rfl ?_ ?_<;>rintro rfl |refine aU rfl ?_ |refine Aa ?_)
  rw [q2,hu2]
  (repeat first |refine sN rfl ?_ |((first|refine sA rfl ?_ ?_|refine s4 rfl ‹_› rfl ?_ ?_);first|exact tI|omega|simp only[oZ] at *;omega) |refine s2 rfl fun _ _hb=>?_ |refine s3 rfl ?_ ?_<;>rintro rfl |refine aU rfl ?_ |refine Aa ?_)
  rw [q3,hu2]
  have e4:k+3*(i:Int)+1+1=k+3*i+2:=by omega
  have e5:k+3*(((i+1:Nat)):Int)=k+3*i+1+1+1:=by omega
  rw [e4,hs]
  refine⟨⟨i+1,by first|omega|simp only[oZ] at *;omega⟩,by dsimp only;(first|omega|simp only[oZ] at *;omega),[0],?_⟩
  simp[cX,zC,hΓ,cN,e5]
  omega
 ·obtain rfl:i=l.length:=by omega
  rw [gO]
  (repeat first |refine sN rfl ?_ |((first|refine sA rfl ?_ ?_|refine s4 rfl ‹_› rfl ?_ ?_);first|exact tI|omega|simp only[oZ] at *;omega) |refine s2 rfl fun _ _hb=>?_ |refine s3 rfl ?_ ?_<;>rintro rfl |refine aU rfl ?_ |refine Aa ?_)
  ((refine aC rfl ?_ ?_<;>rintro⟨⟩);all_goals try(exfalso;first|omega|simp only[oZ] at *;omega))
  refine aE ?_
  (repeat first |refine sN rfl ?_ |((first|refine sA rfl ?_ ?_|refine s4 rfl ‹_› rfl ?_ ?_);first|exact tI|omega|simp only[oZ] at *;omega) |refine s2 rfl fun _ _hb=>?_ |refine s3 rfl ?_ ?_<;>rintro rfl |refine aU rfl ?_ |refine Aa ?_)
  exact aR ⟨_,rfl,[0],eI .i64 (k+3*l.length),[(0,.cells 189 3 ((jI k l.length).map B2))],⟨by intro i hi;match i with|0=>rfl,by decide⟩,rfl,by ((repeat' first|exact tI|rfl|refine And.intro ?_ ?_)<;>(simp[cX,zC,hΓ,cN,jI]<;>rfl)),rfl,rfl,rfl⟩
end Go.Am
namespace Go.Am
open Go Go.Proofs
set_option linter.unusedVariables false
theorem ic{σ:Ab}{T U:TypeId}{i j n m:Nat}{r c:List W}(h0:look σ i=some (.cells T 1 (r.map Bg)))(h1:look σ j=some (.cells U 1 (c.map Bg)))(hn:r.length=n)(hm:c.length=m):EZ σ (.a [.arr i 1 0 n,.arr j 1 0 m]) (.a [.d (Ba r),.d (Ba c)]):=by
 subst hn hm
 exact .a (ds:=[Ba r,Ba c]) (.cons (.full h0 (by simp [Function.comp_def]) (List.length_map _)) (.cons (.full h1 (by simp [Function.comp_def]) (List.length_map _)) .nil))
theorem ix{σ:Ab}{T U S:TypeId}{i j k n m:Nat}{al:Int}{l:Pr}{nx:List (List Int)}{ac:List Bool}(h0:look σ i=some (.cells T 1 (CQ l)))(h1:look σ j=some (.cells U 1 (ac.map BE)))(h2:look σ k=some (.sld S (sI l)))(hl:l.map (·.2)=nx)(hn:l.length=n)(hm:ac.length=m):EZ σ (.a [.d (iD al),.arr i 1 0 n,.arr j 1 0 m]) (.a [.d (iD al),.d (Dx nx),.d (GZ ac)]):=by
 subst hn hm hl
 exact .a (ds:=[iD al,Dx (l.map (·.2)),GZ ac]) (.cons .d (.cons (.gx h0 h2) (.cons (.full h1 (by simp [Function.comp_def]) (List.length_map _)) .nil)))
theorem jM{σ:Ab}{T0 T1 T2 T3 T4 T5 T6:TypeId}{i0 i1 i2 i3 i4 i5 i6:Nat}{te:CL}{l m:Pr}(hl:l.map (·.2)=te.p.nx)(hm:m.map (·.2)=te.q.nx)
 (h0:look σ i0=some (.cells T0 1 (CQ l))) (h1:look σ i1=some (.cells T1 1 (te.p.ac.map BE))) (h2:look σ i2=some (.sld T2 (sI l)))
 (h3:look σ i3=some (.cells T3 3 (te.s.es.map B2))) (h4:look σ i4=some (.cells T4 1 (CQ m))) (h5:look σ i5=some (.cells T5 1 (te.q.ac.map BE))) (h6:look σ i6=some (.sld T6 (sI m))) :
 EZ σ (.a [.d (bD te.kn),.d (iD te.p.al),.arr i0 1 0 l.length,.arr i1 1 0 te.p.ac.length,.d (iD te.s.al),.d (iD te.s.st),.arr i3 3 0 te.s.es.length,.d (iD te.q.al),.arr i4 1 0 m.length,.arr i5 1 0 te.q.ac.length,.d (iD te.al)]) (Cj te):=by
 obtain⟨kn,⟨pal,pnx,pac⟩,s,⟨qal,qnx,qac⟩,tal⟩:=te
 dsimp only at *
 subst hl hm
 exact .a (ds:=Ua kn ⟨pal,l.map (·.2),pac⟩ s ⟨qal,m.map (·.2),qac⟩ tal) (.cons .d (.cons .d (.cons (.gx h0 h2) (.cons (.full h1 (by simp [Function.comp_def]) (List.length_map _)) (.cons .d (.cons .d (.cons (.full h3 (by simp [Function.comp_def]) (List.length_map _)) (.cons .d (.cons (.gx h4 h6) (.cons (.full h5 (by simp [Function.comp_def]) (List.length_map _)) (.cons .d .nil)))))))))))
theorem iV{M:Nat}:∀ {nx:List (List Int)},(∀r∈nx,r.length≤M)→(nx.map List.length).sum≤nx.length*M
 | [],_=>by simp
 | r::nx,h=>by
  have h1:=h r (by simp)
  have h2:=iV (nx:=nx) fun x hx=>h x (by simp [hx])
  simp only [List.map_cons,List.sum_cons,List.length_cons,Nat.add_mul]
  omega
theorem jl{l:Pr}{nx:List (List Int)}(hl:l.map (·.2)=nx)(h:nx.length≤1048576)(hr:∀r∈nx,r.length≤1048576):l.length≤1048576∧(gy l).sum≤1099511627776:=by
 have h1:=iV hr
 have e:gy l=nx.map List.length:=by rw [←hl,List.map_map];rfl
 have e2:l.length=nx.length:=by rw [←hl,List.length_map]
 rw [e]
 have:nx.length*1048576≤1048576*1048576:=Nat.mul_le_mul_right _ h
 omega
theorem jk(b:Bool):E.HW (eB b):=rfl
theorem jC(k:IntKind)(n:Int):E.HW (eI k n):=rfl
end Go.Am
namespace Go.Am
open Go Go.Proofs
set_option maxHeartbeats 1000000
set_option maxRecDepth 4000
attribute [local irreducible] AV BX Lex Bf Av Spec
variable {TB:Be}
theorem iv(s:Sys)(k:Int)(h0:0≤k)(h1:k≤576460752303423488)(h2:s.es.length≤288230376151711744):Spec Tryz.prog TB 152 [(0,.cells 189 3 (s.es.map B2))] 1 [.a (js s 0),eI .i64 k] (fun x σ nx=>x=eI .i64 (k+3*s.es.length)∧nx=1∧σ=[(0,.cells 189 3 ((jI k s.es.length).map B2))]):=by
 have c1:=iF (TB:=TB) s.es k h0 h1 h2
 refine eR Tryz.func152 rfl (by kernel_rfl) rfl ?_;intro Γ hΓ
 (repeat first |refine sN rfl ?_ |((first|refine sM rfl ?_ ?_|refine s4 rfl ‹_› rfl ?_ ?_);first|exact tI|omega|simp only[oZ] at *;omega) |refine s2 rfl fun _ _hb=>?_ |refine s3 rfl ?_ ?_<;>rintro rfl |refine aU rfl ?_ |refine Aa ?_ |refine rE (by kernel_rfl) ?_)
 (refine pW rfl ?_ rfl (by rfl);refine CT rfl rfl ?_)
 (repeat first |refine sN rfl ?_ |((first|refine sA rfl ?_ ?_|refine s4 rfl ‹_› rfl ?_ ?_);first|exact tI|omega|simp only[oZ] at *;omega) |refine s2 rfl fun _ _hb=>?_ |refine s3 rfl ?_ ?_<;>rintro rfl |refine aU rfl ?_ |refine Aa ?_)
 (refine pW rfl ?_ rfl (by rfl);refine Cr [0] rfl rfl (c1) ⟨rfl,by decide,by decide⟩ rfl (by simp[cX,zC,hΓ,cN]) ?_;rintro x0 σ1 nx1 ⟨rfl,rfl,rfl⟩ _)
 (repeat first |refine sN rfl ?_ |((first|refine sA rfl ?_ ?_|refine s4 rfl ‹_› rfl ?_ ?_);first|exact tI|omega|simp only[oZ] at *;omega) |refine s2 rfl fun _ _hb=>?_ |refine s3 rfl ?_ ?_<;>rintro rfl |refine aU rfl ?_ |refine Aa ?_)
 exact aR ⟨_,rfl,[0],eI .i64 (k+3*s.es.length),[(0,.cells 189 3 ((jI k s.es.length).map B2))],⟨by intro i hi;match i with|0=>rfl,by decide⟩,rfl,by ((repeat' first|exact tI|rfl|refine And.intro ?_ ?_)<;>(simp[cX,zC,hΓ,cN]<;>rfl)),rfl,rfl,rfl⟩
theorem iS(s:Sys)(q:Bn)(al:Int)(l:Pr)(k:Int)(h0:0≤k)(h1:k≤288230376151711744)(h2:s.es.length≤1125899906842624)(h3:l.length≤1125899906842624)(h4:(gy l).sum≤1125899906842624)(h5:q.ac.length≤1125899906842624) :
 Spec Tryz.prog TB 81 [(0,.cells 189 3 (s.es.map B2)),(1,.cells 84 1 (CQ l)),(2,.cells 4 1 (q.ac.map BE)),(3,.sld 3 (sI l))] 4 [.a (jf s q al 0 1 2 l.length),eI .i64 k]
  (fun x σ nx=>∃(es:List Fk) (l':Pr) (ac:List Bool),x=eI .i64 (k+3*s.es.length+(gy l).sum+q.ac.length)∧nx=4∧σ=[(0,.cells 189 3 (es.map B2)),(1,.cells 84 1 (CQ l')),(2,.cells 4 1 (ac.map BE)),(3,.sld 3 (sI l'))]):=by
 have c1:=iv (TB:=TB) s k h0 (by omega) (by omega)
 have c2:=gC (TB:=TB) q.al l q.ac (k+3*s.es.length) (by omega) (by omega) (by omega) (by omega)
 refine eR Tryz.func81 rfl (by kernel_rfl) rfl ?_;intro Γ hΓ
 (repeat first |refine sN rfl ?_ |((first|refine sM rfl ?_ ?_|refine s4 rfl ‹_› rfl ?_ ?_);first|exact tI|omega|simp only[oZ] at *;omega) |refine s2 rfl fun _ _hb=>?_ |refine s3 rfl ?_ ?_<;>rintro rfl |refine aU rfl ?_ |refine Aa ?_ |refine rE (by kernel_rfl) ?_)
 (refine pW rfl ?_ rfl (by rfl);refine CT rfl rfl ?_)
 (repeat first |refine sN rfl ?_ |((first|refine sA rfl ?_ ?_|refine s4 rfl ‹_› rfl ?_ ?_);first|exact tI|omega|simp only[oZ] at *;omega) |refine s2 rfl fun _ _hb=>?_ |refine s3 rfl ?_ ?_<;>rintro rfl |refine aU rfl ?_ |refine Aa ?_)
 (refine pW rfl ?_ rfl (by rfl);refine Cr [0] rfl rfl (c1) ⟨rfl,by decide,by decide⟩ rfl (by simp[cX,zC,hΓ,cN]) ?_;rintro x0 σ1 nx1 ⟨rfl,rfl,rfl⟩ _)
 (repeat first |refine sN rfl ?_ |((first|refine sA rfl ?_ ?_|refine s4 rfl ‹_› rfl ?_ ?_);first|exact tI|omega|simp only[oZ] at *;omega) |refine s2 rfl fun _ _hb=>?_ |refine s3 rfl ?_ ?_<;>rintro rfl |refine aU rfl ?_ |refine Aa ?_)
 (refine pW rfl ?_ rfl (by rfl);refine Cr [1,2,3] rfl rfl (c2) ⟨rfl,by decide,by decide⟩ rfl (by simp[cX,zC,hΓ,cN]) ?_;rintro x0 σ1 nx1 ⟨u,hu,rfl,rfl,rfl⟩ _)
 (repeat first |refine sN rfl ?_ |((first|refine sA rfl ?_ ?_|refine s4 rfl ‹_› rfl ?_ ?_);first|exact tI|omega|simp only[oZ] at *;omega) |refine s2 rfl fun _ _hb=>?_ |refine s3 rfl ?_ ?_<;>rintro rfl |refine aU rfl ?_ |refine Aa ?_)
 exact aR ⟨_,rfl,[0,1,2,3],eI .i64 (k+3*s.es.length+(gy l).sum+q.ac.length),[(0,.cells 189 3 ((jI k s.es.length).map B2)),(1,.cells 84 1 (CQ u)),(2,.cells 4 1 ((ia (k+3*s.es.length+(gy l).sum) q.ac.length).map BE)),(3,.sld 3 (sI u))],⟨by intro i hi;match i with|0=>rfl|1=>rfl|2=>rfl|3=>rfl,by decide⟩,rfl,by ((repeat' first|exact tI|rfl|refine And.intro ?_ ?_)<;>(simp[cX,zC,hΓ,cN]<;>rfl)),_,u,_,rfl,rfl,rfl⟩
theorem jv(te:CL)(l m:Pr)(k:Int)(h0:0≤k)(h1:k≤144115188075855872)(h2:te.s.es.length≤1125899906842624)(h3:l.length≤1125899906842624)(h4:(gy l).sum≤1125899906842624)(h5:te.p.ac.length≤1125899906842624)(h6:m.length≤1125899906842624)(h7:(gy m).sum≤1125899906842624)(h8:te.q.ac.length≤1125899906842624) :
 Spec Tryz.prog TB 24 (iU te l m) 7 [.a (jt te l.length m.length),eI .i64 k]
  (fun x σ nx=>∃(te':CL) (l' m':Pr),x=eI .i64 (k+(gy l).sum+te.p.ac.length+3*te.s.es.length+(gy m).sum+te.q.ac.length)∧nx=7∧σ=iU te' l' m'):=by
 have c1:=gC (TB:=TB) te.p.al l te.p.ac k h0 (by omega) (by omega) (by omega)
 have c2:=iS (TB:=TB) te.s te.q te.al m (k+(gy l).sum+te.p.ac.length) (by omega) (by omega) (by omega) (by omega) (by omega) (by omega)
 refine eR Tryz.func24 rfl (by kernel_rfl) rfl ?_;intro Γ hΓ
 (repeat first |refine sN rfl ?_ |((first|refine sM rfl ?_ ?_|refine s4 rfl ‹_› rfl ?_ ?_);first|exact tI|omega|simp only[oZ] at *;omega) |refine s2 rfl fun _ _hb=>?_ |refine s3 rfl ?_ ?_<;>rintro rfl |refine aU rfl ?_ |refine Aa ?_ |refine rE (by kernel_rfl) ?_)
 (refine pW rfl ?_ rfl (by rfl);refine CT rfl rfl ?_)
 (repeat first |refine sN rfl ?_ |((first|refine sA rfl ?_ ?_|refine s4 rfl ‹_› rfl ?_ ?_);first|exact tI|omega|simp only[oZ] at *;omega) |refine s2 rfl fun _ _hb=>?_ |refine s3 rfl ?_ ?_<;>rintro rfl |refine aU rfl ?_ |refine Aa ?_)
 (refine pW rfl ?_ rfl (by rfl);refine Cr [0,1,2] rfl rfl (c1) ⟨rfl,by decide,by decide⟩ rfl (by simp[cX,zC,hΓ,cN]) ?_;rintro x0 σ1 nx1 ⟨u,hu,rfl,rfl,rfl⟩ _)
 (repeat first |refine sN rfl ?_ |((first|refine sA rfl ?_ ?_|refine s4 rfl ‹_› rfl ?_ ?_);first|exact tI|omega|simp only[oZ] at *;omega) |refine s2 rfl fun _ _hb=>?_ |refine s3 rfl ?_ ?_<;>rintro rfl |refine aU rfl ?_ |refine Aa ?_)
 (refine pW rfl ?_ rfl (by rfl);refine Cr [3,4,5,6] rfl rfl (c2) ⟨rfl,by decide,by decide⟩ rfl (by simp[cX,zC,hΓ,cN]) ?_;rintro x0 σ1 nx1 ⟨es,v,ac,rfl,rfl,rfl⟩ _)
 (repeat first |refine sN rfl ?_ |((first|refine sA rfl ?_ ?_|refine s4 rfl ‹_› rfl ?_ ?_);first|exact tI|omega|simp only[oZ] at *;omega) |refine s2 rfl fun _ _hb=>?_ |refine s3 rfl ?_ ?_<;>rintro rfl |refine aU rfl ?_ |refine Aa ?_)
 exact aR ⟨_,rfl,[0,1,2,3,4,5,6],eI .i64 (k+(gy l).sum+te.p.ac.length+3*te.s.es.length+(gy m).sum+te.q.ac.length),iU ⟨te.kn,⟨te.p.al,[],ia (k+(gy l).sum) te.p.ac.length⟩,⟨te.s.al,te.s.st,es⟩,⟨te.q.al,[],ac⟩,te.al⟩ u v,⟨by intro i hi;match i with|0=>rfl|1=>rfl|2=>rfl|3=>rfl|4=>rfl|5=>rfl|6=>rfl,by decide⟩,rfl,by ((repeat' first|exact tI|rfl|refine And.intro ?_ ?_)<;>(simp[cX,zC,hΓ,cN]<;>rfl)),_,u,v,rfl,rfl,rfl⟩
theorem gK{c:C}{L:W→Bool}{ok:W→Prop}(hc:En Tryz.prog TB c L ok)(al:Int)(t:AN)(hf:∀y∈Dl L (AO al) 13 t,GQ ok (AO al) y)(ht:ED al 20000 t) :
 A3 Tryz.prog TB 91 0 [] 0 [FF al c,B8 t] (ew (AZ L (AO al) 13 t)):=by
 have hr:=BW c hc.AL
 have hrl:=ht.rl
 have hcl:=ht.cl
 have hc1:=I0 (TB:=TB) t.rows (by omega)
 have hc2:=I0 (TB:=TB) t.cols (by omega)
 refine A3.AW (A3.YL (m:=0) (Nat.le_of_ble_eq_true rfl) Tryz.func91 rfl (by kernel_rfl) (Nat.le_of_ble_eq_true rfl) ?_);intro Γ hΓ
 (repeat first |refine sN rfl ?_ |((first|refine sM rfl ?_ ?_|refine s4 rfl ‹_› rfl ?_ ?_);first|exact tI|omega|simp only[oZ] at *;omega) |refine s2 rfl fun _ _hb=>?_ |refine s3 rfl ?_ ?_<;>rintro rfl |refine aU rfl ?_ |refine Aa ?_ |refine rE (by kernel_rfl) ?_)
 (refine pW rfl ?_ rfl (by rfl);refine CT rfl rfl ?_)
 (refine Ai rfl ?_;refine B5 (fun _ _=>CE rfl rfl rfl) rfl ?_)
 (repeat first |refine sN rfl ?_ |((first|refine sM rfl ?_ ?_|refine s4 rfl ‹_› rfl ?_ ?_);first|exact tI|omega|simp only[oZ] at *;omega) |refine s2 rfl fun _ _hb=>?_ |refine s3 rfl ?_ ?_<;>rintro rfl |refine aU rfl ?_ |refine Aa ?_)
 refine R.bk [(7,3),(0,2),(1,2),(3,2),(4,2),(2,1),(5,1),(6,0),(8,5)] mixed (by kernel_rfl) rfl (by kernel_rfl) ?_
 (repeat ((refine R.Ai rfl ?_;first |(refine R.yQ (md:=false) rfl rfl rfl ?_ ?_;first|exact tI|omega|simp only[oZ] at *;omega) |(refine R.yB rfl rfl rfl ?_;intro _ _hb) |refine R.yS rfl rfl rfl ?_ |refine R.yP rfl rfl rfl rfl ?_ |refine R.yA rfl rfl rfl rfl ?_ |refine R.yW rfl rfl rfl ?_ |refine R.cW rfl rfl ?_ |(refine R.yG rfl rfl ?_ ?_<;>intro hb<;>subst hb) )))
 (refine R.Ai rfl ?_;refine R.RZ (fun _=>?_) rfl rfl;refine Cr [] rfl rfl hc1 ⟨rfl,by simp,by simp⟩ rfl trivial ?_;rintro x0 σ1 nx1 ⟨rfl,rfl,rfl⟩ _)
 (repeat ((refine R.Ai rfl ?_;first |(refine R.yQ (md:=false) rfl rfl rfl ?_ ?_;first|exact tI|omega|simp only[oZ] at *;omega) |(refine R.yB rfl rfl rfl ?_;intro _ _hb) |refine R.yS rfl rfl rfl ?_ |refine R.yP rfl rfl rfl rfl ?_ |refine R.yA rfl rfl rfl rfl ?_ |refine R.yW rfl rfl rfl ?_ |refine R.cW rfl rfl ?_ |(refine R.yG rfl rfl ?_ ?_<;>intro hb<;>subst hb) )))
 (refine R.Ai rfl ?_;refine R.RZ (fun _=>?_) rfl rfl;refine Cr [] rfl rfl hc2 ⟨rfl,by simp,by simp⟩ rfl trivial ?_;rintro x0 σ1 nx1 ⟨rfl,rfl,rfl⟩ _)
 (repeat ((refine R.Ai rfl ?_;first |(refine R.yQ (md:=false) rfl rfl rfl ?_ ?_;first|exact tI|omega|simp only[oZ] at *;omega) |(refine R.yB rfl rfl rfl ?_;intro _ _hb) |refine R.yS rfl rfl rfl ?_ |refine R.yP rfl rfl rfl rfl ?_ |refine R.yA rfl rfl rfl rfl ?_ |refine R.yW rfl rfl rfl ?_|refine R.B5 (fun _ _ _=>AJ rfl rfl (by rfl) (by rfl)) rfl rfl ?_ |refine R.cW rfl rfl ?_ |(refine R.yG rfl rfl ?_ ?_<;>intro hb<;>subst hb) )))
 refine R.aw ?_
 refine aB ?_
 have hz:∀x:AN,AM L (AO al) x=none∨∃w,AM L (AO al) x=some w:=fun x=>by cases AM L (AO al) x<;>simp
 refine Av.AR (α:={p:Nat×AN // p.1≤13∧13≤p.1+p.2.rows.length∧ED al (20000+p.2.rows.length) p.2∧AZ L (AO al) 13 t=AZ L (AO al) p.1 p.2∧∀y∈Dl L (AO al) p.1 p.2,GQ ok (AO al) y}) (fun ⟨⟨m,u⟩,hm,hmu,hu,he,hgr⟩=>[(2,.o (.ptr 0 2 0 0)),(4,.o (.ptr 1 2 0 0)),(6,.o (.ptr 4 2 0 0))]) (fun ⟨⟨m,u⟩,hm,hmu,hu,he,hgr⟩=>[(0,.cells 100 2 [[.d (iD al),c]]),(1,.cells 38 2 [[.d (.l []),.d (.l [])]]),(2,.cells 9 1 (u.rows.map Bg)),(3,.cells 9 1 (u.cols.map Bg)),(4,.cells 38 2 [[.arr 2 1 0 u.rows.length,.arr 3 1 0 u.cols.length]])]) 5 (fun ⟨⟨m,u⟩,hm,hmu,hu,he,hgr⟩=>m) (⟨(13,t),by simp,by simp,⟨fun w hw=>⟨(ht.onR w hw).1,by have:=(ht.onR w hw).2;omega⟩,ht.onC,ht.rl,ht.cl⟩,rfl,hf⟩) [0,1,2,3,4] (Dq hΓ rfl rfl) (by ((repeat' first|exact tI|rfl|refine And.intro ?_ ?_)<;>(simp[cX,zC,hΓ,hr,eC,Ab.AW,BH,GO,Ef,AE]))) ?_;rintro⟨⟨m,u⟩,hm,hmu,hu,he,hgr⟩;(try dsimp only)
 dsimp only at hm hmu hu he hgr
 have htk:∀l:List W,((l.map Bg).drop 0).take l.length=(l.map BD).map (fun r=>r.map C.d):=fun l=>by rw [List.drop_zero,List.take_of_length_le (by simp)];simp [Function.comp_def]
 have hur:=hu.rl
 have huc:=hu.cl
 have hask:=hu.Uf (hgr u BO) (by omega)
 have hfo:=Ja (TB:=TB) hc al u hask.1 hask.2
 have hev:ZB [(0,.cells 100 2 [[.d (iD al),c]]),(1,.cells 38 2 [[.d (.l []),.d (.l [])]]),(2,.cells 9 1 (u.rows.map Bg)),(3,.cells 9 1 (u.cols.map Bg)),(4,.cells 38 2 [[.arr 2 1 0 u.rows.length,.arr 3 1 0 u.cols.length]])] [.a [.d (iD al),c],.a [.arr 2 1 0 u.rows.length,.arr 3 1 0 u.cols.length]] [FF al c,B8 u]:=
  .cons (.cons (.pure rfl) (.cons (.pure hc.AL) .nil)) (.cons (.cons (.arr rfl (by simp) (htk _)) (.cons (.arr rfl (by simp) (htk _)) .nil)) .nil)
 refine aB ?_
 rcases hz u with ho|⟨w,ho⟩
 ·rw [ho] at hfo
  (repeat first |refine sN rfl ?_ |((first|refine sM rfl ?_ ?_|refine s4 rfl ‹_› rfl ?_ ?_);first|exact tI|omega|simp only[oZ] at *;omega) |refine s2 rfl fun _ _hb=>?_|(refine Ai rfl ?_;refine gA rfl ?_;first|refine gQ (Gz rfl rfl (hev) (hfo) rfl) rfl ?_) |refine s3 rfl ?_ ?_<;>rintro rfl |refine aU rfl ?_ |refine Aa ?_ |refine rE (by kernel_rfl) ?_)
  (refine aC rfl ?_ ?_<;>rintro⟨⟩)
  ·(repeat first |refine sN rfl ?_ |((first|refine sM rfl ?_ ?_|refine s4 rfl ‹_› rfl ?_ ?_);first|exact tI|omega|simp only[oZ] at *;omega) |refine s2 rfl fun _ _hb=>?_ |refine s3 rfl ?_ ?_<;>rintro rfl |refine aU rfl ?_ |refine Aa ?_ |refine rE (by kernel_rfl) ?_)
   have hn:AZ L (AO al) 13 t=some u:=by
    rw [he]
    obtain⟨m',rfl⟩:∃m',m=m'+1:=⟨m - 1,by omega⟩
    simp [AZ,ho]
   refine Av.names [1,2,3] [(4,.o (.ptr 0 2 0 0)),(5,eB true)] [(0,.cells 38 2 [[.arr 1 1 0 u.rows.length,.arr 2 1 0 u.cols.length]]),(1,.cells 9 1 (u.rows.map Bg)),(2,.cells 9 1 (u.cols.map Bg))] (by intro i hi;rw [hΓ] at hi;omega) (by simp) (by simp[cX,zC,hΓ,GO]) (by simp[cX,zC,hΓ,GO,Ab.AW,BH,Ef,eC,AE]) ?_
   exact aR ⟨_,rfl,[1,2],.t [(true,[.arr 0 1 0 u.rows.length,.arr 1 1 0 u.cols.length]),(false,[.d (bD true)])],[(0,.cells 9 1 (u.rows.map Bg)),(1,.cells 9 1 (u.cols.map Bg))],⟨fun i hi=>absurd hi (Nat.not_lt_zero i),by decide⟩,rfl,by ((repeat' first|exact tI|rfl|refine And.intro ?_ ?_)<;>(simp[cX,zC,hΓ,cN]<;>rfl)),by rw [hn];exact⟨rfl,rfl,rfl⟩⟩
  ·simp at _hb
 ·rw [ho] at hfo
  (repeat first |refine sN rfl ?_ |((first|refine sM rfl ?_ ?_|refine s4 rfl ‹_› rfl ?_ ?_);first|exact tI|omega|simp only[oZ] at *;omega) |refine s2 rfl fun _ _hb=>?_|(refine Ai rfl ?_;refine gA rfl ?_;first|refine gQ (Gz rfl rfl (hev) (hfo) rfl) rfl ?_) |refine s3 rfl ?_ ?_<;>rintro rfl |refine aU rfl ?_ |refine Aa ?_ |refine rE (by kernel_rfl) ?_)
  (refine aC rfl ?_ ?_<;>rintro⟨⟩)
  ·simp at _hb
  ·refine aK ?_
   (repeat first |refine sN rfl ?_ |((first|refine sM rfl ?_ ?_|refine s4 rfl ‹_› rfl ?_ ?_);first|exact tI|omega|simp only[oZ] at *;omega) |refine s2 rfl fun _ _hb=>?_ |refine s3 rfl ?_ ?_<;>rintro rfl |refine aU rfl ?_ |refine Aa ?_ |refine rE (by kernel_rfl) ?_)
   (refine aC rfl ?_ ?_<;>rintro⟨⟩)
   ·(repeat first |refine sN rfl ?_ |((first|refine sM rfl ?_ ?_|refine s4 rfl ‹_› rfl ?_ ?_);first|exact tI|omega|simp only[oZ] at *;omega) |refine s2 rfl fun _ _hb=>?_|(refine Ai rfl ?_;refine gA rfl ?_;first|refine gS (fun _ _=>AJ rfl rfl (by rfl) (by rfl)) ?_) |refine s3 rfl ?_ ?_<;>rintro rfl |refine aU rfl ?_ |refine Aa ?_ |refine rE (by kernel_rfl) ?_)
    have hn:AZ L (AO al) 13 t=none:=by
     have h12:u.rows.length=12:=by first|omega|simp only[oZ] at *;omega
     rw [he]
     obtain⟨m',rfl⟩:∃m',m=m'+1:=⟨m - 1,by omega⟩
     simp [AZ,ho,h12]
    exact aR ⟨_,rfl,[],EP none,[],⟨fun i hi=>absurd hi (Nat.not_lt_zero i),List.nodup_nil⟩,rfl,trivial,by rw [hn];exact⟨rfl,rfl,rfl⟩⟩
   ·refine aK ?_
    have hlt:u.rows.length < 12:=by first|omega|simp only[oZ] at *;omega
    obtain⟨m',rfl⟩:∃m',m=m'+1:=⟨m - 1,by omega⟩
    have hn:AZ L (AO al) 13 t=AZ L (AO al) m' ⟨u.rows++[w],u.cols⟩:=by
     rw [he]
     conv=>lhs;unfold AZ
     rw [ho]
     dsimp only
     rw [if_neg (by omega)]
    have hp:=hu.push ho hlt
    (repeat first |refine sN rfl ?_ |((first|refine sA rfl ?_ ?_|refine s4 rfl ‹_› rfl ?_ ?_);first|exact tI|omega|simp only[oZ] at *;omega) |refine s2 rfl fun _ _hb=>?_ |refine s3 rfl ?_ ?_<;>rintro rfl |refine aU rfl ?_ |refine Aa ?_)
    (refine pW rfl ?_ rfl (by rfl);refine AY rfl rfl rfl (by first|(simp;done)|(simp;(first|omega|simp only[oZ] at *;omega))) rfl (by intro r hr;simp at hr;subst hr;rfl) (by rfl) (Nat.le_of_ble_eq_true rfl) (by simp;omega) ?_)
    (repeat first |refine sN rfl ?_ |((first|refine sM rfl ?_ ?_|refine s4 rfl ‹_› rfl ?_ ?_);first|exact tI|omega|simp only[oZ] at *;omega) |refine s2 rfl fun _ _hb=>?_ |refine s3 rfl ?_ ?_<;>rintro rfl |refine aU rfl ?_ |refine Aa ?_ |refine rE (by kernel_rfl) ?_)
    refine⟨⟨⟨m',⟨u.rows++[w],u.cols⟩⟩,by dsimp only;omega,by simp;omega,by simpa [Nat.add_assoc] using hp,hn,fun y hy=>hgr y (by unfold Dl;rw [ho];dsimp only;rw [if_neg (by omega)];exact List.mem_cons_of_mem _ hy)⟩,by dsimp only;(first|omega|simp only[oZ] at *;omega),[0,1,5,3,4],?_⟩
    simp[cX,zC,hΓ,hr,eC,Ab.AW,BH,GO,Ef,AE]
theorem gU{c:C}{L:W→Bool}{ok:W→Prop}(hc:En Tryz.prog TB c L ok)(al:Int)(t:AN)(hf:GQ ok (AO al) t)(ht:ED al 20012 t)(ho:AM L (AO al) t=none) :
 A3 Tryz.prog TB 99 0 [] 0 [FF al c,B8 t] (bW (AT L al t)):=by
 have hr:=BW c hc.AL
 have hrl:=ht.rl
 have hcl:=ht.cl
 have hla:(Ac al).length≤6:=A0 al 6
 have hask:=ht.Uf hf (by omega)
 have hnl:(AT L al t).nx.length=t.rows.length:=by simp [AT]
 have hal:(AT L al t).ac.length=t.rows.length:=by simp [AT]
 refine A3.AW (A3.YL (m:=0) (Nat.le_of_ble_eq_true rfl) Tryz.func99 rfl (by kernel_rfl) (Nat.le_of_ble_eq_true rfl) ?_);intro Γ hΓ
 (repeat first |refine sN rfl ?_ |((first|refine sM rfl ?_ ?_|refine s4 rfl ‹_› rfl ?_ ?_);first|exact tI|omega|simp only[oZ] at *;omega) |refine s2 rfl fun _ _hb=>?_ |refine s3 rfl ?_ ?_<;>rintro rfl |refine aU rfl ?_ |refine Aa ?_ |refine rE (by kernel_rfl) ?_)
 (refine pW rfl ?_ rfl (by rfl);refine CT rfl rfl ?_)
 (refine Ai rfl ?_;refine B5 (fun _ _=>CE rfl rfl rfl) rfl ?_)
 (repeat first |refine sN rfl ?_ |((first|refine sA rfl ?_ ?_|refine s4 rfl ‹_› rfl ?_ ?_);first|exact tI|omega|simp only[oZ] at *;omega) |refine s2 rfl fun _ _hb=>?_ |refine s3 rfl ?_ ?_<;>rintro rfl |refine aU rfl ?_ |refine Aa ?_)
 (refine pW rfl ?_ rfl (by rfl);refine Cr [] rfl rfl (Ft hc al t hask.1) ⟨rfl,by simp,by simp⟩ (by simp [DM,E.AW,C.Bp,C.AW,hr,eC]) trivial ?_;rintro x0 σ1 nx1 ⟨rfl,rfl,rfl⟩ _)
 (repeat first |refine sN rfl ?_ |((first|refine sA rfl ?_ ?_|refine s4 rfl ‹_› rfl ?_ ?_);first|exact tI|omega|simp only[oZ] at *;omega) |refine s2 rfl fun _ _hb=>?_ |refine s3 rfl ?_ ?_<;>rintro rfl |refine aU rfl ?_ |refine Aa ?_)
 (refine pW rfl ?_ rfl (by rfl);refine N0 1 1 84 2 1 4 rfl rfl (by decide) rfl rfl (by rfl) (by rfl) ?_)
 (repeat first |refine sN rfl ?_ |((first|refine sA rfl ?_ ?_|refine s4 rfl ‹_› rfl ?_ ?_);first|exact tI|omega|simp only[oZ] at *;omega) |refine s2 rfl fun _ _hb=>?_ |refine s3 rfl ?_ ?_<;>rintro rfl |refine aU rfl ?_ |refine Aa ?_)
 refine aB ?_
 refine Av.gp 3 ?_
 refine aL (α:={s:Nat×Pr // s.1≤t.rows.length∧s.2.map (·.2)=(AT L al t).nx.take s.1}) [2,3,4,5,6,19,20] [0,1,2] rfl rfl (fun s=>[(21,eI .i64 s.1.1)]) (fun s=>[(5,.cells 41 3 [[.d (iD al),.arr 3 1 0 s.1.2.length,.arr 4 1 0 s.1.1]]),(3,.cells 84 1 (CQ s.1.2)),(4,.cells 4 1 (((AT L al t).ac.take s.1.1).map BE)),(6,.sld 3 (sI s.1.2))]) 7 (fun s=>t.rows.length - s.1.1) (⟨⟨0,[]⟩,by simp,by simp⟩) hΓ rfl (by ((repeat' first|exact tI|rfl|refine And.intro ?_ ?_)<;>(simp[cX,zC,hΓ,cN,hr,eC,Ef,AE]<;>rfl))) ?_;rintro⟨⟨k,l⟩,hkl,hl⟩;(try dsimp only[cA,cB])
 have hkl:k≤t.rows.length:=hkl
 have hl:l.map (·.2)=(AT L al t).nx.take k:=hl
 have hll:l.length=k:=by have:=congrArg List.length hl;simp at this;omega
 by_cases hlt:k < t.rows.length
 ·obtain⟨r,hx⟩:=get_some (l:=t.rows) (k:=k) hlt
  have hx':=get_map (g:=BD) hx
  have hxm:=List.mem_of_getElem? hx
  (repeat first |refine sN rfl ?_ |((first|refine sA rfl ?_ ?_|refine s4 rfl ‹_› rfl ?_ ?_);first|exact tI|omega|simp only[oZ] at *;omega) |refine s2 rfl fun _ _hb=>?_ |refine s3 rfl ?_ ?_<;>rintro rfl |refine aU rfl ?_ |refine Aa ?_)
  ((refine aC rfl ?_ ?_<;>rintro⟨⟩);all_goals try(exfalso;first|omega|simp only[oZ] at *;omega))
  refine aK ?_
  refine aS (aB ?_)
  (repeat first |refine sN rfl ?_ |((first|refine sM rfl ?_ ?_|refine s4 rfl ‹_› rfl ?_ ?_);first|exact tI|omega|simp only[oZ] at *;omega) |refine s2 rfl fun _ _hb=>?_ |refine s3 rfl ?_ ?_<;>rintro rfl |refine aU rfl ?_ |refine Aa ?_ |refine rE (by kernel_rfl) ?_)
  (refine pW rfl ?_ rfl (by rfl);refine N6 1 3 ?_)
  (repeat first |refine sN rfl ?_ |((first|refine sM rfl ?_ ?_|refine s4 rfl ‹_› rfl ?_ ?_);first|exact tI|omega|simp only[oZ] at *;omega) |refine s2 rfl fun _ _hb=>?_ |refine sP rfl (CP al) rfl ?_ |refine s3 rfl ?_ ?_<;>rintro rfl |refine aU rfl ?_ |refine Aa ?_ |refine rE (by kernel_rfl) ?_)
  refine aB ?_
  refine aL (α:={j:Nat // j≤(Ac al).length}) [2,3,4,5,6,8,19,20,21,27,28] [0,1,2,3,4,5,6] rfl rfl (fun s=>[(9,.o (.arr 7 1 0 s.1)),(29,eI .i64 s.1)]) (fun s=>[(7,.cells 3 1 (((Ac al).take s.1).map fun l=>[.d (iD ((CD L t (r++[lb l]):Nat):Int))]))]) 8 (fun s=>(Ac al).length - s.1) (⟨0,by omega⟩) hΓ rfl (by ((repeat' first|exact tI|rfl|refine And.intro ?_ ?_)<;>(simp[cX,zC,hΓ,cN,hr,eC]<;>rfl))) ?_;rintro⟨j,hjl⟩;(try dsimp only[cA,cB])
  have hjl:j≤(Ac al).length:=hjl
  by_cases hjlt:j < (Ac al).length
  ·obtain⟨m,hm⟩:=get_some hjlt
   have hm':=get_map (g:=Bm) hm
   have hlm:=List.mem_of_getElem? hm
   have hlb:=AS hlm
   have hrb:=ht.onR r hxm
   have hmk:=Mf (TB:=TB) hc al t (r++[lb m]) (by omega) (fun x hx=>hask.2 r hxm _ (List.mem_map.2 ⟨m,hlm,rfl⟩) x hx) (fun y hy=>by have:=(ht.onC y hy).2;simp;omega)
   have hlk:=Wz ho hxm hlm
   (repeat first |refine sN rfl ?_ |((first|refine sA rfl ?_ ?_|refine s4 rfl ‹_› rfl ?_ ?_);first|exact tI|omega|simp only[oZ] at *;omega) |refine s2 rfl fun _ _hb=>?_ |refine s3 rfl ?_ ?_<;>rintro rfl |refine aU rfl ?_ |refine Aa ?_)
   ((refine aC rfl ?_ ?_<;>rintro⟨⟩);all_goals try(exfalso;first|omega|simp only[oZ] at *;omega))
   refine aK ?_
   refine aS (aB ?_)
   (repeat first |refine sN rfl ?_ |((first|refine sA rfl ?_ ?_|refine s4 rfl ‹_› rfl ?_ ?_);first|exact tI|omega|simp only[oZ] at *;omega) |refine s2 rfl fun _ _hb=>?_ |refine s3 rfl ?_ ?_<;>rintro rfl |refine aU rfl ?_ |refine Aa ?_)
   refine rG (J6 [13]) (by kernel_rfl) ?_
   (repeat first |refine sN rfl ?_ |((first|refine sA rfl ?_ ?_|refine s4 rfl ‹_› rfl ?_ ?_);first|exact tI|omega|simp only[oZ] at *;omega) |refine s2 rfl fun _ _hb=>?_ |refine sP rfl (Fq m hlb.1 (by omega)) rfl ?_|(refine Ai rfl ?_;refine gA rfl ?_;first|refine gS (fun _ _=>Xi rfl (by omega) (by omega)) ?_) |refine s3 rfl ?_ ?_<;>rintro rfl |refine aU rfl ?_ |refine Aa ?_)
   rw [Zt hlb.1]
   (repeat first |refine sN rfl ?_ |((first|refine sM rfl ?_ ?_|refine s4 rfl ‹_› rfl ?_ ?_);first|exact tI|omega|simp only[oZ] at *;omega) |refine s2 rfl fun _ _hb=>?_|(refine Ai rfl ?_;refine gA rfl ?_;first|refine gS (fun _ _=>AD rfl rfl (by simp [E.AL,C.A5,C.AL,hc.AL,eC]) hmk rfl) ?_|refine gQ (YU rfl rfl rfl) (by rfl) ?_) |refine s3 rfl ?_ ?_<;>rintro rfl |refine aU rfl ?_ |refine Aa ?_ |refine rE (by kernel_rfl) ?_)
   (repeat first |refine sN rfl ?_ |((first|refine sA rfl ?_ ?_|refine s4 rfl ‹_› rfl ?_ ?_);first|exact tI|omega|simp only[oZ] at *;omega) |refine s2 rfl fun _ _hb=>?_ |refine s3 rfl ?_ ?_<;>rintro rfl |refine aU rfl ?_ |refine Aa ?_)
   (refine pW rfl ?_ rfl (by rfl);refine AY rfl rfl rfl (by first|(simp;done)|(simp;(first|omega|simp only[oZ] at *;omega))) rfl (by intro r hr;simp at hr;subst hr;rfl) (by rfl) (Nat.le_of_ble_eq_true rfl) (by simp;omega) ?_)
   (repeat first |refine sN rfl ?_ |((first|refine sA rfl ?_ ?_|refine s4 rfl ‹_› rfl ?_ ?_);first|exact tI|omega|simp only[oZ] at *;omega) |refine s2 rfl fun _ _hb=>?_ |refine s3 rfl ?_ ?_<;>rintro rfl |refine aU rfl ?_ |refine Aa ?_)
   rw [hlk]
   refine⟨⟨j+1,by first|omega|simp only[oZ] at *;omega⟩,by dsimp only;(first|omega|simp only[oZ] at *;omega),[0,1,2,3,4,5,6,8],?_⟩
   simp[cX,zC,hΓ,cN,hr,List.take_add_one,hm]
  ·obtain rfl:j=(Ac al).length:=by omega
   have hok:=hf r ⟨r,hxm,[],.inl rfl,[],.inl rfl,by simp⟩
   have hnx:(AT L al t).nx.take (k+1)=(AT L al t).nx.take k++[(Ac al).map fun l=>((CD L t (r++[lb l]):Nat):Int)]:=by
    rw [List.take_add_one];simp [AT,hx]
   have hac:(AT L al t).ac.take (k+1)=(AT L al t).ac.take k++[L r]:=by
    rw [List.take_add_one];simp [AT,hx]
   rw [List.take_length]
   generalize hrow:(Ac al).map (fun l=>((CD L t (r++[lb l]):Nat):Int))=row at *
   have hrl2:(Ac al).length=row.length:=by rw [←hrow];simp
   have hmp:(Ac al).map (fun l=>[C.d (iD ((CD L t (r++[lb l]):Nat):Int))])=row.map AI:=by rw [←hrow,List.map_map];rfl
   (repeat first |refine sN rfl ?_ |((first|refine sA rfl ?_ ?_|refine s4 rfl ‹_› rfl ?_ ?_);first|exact tI|omega|simp only[oZ] at *;omega) |refine s2 rfl fun _ _hb=>?_ |refine s3 rfl ?_ ?_<;>rintro rfl |refine aU rfl ?_ |refine Aa ?_)
   ((refine aC rfl ?_ ?_<;>rintro⟨⟩);all_goals try(exfalso;first|omega|simp only[oZ] at *;omega))
   refine aE ?_
   (repeat first |refine sN rfl ?_ |((first|refine sX rfl ?_ ?_|refine s4 rfl ‹_› rfl ?_ ?_);first|exact tI|omega|simp only[oZ] at *;omega) |refine s2 rfl fun _ _hb=>?_ |refine s3 rfl ?_ ?_<;>rintro rfl |refine aU rfl ?_ |refine Aa ?_)
   (refine pW rfl ?_ rfl (by rfl);refine C5 rfl rfl rfl rfl (by simp [eC]) (by rfl) (by rfl) (by rfl) (by rfl) ?_)
   (repeat first |refine sN rfl ?_ |((first|refine sX rfl ?_ ?_|refine s4 rfl ‹_› rfl ?_ ?_);first|exact tI|omega|simp only[oZ] at *;omega) |refine s2 rfl fun _ _hb=>?_ |refine s3 rfl ?_ ?_<;>rintro rfl |refine aU rfl ?_ |refine Aa ?_)
   (refine pW rfl ?_ rfl (by rfl);refine AY rfl rfl rfl (Mw _) rfl (by intro r hr;simp at hr;subst hr;rfl) (by rfl) (Nat.le_of_ble_eq_true rfl) (by simp;omega) ?_)
   (repeat first |refine sN rfl ?_ |((first|refine sX rfl ?_ ?_|refine s4 rfl ‹_› rfl ?_ ?_);first|exact tI|omega|simp only[oZ] at *;omega) |refine s2 rfl fun _ _hb=>?_ |refine s3 rfl ?_ ?_<;>rintro rfl |refine aU rfl ?_ |refine Aa ?_)
   refine Av.Cs [2,3,4,5,6,8,19,20,21] [0,1,2,4] rfl rfl [] [(3,.cells 84 1 (CQ l++[[.arr 7 1 0 row.length]])),(5,.cells 41 3 [[.d (iD al),.arr 3 1 0 (l.length+1),.arr 4 1 0 k]]),(6,.sld 3 (sI l)),(7,.cells 3 1 (row.map AI))] [0,1,2,9,4,5,6,7] (rl hΓ rfl) (by ((repeat' first|exact tI|rfl|refine And.intro ?_ ?_)<;>(simp[cX,zC,hΓ,cN,hr,Ef,AE,eC,hrl2,hmp]<;>rfl))) ?_;(try dsimp only[cA,cB])
   refine Av.ff 3 7 6 l row rfl rfl rfl fun v=>?_
   (repeat first |refine sN rfl ?_ |((first|refine sA rfl ?_ ?_|refine s4 rfl ‹_› rfl ?_ ?_);first|exact tI|omega|simp only[oZ] at *;omega) |refine s2 rfl fun _ _hb=>?_ |refine s3 rfl ?_ ?_<;>rintro rfl |refine aU rfl ?_ |refine Aa ?_)
   refine rG (J6 [7,9]) (by kernel_rfl) ?_
   (repeat first |refine sN rfl ?_ |((first|refine sA rfl ?_ ?_|refine s4 rfl ‹_› rfl ?_ ?_);first|exact tI|omega|simp only[oZ] at *;omega) |refine s2 rfl fun _ _hb=>?_|(refine Ai rfl ?_;refine gA rfl ?_;first|refine gS (fun _ _=>hc.ask rfl rfl hok) ?_) |refine s3 rfl ?_ ?_<;>rintro rfl |refine aU rfl ?_ |refine Aa ?_)
   (refine pW rfl ?_ rfl (by rfl);refine AY rfl rfl rfl (by first|(simp;done)|(simp;(first|omega|simp only[oZ] at *;omega))) rfl (by intro r hr;simp at hr;subst hr;rfl) (by rfl) (Nat.le_of_ble_eq_true rfl) (by simp;omega) ?_)
   (repeat first |refine sN rfl ?_ |((first|refine sA rfl ?_ ?_|refine s4 rfl ‹_› rfl ?_ ?_);first|exact tI|omega|simp only[oZ] at *;omega) |refine s2 rfl fun _ _hb=>?_ |refine s3 rfl ?_ ?_<;>rintro rfl |refine aU rfl ?_ |refine Aa ?_)
   refine⟨⟨⟨k+1,l++[(v,row)]⟩,by dsimp only;omega,by dsimp only;rw [List.map_append,hl,hnx];rfl⟩,by dsimp only;(first|omega|simp only[oZ] at *;omega),[0,1,2,3,8,5,6],?_⟩
   simp[cX,zC,hΓ,cN,hr,eC,Ef,AE,hac]
 ·have hkn:k=t.rows.length:=by omega
  (repeat first |refine sN rfl ?_ |((first|refine sA rfl ?_ ?_|refine s4 rfl ‹_› rfl ?_ ?_);first|exact tI|omega|simp only[oZ] at *;omega) |refine s2 rfl fun _ _hb=>?_ |refine s3 rfl ?_ ?_<;>rintro rfl |refine aU rfl ?_ |refine Aa ?_)
  ((refine aC rfl ?_ ?_<;>rintro⟨⟩);all_goals try(exfalso;first|omega|simp only[oZ] at *;omega))
  refine aE ?_
  (repeat first |refine sN rfl ?_ |((first|refine sA rfl ?_ ?_|refine s4 rfl ‹_› rfl ?_ ?_);first|exact tI|omega|simp only[oZ] at *;omega) |refine s2 rfl fun _ _hb=>?_ |refine s3 rfl ?_ ?_<;>rintro rfl |refine aU rfl ?_ |refine Aa ?_)
  have hlx:l.map (·.2)=(AT L al t).nx:=by rw [hl,hkn,←hnl,List.take_length]
  have hll2:l.length=t.rows.length:=by omega
  have hac:(AT L al t).ac.take k=(AT L al t).ac:=List.take_of_length_le (by rw [hal];omega)
  rw [hac]
  obtain rfl:k=(AT L al t).ac.length:=by omega
  refine aR ⟨_,rfl,[3,4,6],eP al 0 1 l.length (AT L al t).ac.length,[(0,.cells 84 1 (CQ l)),(1,.cells 4 1 ((AT L al t).ac.map BE)),(2,.sld 3 (sI l))],⟨by intro i hi;omega,by decide⟩,rfl,by ((repeat' first|exact tI|rfl|refine And.intro ?_ ?_)<;>(simp[cX,zC,hΓ,cN]<;>rfl)),l,hlx,rfl,rfl,rfl⟩
def jE(o:Option Bn)(x:E)(σ:Ab)(nx:Nat):Prop:=
 match o with
 | none=>x=Zs none∧σ=[]∧nx=0
 | some a=>∃l:Pr,l.map (·.2)=a.nx∧x=.t [(true,[.d (iD a.al),.arr 0 1 0 l.length,.arr 1 1 0 a.ac.length]),(false,[.d (bD true)])]∧σ=[(0,.cells 84 1 (CQ l)),(1,.cells 4 1 (a.ac.map BE)),(2,.sld 3 (sI l))]∧nx=3
section
variable {tabs:List (Nat×Obj)}[hTb:Fo ⟨tabs,none⟩]{te:CL}
include hTb
theorem iC(x:AN)(hz:Na x):A3 Tryz.prog ⟨tabs,none⟩ 32 0 [] 0 [Cj te,B8 x] (jE (Rr te x)):=by
 unfold Rr
 by_cases hok:Cg te=true
 ·obtain⟨ok,hsub,hf,hgr⟩:=OD te x
  rw [hok,Bool.true_and,BF]
  refine A3.AW (A3.YL (m:=0) (Nat.le_of_ble_eq_true rfl) Tryz.func32 rfl (by kernel_rfl) (Nat.le_of_ble_eq_true rfl) ?_);intro Γ hΓ
  apply PD (L:=Bd te) (ok:=ok);case hk=>(intro hk;rcases DD (tabs:=tabs) hok hsub hf with ⟨c,hno,hV,hcp⟩|⟨t,m,hm,hno,hV⟩;(focus (have hcr:=BW c hcp;(repeat first |refine sN rfl ?_ |((first|refine sA rfl ?_ ?_|refine s4 rfl ‹_› rfl ?_ ?_);first|exact tI|omega|simp only[oZ] at *;omega) |refine s2 rfl fun _ _hb=>?_ |refine s3 rfl ?_ ?_<;>rintro rfl |refine aU rfl ?_ |refine Aa ?_);(repeat first |refine sN rfl ?_ |((first|refine sA rfl ?_ ?_|refine s4 rfl ‹_› rfl ?_ ?_);first|exact tI|omega|simp only[oZ] at *;omega) |refine s2 rfl fun _ _hb=>?_|(refine Ai rfl ?_;refine gA rfl ?_;first|refine gS (fun _ _=>AD rfl rfl rfl hno (by simp [E.AL,C.A5,C.AL,hcp])) ?_) |refine s3 rfl ?_ ?_<;>rintro rfl);refine Aa ?_;refine Av.Cs [3,7] [] rfl rfl [(4,.o (.ptr 0 3 0 0)),(6,.o (.ptr 1 2 0 0))] [(0,.cells 41 3 [[.d (iD 0),.d (.l []),.d (.l [])]]),(1,.cells 100 2 [[.d (iD (Al te)),c]])] [0,1] (rl hΓ rfl) (by ((repeat' first|exact tI|rfl|refine And.intro ?_ ?_)<;>(simp[cX,zC,hΓ,hcr,hcp]<;>rfl))) ?_;(try dsimp only[cA,cB]);obtain⟨TB0,hTB0⟩:∃T,T=(⟨tabs,none⟩:Be):=⟨_,rfl⟩;obtain⟨Γ0,hΓ0⟩:∃T,T=Γ:=⟨_,rfl⟩;rw [←hTB0] at hV hTb ⊢;rw [←hΓ0] at hΓ ⊢;exact hk TB0 Γ0 c hΓ hTb hV));((repeat first |refine sN rfl ?_ |((first|refine sA rfl ?_ ?_|refine s4 rfl ‹_› rfl ?_ ?_);first|exact tI|omega|simp only[oZ] at *;omega) |refine s2 rfl fun _ _hb=>?_ |refine s3 rfl ?_ ?_<;>rintro rfl |refine aU rfl ?_ |refine Aa ?_);(refine pW rfl ?_ rfl (by rfl);refine Ez [] rfl rfl 0 (hno) (by decide) ⟨rfl,by decide,by decide⟩ rfl (by simp[cX,zC,hΓ,AH]) ?_;rintro x0 σ1 nx1 ⟨rfl,rfl,rfl⟩ _);(repeat first |refine sN rfl ?_ |((first|refine sA rfl ?_ ?_|refine s4 rfl ‹_› rfl ?_ ?_);first|exact tI|omega|simp only[oZ] at *;omega) |refine s2 rfl fun _ _hb=>?_ |refine s3 rfl ?_ ?_<;>rintro rfl);refine Aa ?_;refine Av.Wo (Ig t ok) ⟨m,hm⟩ 1 [2,3,4,5] (fun r=>[(3,.o (.ip [Ba x.rows,Ba x.cols])),(7,eB true),(4,.o (.ptr 0 3 0 0)),(6,.o (.ptr 6 2 0 0))]) (fun r=>[(0,.cells 41 3 [[.d (iD 0),.d (.l []),.d (.l [])]]),(6,.cells 100 2 [[.d (iD (Al te)),EY (GP r)]])]) (by decide) rfl (by ((repeat' first|exact tI|rfl|refine And.intro ?_ ?_)<;>(simp[cX,zC,hΓ,AH]<;>rfl))) ⟨_,_,_,_,rfl⟩ (fun r=>by repeat' first|exact tI|refine And.intro ⟨_,rfl,.AU⟩ ?_) (fun r=>by repeat' first|exact tI|refine And.intro ⟨by decide,.inl rfl⟩ ?_|refine And.intro ⟨by decide,.inr ⟨_,_,_,_,rfl,rfl,.cons .AU (.cons .mv .nil)⟩⟩ ?_) fun r Γ' hΓ'=>?_;have hΓ:Γ'.V.nx=0:=(by rw [hΓ'];exact hΓ);refine Av.Cs [3,7] [] rfl rfl [(4,.o (.ptr 0 3 0 0)),(6,.o (.ptr 1 2 0 0))] [(0,.cells 41 3 [[.d (iD 0),.d (.l []),.d (.l [])]]),(1,.cells 100 2 [[.d (iD (Al te)),EY (GP r)]])] [0,6] (rl hΓ rfl) (by ((repeat' first|exact tI|rfl|refine And.intro ?_ ?_)<;>(simp[cX,zC,hΓ]<;>rfl))) ?_;(try dsimp only[cA,cB]);exact hk _ Γ' _ hΓ (hV r).2 (hV r).1))
  case h =>
   intro TB1 Γ1 c1 hΓ hTb1 hV
   have hr:=BW c1 hV.AL
   have htv:=CI hV (Al te) (CJ hok) x (fun h=>hgr h x BO) hz
   by_cases hv:AF (Bd te) (Al te) x=true
   ·have hb:=(Bh hv).1.bd
    have hask:=hb.Uf (hgr (Bh hv).1 x BO) (by omega)
    have hcl:=It hV (Al te) x hask.1 hask.2
    rw [hv] at htv ⊢
    by_cases ho:(AM (Bd te) (AO (Al te)) x).isNone=true
    ·have hau:=gU hV (Al te) x (hgr (Bh hv).1 x BO) (hb.mono (by omega)) (by simpa using ho)
     rw [ho] at hcl ⊢
     (repeat' first |refine sN rfl ?_ |((first|refine sA rfl ?_ ?_|refine s4 rfl ‹_› rfl ?_ ?_);first|exact tI|omega|simp only[oZ] at *;omega) |refine s2 rfl fun _ _hb=>?_|(refine Ai rfl ?_;refine gA rfl ?_;first|refine gS (fun _ _=>AD rfl rfl (by simp [E.AL,C.AL,C.A5,hV.AL]) (htv) rfl) ?_|refine gS (fun _ _=>AD rfl rfl (by simp [E.AL,C.AL,C.A5,hV.AL]) (hcl) rfl) ?_) |refine s3 rfl ?_ ?_<;>rintro rfl |refine aU rfl ?_ |refine Aa ?_|(refine aC rfl ?_ ?_<;>rintro⟨⟩));all_goals try contradiction
     refine aK ?_
     (repeat first |refine sN rfl ?_ |((first|refine sA rfl ?_ ?_|refine s4 rfl ‹_› rfl ?_ ?_);first|exact tI|omega|simp only[oZ] at *;omega) |refine s2 rfl fun _ _hb=>?_ |refine s3 rfl ?_ ?_<;>rintro rfl |refine aU rfl ?_ |refine Aa ?_)
     (refine pW rfl ?_ rfl (by rfl);refine Ez [] rfl rfl 0 hau (by decide) ⟨rfl,by decide,by decide⟩ (by simp [DM,E.AW,C.Bp,C.AW,hr,eC,FF,B8]) (by simp[cX,zC,hΓ,cN]) ?_;rintro x0 σ1 nx1 ⟨l,hl,rfl,rfl,rfl⟩ _)
     (repeat first |refine sN rfl ?_ |((first|refine sA rfl ?_ ?_|refine s4 rfl ‹_› rfl ?_ ?_);first|exact tI|omega|simp only[oZ] at *;omega) |refine s2 rfl fun _ _hb=>?_ |refine s3 rfl ?_ ?_<;>rintro rfl |refine aU rfl ?_ |refine Aa ?_)
     refine aR ⟨_,rfl,[2,3,4],.t [(true,[.d (iD (Al te)),.arr 0 1 0 l.length,.arr 1 1 0 (AT (Bd te) (Al te) x).ac.length]),(false,[.d (bD true)])],[(0,.cells 84 1 (CQ l)),(1,.cells 4 1 ((AT (Bd te) (Al te) x).ac.map BE)),(2,.sld 3 (sI l))],⟨fun i hi=>absurd hi (Nat.not_lt_zero i),by decide⟩,?_,by ((repeat' first|exact tI|rfl|refine And.intro ?_ ?_)<;>(simp[cX,zC,hΓ,cN,Ef,AE,eC]<;>rfl)),l,hl,rfl,rfl,rfl⟩
     rfl
    ·rw [Bool.not_eq_true] at ho
     rw [ho] at hcl ⊢
     (repeat' first |refine sN rfl ?_ |((first|refine sA rfl ?_ ?_|refine s4 rfl ‹_› rfl ?_ ?_);first|exact tI|omega|simp only[oZ] at *;omega) |refine s2 rfl fun _ _hb=>?_|(refine Ai rfl ?_;refine gA rfl ?_;first|refine gS (fun _ _=>AD rfl rfl (by simp [E.AL,C.AL,C.A5,hV.AL]) (htv) rfl) ?_|refine gS (fun _ _=>AD rfl rfl (by simp [E.AL,C.AL,C.A5,hV.AL]) (hcl) rfl) ?_|refine gS (fun _ _=>AJ rfl rfl (by rfl) (by rfl)) ?_) |refine s3 rfl ?_ ?_<;>rintro rfl |refine aU rfl ?_ |refine Aa ?_|(refine aC rfl ?_ ?_<;>rintro⟨⟩));all_goals try contradiction
     exact aR ⟨_,rfl,[],Zs none,[],⟨fun i hi=>absurd hi (Nat.not_lt_zero i),List.nodup_nil⟩,rfl,trivial,rfl,rfl,rfl⟩
   ·rw [Bool.not_eq_true] at hv
    rw [hv] at htv ⊢
    (repeat' first |refine sN rfl ?_ |((first|refine sA rfl ?_ ?_|refine s4 rfl ‹_› rfl ?_ ?_);first|exact tI|omega|simp only[oZ] at *;omega) |refine s2 rfl fun _ _hb=>?_|(refine Ai rfl ?_;refine gA rfl ?_;first|refine gS (fun _ _=>AD rfl rfl (by simp [E.AL,C.AL,C.A5,hV.AL]) (htv) rfl) ?_|refine gS (fun _ _=>AJ rfl rfl (by rfl) (by rfl)) ?_) |refine s3 rfl ?_ ?_<;>rintro rfl |refine aU rfl ?_ |refine Aa ?_|(refine aC rfl ?_ ?_<;>rintro⟨⟩));all_goals try contradiction
    exact aR ⟨_,rfl,[],Zs none,[],⟨fun i hi=>absurd hi (Nat.not_lt_zero i),List.nodup_nil⟩,rfl,trivial,rfl,rfl,rfl⟩
 ·rw [Bool.not_eq_true] at hok
  have hno:=FQ (TB:=({ tabs:=tabs,hid:=none }:Be)) hok
  rw [hok,Bool.false_and]
  refine A3.AW (A3.YL (m:=0) (Nat.le_of_ble_eq_true rfl) Tryz.func32 rfl (by kernel_rfl) (Nat.le_of_ble_eq_true rfl) ?_);intro Γ hΓ
  (repeat first |refine sN rfl ?_ |((first|refine sA rfl ?_ ?_|refine s4 rfl ‹_› rfl ?_ ?_);first|exact tI|omega|simp only[oZ] at *;omega) |refine s2 rfl fun _ _hb=>?_ |refine sP rfl (hno) rfl ?_|(refine Ai rfl ?_;refine gA rfl ?_;first|refine gS (fun _ _=>AJ rfl rfl (by rfl) (by rfl)) ?_) |refine s3 rfl ?_ ?_<;>rintro rfl |refine aU rfl ?_ |refine Aa ?_)
  (repeat' first |refine sN rfl ?_ |((first|refine sA rfl ?_ ?_|refine s4 rfl ‹_› rfl ?_ ?_);first|exact tI|omega|simp only[oZ] at *;omega) |refine s2 rfl fun _ _hb=>?_|(refine Ai rfl ?_;refine gA rfl ?_;first|refine gS (fun _ _=>AJ rfl rfl (by rfl) (by rfl)) ?_) |refine s3 rfl ?_ ?_<;>rintro rfl |refine aU rfl ?_ |refine Aa ?_|(refine aC rfl ?_ ?_<;>rintro⟨⟩));all_goals try contradiction
  exact aR ⟨_,rfl,[],Zs none,[],⟨fun i hi=>absurd hi (Nat.not_lt_zero i),List.nodup_nil⟩,rfl,trivial,rfl,rfl,rfl⟩
end
theorem hY(k:Int):Pure Tryz.prog TB 82 [Bl [],eI .i64 k] (eI .i64 k):=by
 refine eG Tryz.func82 rfl (by kernel_rfl) rfl ?_;intro Γ hΓ
 (repeat first |refine sN rfl ?_ |((first|refine sA rfl ?_ ?_|refine s4 rfl ‹_› rfl ?_ ?_);first|exact tI|omega|simp only[oZ] at *;omega) |refine s2 rfl fun _ _hb=>?_ |refine s3 rfl ?_ ?_<;>rintro rfl |refine aU rfl ?_ |refine Aa ?_)
 refine aB ?_
 refine aL (α:={i:Nat // i=0}) [0,1] [] rfl rfl (fun s=>[(5,eI .i64 s.1)]) (fun s=>[]) 0 (fun s=>0) (⟨0,rfl⟩) hΓ rfl (by ((repeat' first|exact tI|rfl|refine And.intro ?_ ?_)<;>(simp[cX,zC,hΓ]<;>rfl))) ?_;rintro⟨i,hi⟩;(try dsimp only[cA,cB])
 subst hi
 (repeat first |refine sN rfl ?_ |((first|refine sA rfl ?_ ?_|refine s4 rfl ‹_› rfl ?_ ?_);first|exact tI|omega|simp only[oZ] at *;omega) |refine s2 rfl fun _ _hb=>?_ |refine s3 rfl ?_ ?_<;>rintro rfl |refine aU rfl ?_ |refine Aa ?_)
 ((refine aC rfl ?_ ?_<;>rintro⟨⟩);all_goals try(exfalso;first|omega|simp only[oZ] at *;omega))
 refine aE ?_
 (repeat first |refine sN rfl ?_ |((first|refine sA rfl ?_ ?_|refine s4 rfl ‹_› rfl ?_ ?_);first|exact tI|omega|simp only[oZ] at *;omega) |refine s2 rfl fun _ _hb=>?_ |refine s3 rfl ?_ ?_<;>rintro rfl |refine aU rfl ?_ |refine Aa ?_)
 (subst_vars;exact aR ⟨_,rfl,rfl⟩)
theorem iu(k:Int):Pure Tryz.prog TB 102 [BS [],eI .i64 k] (eI .i64 k):=by
 refine eG Tryz.func102 rfl (by kernel_rfl) rfl ?_;intro Γ hΓ
 (repeat first |refine sN rfl ?_ |((first|refine sA rfl ?_ ?_|refine s4 rfl ‹_› rfl ?_ ?_);first|exact tI|omega|simp only[oZ] at *;omega) |refine s2 rfl fun _ _hb=>?_ |refine s3 rfl ?_ ?_<;>rintro rfl |refine aU rfl ?_ |refine Aa ?_)
 refine aB ?_
 refine aL (α:={i:Nat // i=0}) [0,1] [] rfl rfl (fun s=>[(5,eI .i64 s.1)]) (fun s=>[]) 0 (fun s=>0) (⟨0,rfl⟩) hΓ rfl (by ((repeat' first|exact tI|rfl|refine And.intro ?_ ?_)<;>(simp[cX,zC,hΓ]<;>rfl))) ?_;rintro⟨i,hi⟩;(try dsimp only[cA,cB])
 subst hi
 (repeat first |refine sN rfl ?_ |((first|refine sA rfl ?_ ?_|refine s4 rfl ‹_› rfl ?_ ?_);first|exact tI|omega|simp only[oZ] at *;omega) |refine s2 rfl fun _ _hb=>?_ |refine s3 rfl ?_ ?_<;>rintro rfl |refine aU rfl ?_ |refine Aa ?_)
 ((refine aC rfl ?_ ?_<;>rintro⟨⟩);all_goals try(exfalso;first|omega|simp only[oZ] at *;omega))
 refine aE ?_
 (repeat first |refine sN rfl ?_ |((first|refine sA rfl ?_ ?_|refine s4 rfl ‹_› rfl ?_ ?_);first|exact tI|omega|simp only[oZ] at *;omega) |refine s2 rfl fun _ _hb=>?_ |refine s3 rfl ?_ ?_<;>rintro rfl |refine aU rfl ?_ |refine Aa ?_)
 (subst_vars;exact aR ⟨_,rfl,rfl⟩)
theorem ir(k:Int):Pure Tryz.prog TB 103 [Gk [],eI .i64 k] (eI .i64 k):=by
 refine eG Tryz.func103 rfl (by kernel_rfl) rfl ?_;intro Γ hΓ
 (repeat first |refine sN rfl ?_ |((first|refine sA rfl ?_ ?_|refine s4 rfl ‹_› rfl ?_ ?_);first|exact tI|omega|simp only[oZ] at *;omega) |refine s2 rfl fun _ _hb=>?_ |refine s3 rfl ?_ ?_<;>rintro rfl |refine aU rfl ?_ |refine Aa ?_)
 refine aB ?_
 refine aL (α:={i:Nat // i=0}) [0,1] [] rfl rfl (fun s=>[(5,eI .i64 s.1)]) (fun s=>[]) 0 (fun s=>0) (⟨0,rfl⟩) hΓ rfl (by ((repeat' first|exact tI|rfl|refine And.intro ?_ ?_)<;>(simp[cX,zC,hΓ]<;>rfl))) ?_;rintro⟨i,hi⟩;(try dsimp only[cA,cB])
 subst hi
 (repeat first |refine sN rfl ?_ |((first|refine sA rfl ?_ ?_|refine s4 rfl ‹_› rfl ?_ ?_);first|exact tI|omega|simp only[oZ] at *;omega) |refine s2 rfl fun _ _hb=>?_ |refine s3 rfl ?_ ?_<;>rintro rfl |refine aU rfl ?_ |refine Aa ?_)
 ((refine aC rfl ?_ ?_<;>rintro⟨⟩);all_goals try(exfalso;first|omega|simp only[oZ] at *;omega))
 refine aE ?_
 (repeat first |refine sN rfl ?_ |((first|refine sA rfl ?_ ?_|refine s4 rfl ‹_› rfl ?_ ?_);first|exact tI|omega|simp only[oZ] at *;omega) |refine s2 rfl fun _ _hb=>?_ |refine s3 rfl ?_ ?_<;>rintro rfl |refine aU rfl ?_ |refine Aa ?_)
 (subst_vars;exact aR ⟨_,rfl,rfl⟩)
theorem iw:Pure Tryz.prog TB 25 [B8 ⟨[],[]⟩,eI .i64 1] (eI .i64 1):=by
 have c1:=hY (TB:=TB) 1
 refine eG Tryz.func25 rfl (by kernel_rfl) rfl ?_;intro Γ hΓ
 (repeat first |refine sN rfl ?_ |((first|refine sA rfl ?_ ?_|refine s4 rfl ‹_› rfl ?_ ?_);first|exact tI|omega|simp only[oZ] at *;omega) |refine s2 rfl fun _ _hb=>?_ |refine sP rfl (c1) rfl ?_ |refine s3 rfl ?_ ?_<;>rintro rfl |refine aU rfl ?_ |refine Aa ?_)
 (subst_vars;exact aR ⟨_,rfl,rfl⟩)
theorem jm:Pure Tryz.prog TB 34 [Da ZM,eI .i64 1] (eI .i64 1):=by
 have c1:=iu (TB:=TB) 1
 have c2:=ir (TB:=TB) 1
 refine eG Tryz.func34 rfl (by kernel_rfl) rfl ?_;intro Γ hΓ
 (repeat first |refine sN rfl ?_ |((first|refine sA rfl ?_ ?_|refine s4 rfl ‹_› rfl ?_ ?_);first|exact tI|omega|simp only[oZ] at *;omega) |refine s2 rfl fun _ _hb=>?_ |refine sP rfl (c1) rfl ?_|refine sP rfl (c2) rfl ?_ |refine s3 rfl ?_ ?_<;>rintro rfl |refine aU rfl ?_ |refine Aa ?_)
 (subst_vars;exact aR ⟨_,rfl,rfl⟩)
theorem il:Pure Tryz.prog TB 26 [B8 ⟨[],[]⟩,eI .i64 1] (eI .i64 1):=gZ (TB:=TB) 0 0 1 (by decide) (by decide)
theorem jh:Pure Tryz.prog TB 35 [Da ZM,eI .i64 1] (eI .i64 1):=hO (TB:=TB) 0 [] 0 1 (by decide) (by decide) (by decide)
theorem jH(r:Nat→Nat):E.HW (E.AW r (Zs none)):=by
 show ∀x∈[(true,[C.d (iD 0),C.d (.l []),C.d (.l [])]),(false,[C.d (bD false)])],∀c∈x.2,C.HW c=true
 simp [C.HW]
theorem jJ(r:Nat→Nat)(al:Int)(n m:Nat):E.HW (E.AW r (.t [(true,[.d (iD al),.arr 0 1 0 n,.arr 1 1 0 m]),(false,[.d (bD true)])])):=by
 show ∀x∈[(true,[C.d (iD al),C.arr (r 0) 1 0 n,C.arr (r 1) 1 0 m]),(false,[C.d (bD true)])],∀c∈x.2,C.HW c=true
 simp [C.HW]
theorem jK{T:TypeId}{r:Nat→Nat}{l:Pr}:O.HW (O.AW r (.cells T 1 (CQ l))):=by
 show ∀x∈(CQ l).map (C.Bp r),∀c∈x,C.HW c=true
 intro x hx c hc
 obtain⟨y,hy,rfl⟩:=List.mem_map.1 hx
 obtain⟨w,_,rfl⟩:=List.mem_map.1 hy
 have hc:c∈[C.d (.v w.1)]:=hc
 simp at hc;subst hc;rfl
theorem jB{T:TypeId}{r:Nat→Nat}{l:List Bool}:O.HW (O.AW r (.cells T 1 (l.map BE))):=by
 show ∀x∈(l.map BE).map (C.Bp r),∀c∈x,C.HW c=true
 intro x hx c hc
 obtain⟨y,hy,rfl⟩:=List.mem_map.1 hx
 obtain⟨w,_,rfl⟩:=List.mem_map.1 hy
 have hc:c∈[C.d (bD w)]:=hc
 simp at hc;subst hc;rfl
theorem iq{c:C}{L:W→Bool}{ok:W→Prop}(hc:En Tryz.prog TB c L ok)(al:Int)(t:AN)(ht:ED al 20000 t)(hal:Bb al=true)(hcl:A7 L (AO al) t)(ho:AM L (AO al) t=none)(w:W)(hf:∀v,SS L (AO al) t w v→ok v)(hw:AB (AO al) w)(hwl:w.length≤20000) :
 A3 Tryz.prog TB 117 0 [] 0 [FF al c,B8 t,eT w] (ew (Fh L (AO al) t w)):=by
 have hr:=BW c hc.AL
 have hpu1:([FF al c,B8 t,eT w].all E.AL && C.A5 [])=true:=by simp [E.AL,C.A5,C.AL,hc.AL]
 have hsp:=Ie (TB:=TB) hc al t (fun v hv=>hf v (.inl hv)) (ht.mono (by omega)) hal hcl ho w (fun v hv=>hf v (.inr (.inl hv))) hw hwl
 have hrl:=ht.rl
 have hcl2:=ht.cl
 rcases hs:Bt L t w with _|v
 ·have hn:Fh L (AO al) t w=none:=by unfold Fh;rw [hs];rfl
  rw [hn]
  rw [hs] at hsp
  refine A3.AW (A3.YL (m:=0) (Nat.le_of_ble_eq_true rfl) Tryz.func117 rfl (by kernel_rfl) (Nat.le_of_ble_eq_true rfl) ?_);intro Γ hΓ
  (repeat first |refine sN rfl ?_ |((first|refine sA rfl ?_ ?_|refine s4 rfl ‹_› rfl ?_ ?_);first|exact tI|omega|simp only[oZ] at *;omega) |refine s2 rfl fun _ _hb=>?_ |refine s3 rfl ?_ ?_<;>rintro rfl |refine aU rfl ?_ |refine Aa ?_)
  (refine pW rfl ?_ rfl (by rfl);refine CT rfl rfl ?_)
  (refine pW rfl ?_ rfl (by rfl);refine CT rfl rfl ?_)
  (repeat first |refine sN rfl ?_ |((first|refine sA rfl ?_ ?_|refine s4 rfl ‹_› rfl ?_ ?_);first|exact tI|omega|simp only[oZ] at *;omega) |refine s2 rfl fun _ _hb=>?_ |refine s3 rfl ?_ ?_<;>rintro rfl |refine aU rfl ?_ |refine Aa ?_)
  (repeat first |refine sN rfl ?_ |((first|refine sA rfl ?_ ?_|refine s4 rfl ‹_› rfl ?_ ?_);first|exact tI|omega|simp only[oZ] at *;omega) |refine s2 rfl fun _ _hb=>?_|(refine Ai rfl ?_;refine gA rfl ?_;first|refine gS (fun _ _=>AD rfl rfl hpu1 hsp rfl) ?_) |refine s3 rfl ?_ ?_<;>rintro rfl |refine aU rfl ?_ |refine Aa ?_)
  ((refine aC rfl ?_ ?_<;>rintro⟨⟩);all_goals try (simp at _hb;done))
  (repeat first |refine sN rfl ?_ |((first|refine sA rfl ?_ ?_|refine s4 rfl ‹_› rfl ?_ ?_);first|exact tI|omega|simp only[oZ] at *;omega) |refine s2 rfl fun _ _hb=>?_|(refine Ai rfl ?_;refine gA rfl ?_;first|refine gS (fun _ _=>AJ rfl rfl (by rfl) (by rfl)) ?_) |refine s3 rfl ?_ ?_<;>rintro rfl |refine aU rfl ?_ |refine Aa ?_)
  exact aR ⟨_,rfl,[],EP none,[],⟨fun i hi=>absurd hi (Nat.not_lt_zero i),List.nodup_nil⟩,rfl,trivial,rfl,rfl,rfl⟩
 ·have hsuf:=E0 hs
  have hvw:AB (AO al) v∧v.length≤20000:=by
   obtain⟨p,_,rfl⟩:=hsuf
   exact⟨fun c hc=>hw c (by simp [hc]),by simp at hwl;omega⟩
  have hac:=IV (TB:=TB) t v (by omega) (by omega)
  rw [hs] at hsp
  rcases ha:Dr t v with _|u
  ·have hn:Fh L (AO al) t w=none:=by unfold Fh;rw [hs];simp [ha]
   rw [hn]
   rw [ha] at hac
   refine A3.AW (A3.YL (m:=0) (Nat.le_of_ble_eq_true rfl) Tryz.func117 rfl (by kernel_rfl) (Nat.le_of_ble_eq_true rfl) ?_);intro Γ hΓ
   (repeat first |refine sN rfl ?_ |((first|refine sA rfl ?_ ?_|refine s4 rfl ‹_› rfl ?_ ?_);first|exact tI|omega|simp only[oZ] at *;omega) |refine s2 rfl fun _ _hb=>?_ |refine s3 rfl ?_ ?_<;>rintro rfl |refine aU rfl ?_ |refine Aa ?_)
   (refine pW rfl ?_ rfl (by rfl);refine CT rfl rfl ?_)
   (refine pW rfl ?_ rfl (by rfl);refine CT rfl rfl ?_)
   (repeat first |refine sN rfl ?_ |((first|refine sA rfl ?_ ?_|refine s4 rfl ‹_› rfl ?_ ?_);first|exact tI|omega|simp only[oZ] at *;omega) |refine s2 rfl fun _ _hb=>?_ |refine s3 rfl ?_ ?_<;>rintro rfl |refine aU rfl ?_ |refine Aa ?_)
   (repeat first |refine sN rfl ?_ |((first|refine sA rfl ?_ ?_|refine s4 rfl ‹_› rfl ?_ ?_);first|exact tI|omega|simp only[oZ] at *;omega) |refine s2 rfl fun _ _hb=>?_|(refine Ai rfl ?_;refine gA rfl ?_;first|refine gS (fun _ _=>AD rfl rfl hpu1 hsp rfl) ?_) |refine s3 rfl ?_ ?_<;>rintro rfl |refine aU rfl ?_ |refine Aa ?_)
   ((refine aC rfl ?_ ?_<;>rintro⟨⟩);all_goals try (simp at _hb;done))
   refine aK ?_
   (repeat first |refine sN rfl ?_ |((first|refine sA rfl ?_ ?_|refine s4 rfl ‹_› rfl ?_ ?_);first|exact tI|omega|simp only[oZ] at *;omega) |refine s2 rfl fun _ _hb=>?_ |refine sP rfl (hac) rfl ?_ |refine s3 rfl ?_ ?_<;>rintro rfl |refine aU rfl ?_ |refine Aa ?_)
   ((refine aC rfl ?_ ?_<;>rintro⟨⟩);all_goals try (simp at _hb;done))
   (repeat first |refine sN rfl ?_ |((first|refine sA rfl ?_ ?_|refine s4 rfl ‹_› rfl ?_ ?_);first|exact tI|omega|simp only[oZ] at *;omega) |refine s2 rfl fun _ _hb=>?_|(refine Ai rfl ?_;refine gA rfl ?_;first|refine gS (fun _ _=>AJ rfl rfl (by rfl) (by rfl)) ?_) |refine s3 rfl ?_ ?_<;>rintro rfl |refine aU rfl ?_ |refine Aa ?_)
   exact aR ⟨_,rfl,[],EP none,[],⟨fun i hi=>absurd hi (Nat.not_lt_zero i),List.nodup_nil⟩,rfl,trivial,rfl,rfl,rfl⟩
  ·have hu:=K7 ht hvw.1 hvw.2 ha
   have hct:=gK (TB:=TB) hc al u (fun y hy v hv=>hf v (.inr (.inr ⟨_,hs,_,ha,y,hy,hv⟩))) hu
   have hn:Fh L (AO al) t w=AZ L (AO al) 13 u:=by unfold Fh;rw [hs];simp [ha]
   rw [hn]
   rw [ha] at hac
   rcases hcn:AZ L (AO al) 13 u with _|x
   all_goals
    rw [hcn] at hct
    refine A3.AW (A3.YL (m:=0) (Nat.le_of_ble_eq_true rfl) Tryz.func117 rfl (by kernel_rfl) (Nat.le_of_ble_eq_true rfl) ?_);intro Γ hΓ
    (repeat first |refine sN rfl ?_ |((first|refine sA rfl ?_ ?_|refine s4 rfl ‹_› rfl ?_ ?_);first|exact tI|omega|simp only[oZ] at *;omega) |refine s2 rfl fun _ _hb=>?_ |refine s3 rfl ?_ ?_<;>rintro rfl |refine aU rfl ?_ |refine Aa ?_)
    (refine pW rfl ?_ rfl (by rfl);refine CT rfl rfl ?_)
    (refine pW rfl ?_ rfl (by rfl);refine CT rfl rfl ?_)
    (repeat first |refine sN rfl ?_ |((first|refine sA rfl ?_ ?_|refine s4 rfl ‹_› rfl ?_ ?_);first|exact tI|omega|simp only[oZ] at *;omega) |refine s2 rfl fun _ _hb=>?_ |refine s3 rfl ?_ ?_<;>rintro rfl |refine aU rfl ?_ |refine Aa ?_)
    (repeat first |refine sN rfl ?_ |((first|refine sA rfl ?_ ?_|refine s4 rfl ‹_› rfl ?_ ?_);first|exact tI|omega|simp only[oZ] at *;omega) |refine s2 rfl fun _ _hb=>?_|(refine Ai rfl ?_;refine gA rfl ?_;first|refine gS (fun _ _=>AD rfl rfl hpu1 hsp rfl) ?_) |refine s3 rfl ?_ ?_<;>rintro rfl |refine aU rfl ?_ |refine Aa ?_)
    ((refine aC rfl ?_ ?_<;>rintro⟨⟩);all_goals try (simp at _hb;done))
    refine aK ?_
    (repeat first |refine sN rfl ?_ |((first|refine sA rfl ?_ ?_|refine s4 rfl ‹_› rfl ?_ ?_);first|exact tI|omega|simp only[oZ] at *;omega) |refine s2 rfl fun _ _hb=>?_ |refine sP rfl (hac) rfl ?_ |refine s3 rfl ?_ ?_<;>rintro rfl |refine aU rfl ?_ |refine Aa ?_)
    ((refine aC rfl ?_ ?_<;>rintro⟨⟩);all_goals try (simp at _hb;done))
    refine aK ?_
    (repeat first |refine sN rfl ?_ |((first|refine sA rfl ?_ ?_|refine s4 rfl ‹_› rfl ?_ ?_);first|exact tI|omega|simp only[oZ] at *;omega) |refine s2 rfl fun _ _hb=>?_ |refine s3 rfl ?_ ?_<;>rintro rfl |refine aU rfl ?_ |refine Aa ?_)
    (refine pW rfl ?_ rfl (by rfl);refine Ez [] rfl rfl 0 hct (by decide) ⟨rfl,by decide,by decide⟩ (by simp [DM,E.AW,C.Bp,C.AW,hr,eC,FF,B8,AE]) (by simp[cX,zC,hΓ,cN]) ?_;rintro x0 σ1 nx1 ⟨rfl,rfl,rfl⟩ _)
    (repeat first |refine sN rfl ?_ |((first|refine sA rfl ?_ ?_|refine s4 rfl ‹_› rfl ?_ ?_);first|exact tI|omega|simp only[oZ] at *;omega) |refine s2 rfl fun _ _hb=>?_ |refine s3 rfl ?_ ?_<;>rintro rfl |refine aU rfl ?_ |refine Aa ?_)
   ·exact aR ⟨_,rfl,[],EP none,[],⟨fun i hi=>absurd hi (Nat.not_lt_zero i),List.nodup_nil⟩,rfl,trivial,rfl,rfl,rfl⟩
   ·exact aR ⟨_,rfl,[3,4],.t [(true,[.arr 0 1 0 x.rows.length,.arr 1 1 0 x.cols.length]),(false,[.d (bD true)])],[(0,.cells 9 1 (x.rows.map Bg)),(1,.cells 9 1 (x.cols.map Bg))],⟨fun i hi=>absurd hi (Nat.not_lt_zero i),by decide⟩,rfl,by ((repeat' first|exact tI|rfl|refine And.intro ?_ ?_)<;>(simp[cX,zC,hΓ,cN,Ef,AE,eC]<;>rfl)),rfl,rfl,rfl⟩
end Go.Am
