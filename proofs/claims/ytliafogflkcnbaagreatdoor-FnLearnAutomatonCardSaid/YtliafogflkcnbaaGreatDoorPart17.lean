/-
  The classes of an automaton's states: walked.
-/
import Derived.Test.YtliafogflkcnbaaGreatDoorPart16
import Derived.Test.YtliafogflkcnbaaGreatDoorPart13
import Derived.Test.YtliafogflkcnbaaGreatDoorPart14
import Derived.Test.YtliafogflkcnbaaGreatDoorPart15
set_option linter.constructorNameAsVariable false
set_option linter.unusedSectionVars false
set_option linter.unusedSimpArgs false
set_option linter.unusedVariables false
namespace Go.Am
open Go Go.Proofs
set_option maxHeartbeats 1000000
attribute [local irreducible] AY B2 Lex Bq Ak Spec
variable {TB:Bu}
theorem TJ{α:Type}{l:List α}{z:α}{k:Nat}(h:l[k]? = some z):E1 l z (k+1)=E1 l z k:=by
 have hk:=(List.getElem?_eq_some_iff.1 h).1
 have e:k - (l.take k).length=0:=by simp;omega
 unfold E1
 rw [List.take_add_one,h,show l.length - k=(l.length - (k+1))+1 by omega,List.replicate_succ]
 simp
theorem NF{a:AN}(h:Fx a):Pure Tryz.prog TB 116 [AT a] (Ai (NG a)):=by
 have hb:=h.b.1
 have hn1:=h.n1
 have hac:=h.ac
 have hl0:(FA a).length=a.nx.length:=by simp [FA,hac]
 have hren:∀(l:List Int) (r:Nat→Nat) k,(E1 (l.map AB) (AB 0) k).map (C.Bz r)=E1 (l.map AB) (AB 0) k:=fun l r k=>Vs (fun x hx=>by obtain⟨y,_,rfl⟩:=List.mem_map.1 hx;rfl) rfl
 refine eG Tryz.func116 rfl (by kernel_rfl) rfl ?_;intro Γ hΓ
 (repeat first |refine sN rfl ?_ |((first|refine sA rfl ?_ ?_|refine s4 rfl ‹_› rfl ?_ ?_);first|exact tI|omega|simp only[oZ] at *;omega) |refine s2 rfl fun _ _hb=>?_ |refine s3 rfl ?_ ?_<;>rintro rfl |refine aU rfl ?_ |refine Aa ?_)
 (refine pW rfl ?_ rfl (by rfl);refine HM rfl rfl (by rfl) (by rfl) (Nat.le_of_ble_eq_true rfl) (by omega) (by omega) (by omega) ?_)
 (repeat first |refine sN rfl ?_ |((first|refine sA rfl ?_ ?_|refine s4 rfl ‹_› rfl ?_ ?_);first|exact tI|omega|simp only[oZ] at *;omega) |refine s2 rfl fun _ _hb=>?_ |refine s3 rfl ?_ ?_<;>rintro rfl |refine aU rfl ?_ |refine Aa ?_)
 refine aB ?_
 refine aL (α:={i:Nat // i≤a.nx.length}) [1,20] [] rfl rfl (fun s=>[(3,.o (.arr 0 1 0 a.nx.length)),(21,eI .i64 s.1)]) (fun s=>[(0,.cells 3 1 (E1 ((FA a).map AB) (AB 0) s.1))]) 1 (fun s=>a.nx.length - s.1) (⟨0,by omega⟩) hΓ rfl (by ((repeat' first|exact tI|rfl|refine And.intro ?_ ?_)<;>(simp[cX,zC,hΓ,Vr,hren,hl0]<;>rfl))) ?_;rintro⟨i,hi⟩;(try dsimp only[cA,cB])
 by_cases hlt:i < a.nx.length
 ·obtain⟨bb,hbb⟩:=get_some (l:=a.ac) (k:=i) (by omega)
  have hbb':=get_map (g:=Fb) hbb
  have hc:(FA a)[i]? = some (if bb then 1 else 0):=by unfold FA;rw [List.getElem?_map,hbb];rfl
  have hg:=Pd (l:=(FA a).map AB) (z:=AB 0) (k:=i) (by simp [hl0,hlt])
  (repeat first |refine sN rfl ?_ |((first|refine sA rfl ?_ ?_|refine s4 rfl ‹_› rfl ?_ ?_);first|exact tI|omega|simp only[oZ] at *;omega) |refine s2 rfl fun _ _hb=>?_ |refine s3 rfl ?_ ?_<;>rintro rfl |refine aU rfl ?_ |refine Aa ?_)
  ((refine aC rfl ?_ ?_<;>rintro⟨⟩);all_goals try(exfalso;first|omega|simp only[oZ] at *;omega))
  refine aK ?_
  refine aS (aB ?_)
  cases bb
  ·have hs:=TJ (l:=(FA a).map AB) (z:=AB 0) (k:=i) (by simp [hc])
   (repeat first |refine sN rfl ?_ |((first|refine sA rfl ?_ ?_|refine s4 rfl ‹_› rfl ?_ ?_);first|exact tI|omega|simp only[oZ] at *;omega) |refine s2 rfl fun _ _hb=>?_ |refine s3 rfl ?_ ?_<;>rintro rfl |refine aU rfl ?_ |refine Aa ?_)
   ((refine aC rfl ?_ ?_<;>rintro⟨⟩);all_goals try (simp at _hb;done))
   refine aK ?_
   (repeat first |refine sN rfl ?_ |((first|refine sA rfl ?_ ?_|refine s4 rfl ‹_› rfl ?_ ?_);first|exact tI|omega|simp only[oZ] at *;omega) |refine s2 rfl fun _ _hb=>?_ |refine s3 rfl ?_ ?_<;>rintro rfl |refine aU rfl ?_ |refine Aa ?_)
   refine⟨⟨i+1,by first|omega|simp only[oZ] at *;omega⟩,by dsimp only;(first|omega|simp only[oZ] at *;omega),[0],?_⟩
   simp[cX,zC,hΓ,hren,hs]
  ·have hs:=Pe (l:=(FA a).map AB) (z:=AB 0) (k:=i) (x:=AB 1) (by simp [hc])
   (repeat first |refine sN rfl ?_ |((first|refine sA rfl ?_ ?_|refine s4 rfl ‹_› rfl ?_ ?_);first|exact tI|omega|simp only[oZ] at *;omega) |refine s2 rfl fun _ _hb=>?_ |refine s3 rfl ?_ ?_<;>rintro rfl |refine aU rfl ?_ |refine Aa ?_)
   ((refine aC rfl ?_ ?_<;>rintro⟨⟩);all_goals try (simp at _hb;done))
   (repeat first |refine sN rfl ?_ |((first|refine sA rfl ?_ ?_|refine s4 rfl ‹_› rfl ?_ ?_);first|exact tI|omega|simp only[oZ] at *;omega) |refine s2 rfl fun _ _hb=>?_ |refine s3 rfl ?_ ?_<;>rintro rfl |refine aU rfl ?_ |refine Aa ?_)
   refine⟨⟨i+1,by first|omega|simp only[oZ] at *;omega⟩,by dsimp only;(first|omega|simp only[oZ] at *;omega),[0],?_⟩
   have hsp:Aj (AB 0) 0 (eC (eI .i64 1))=AB 1:=rfl
   rw [hsp,hs]
   simp[cX,zC,hΓ,hren]
 obtain rfl:i=a.nx.length:=by omega
 have he:E1 ((FA a).map AB) (AB 0) a.nx.length=(FA a).map AB:=by
  have:=Pc ((FA a).map AB) (AB 0)
  rwa [List.length_map,hl0] at this
 rw [he]
 (repeat first |refine sN rfl ?_ |((first|refine sA rfl ?_ ?_|refine s4 rfl ‹_› rfl ?_ ?_);first|exact tI|omega|simp only[oZ] at *;omega) |refine s2 rfl fun _ _hb=>?_ |refine s3 rfl ?_ ?_<;>rintro rfl |refine aU rfl ?_ |refine Aa ?_)
 ((refine aC rfl ?_ ?_<;>rintro⟨⟩);all_goals try(exfalso;first|omega|simp only[oZ] at *;omega))
 refine aE ?_
 refine Ak.DW [0] [1,20] rfl [(3,Ai (FA a))] ⟨⟨_,rfl,.o (.full (by simp) rfl (by simp [Function.comp_def]) (by simp [hl0]))⟩,trivial⟩ ?_;(try dsimp only[cA,cB])
 (repeat first |refine sN rfl ?_ |((first|refine sA rfl ?_ ?_|refine s4 rfl ‹_› rfl ?_ ?_);first|exact tI|omega|simp only[oZ] at *;omega) |refine s2 rfl fun _ _hb=>?_ |refine s3 rfl ?_ ?_<;>rintro rfl |refine aU rfl ?_ |refine Aa ?_)
 refine aB ?_
 refine aL (α:={s:(List Int×Nat)×Nat // Ow a s.1.1 s.1.2 s.2}) [1] [] rfl rfl (fun s=>[(3,Ai s.1.1.1),(5,eI .i64 s.1.1.2)]) (fun s=>[]) 0 (fun s=>s.1.2) (⟨⟨⟨FA a,0⟩,a.nx.length⟩,Ow.zero h⟩) hΓ rfl (by ((repeat' first|exact tI|rfl|refine And.intro ?_ ?_)<;>(simp[cX,zC,hΓ]<;>rfl))) ?_;rintro⟨⟨⟨cs,n⟩,fu⟩,hI⟩;(try dsimp only[cA,cB])
 have hI:Ow a cs n fu:=hI
 have hcl:=hI.len
 have hcr:=hI.rng
 have hst:=hI.step h
 have hKget:=fun q hq=>Tt (a:=a) (cs:=cs) (q:=q) hq
 have hKlen:=Tu a cs
 have hKn:=Qv (a:=a) hcr
 have hKu:=Vi (a:=a) hcr
 generalize JT a cs=KT at *
 have hnl:(Dp KT).length=a.nx.length:=by simp [Dp,hKlen]
 have hnr:n≤64:=by have:=hI.cnt;have h9:=GR cs;omega
 refine aB ?_
 (repeat first |refine sN rfl ?_ |((first|refine sM rfl ?_ ?_|refine s4 rfl ‹_› rfl ?_ ?_);first|exact tI|omega|simp only[oZ] at *;omega) |refine s2 rfl fun _ _hb=>?_ |refine s3 rfl ?_ ?_<;>rintro rfl |refine aU rfl ?_ |refine Aa ?_ |refine rE (by kernel_rfl) ?_)
 (refine pW rfl ?_ rfl (by rfl);refine Jp ?_)
 (repeat first |refine sN rfl ?_ |((first|refine sA rfl ?_ ?_|refine s4 rfl ‹_› rfl ?_ ?_);first|exact tI|omega|simp only[oZ] at *;omega) |refine s2 rfl fun _ _hb=>?_ |refine s3 rfl ?_ ?_<;>rintro rfl |refine aU rfl ?_ |refine Aa ?_)
 (refine pW rfl ?_ rfl (by rfl);refine HM rfl rfl (by rfl) (by rfl) (Nat.le_of_ble_eq_true rfl) (by omega) (by omega) (by omega) ?_)
 (repeat first |refine sN rfl ?_ |((first|refine sA rfl ?_ ?_|refine s4 rfl ‹_› rfl ?_ ?_);first|exact tI|omega|simp only[oZ] at *;omega) |refine s2 rfl fun _ _hb=>?_ |refine s3 rfl ?_ ?_<;>rintro rfl |refine aU rfl ?_ |refine Aa ?_)
 refine aB ?_
 refine aL (α:={q:Nat // q≤a.nx.length}) [1,3,5,6,7,38,39] [] rfl rfl (fun s=>[(40,eI .i64 s.1)]) (fun s=>[(0,.mp (DQ (QK (uq (KT.take s.1))))),(1,.cells 3 1 (E1 ((Dp KT).map AB) (AB 0) s.1))]) 2 (fun s=>a.nx.length - s.1) (⟨0,by omega⟩) hΓ rfl (by ((repeat' first|exact tI|rfl|refine And.intro ?_ ?_)<;>(simp[cX,zC,hΓ,cN,Vr,hren,hnl,hcl,uq,uniq,QK,DQ]<;>rfl))) ?_;rintro⟨q,hq⟩;(try dsimp only[cA,cB])
 by_cases hlq:q < a.nx.length
 ·obtain⟨row,hrow,hrl,hri⟩:=h.b.2 q hlq
  have hrow':=get_map (g:=C1) hrow
  have hrD:a.nx.getD q []=row:=DY hrow
  obtain⟨c,hc⟩:=get_some (l:=cs) (k:=q) (by omega)
  have hc':=get_map (g:=Bk) hc
  have hcD:cs.getD q 0=c:=DY hc
  have hK:=hKget q hlq
  rw [U9,hrD,hcD] at hK
  have hcb:=hcr c (List.mem_of_getElem? hc)
  have RX:=Sc (TB:=TB) c hcb
  have hdl:=KV c.toNat
  have hll:(Ac a.al).length≤6:=AM _ 6
  (repeat first |refine sN rfl ?_ |((first|refine sA rfl ?_ ?_|refine s4 rfl ‹_› rfl ?_ ?_);first|exact tI|omega|simp only[oZ] at *;omega) |refine s2 rfl fun _ _hb=>?_ |refine s3 rfl ?_ ?_<;>rintro rfl |refine aU rfl ?_ |refine Aa ?_)
  ((refine aC rfl ?_ ?_<;>rintro⟨⟩);all_goals try(exfalso;first|omega|simp only[oZ] at *;omega))
  refine aK ?_
  refine aS (aB ?_)
  (repeat first |refine sN rfl ?_ |((first|refine sA rfl ?_ ?_|refine s4 rfl ‹_› rfl ?_ ?_);first|exact tI|omega|simp only[oZ] at *;omega) |refine s2 rfl fun _ _hb=>?_ |refine sP rfl (RX) rfl ?_ |refine s3 rfl ?_ ?_<;>rintro rfl |refine aU rfl ?_ |refine Aa ?_)
  refine aB ?_
  refine aL (α:={s:Nat×W // s.1≤row.length∧s.2=C7 c.toNat++C3 ((row.take s.1).map fun x=>cs.getD x.toNat 0)}) [1,3,5,6,7,8,38,39,40,50,51] [0,1] rfl rfl (fun s=>[(10,eT s.1.2),(52,eI .i64 s.1.1)]) (fun s=>[]) 2 (fun s=>row.length - s.1.1) (⟨⟨0,C7 c.toNat⟩,by simp,by simp [C3]⟩) hΓ rfl (by ((repeat' first|exact tI|rfl|refine And.intro ?_ ?_)<;>(simp[cX,zC,hΓ,cN,hren]<;>rfl))) ?_;rintro⟨⟨j,u⟩,hj,hu⟩;(try dsimp only[cA,cB])
  have hj:j≤row.length:=hj
  have hu:u=C7 c.toNat++C3 ((row.take j).map fun x=>cs.getD x.toNat 0):=hu
  have hul:u.length≤2+3*j:=by
   have:=Uc ((row.take j).map fun x=>cs.getD x.toNat 0)
   rw [List.length_map,List.length_take] at this
   rw [hu,List.length_append]
   omega
  by_cases hjl:j < row.length
  ·obtain⟨x,hx⟩:=get_some hjl
   have hx':=get_map (g:=Bk) hx
   have hxi:=hri j x hx
   obtain⟨e,he⟩:=get_some (l:=cs) (k:=x.toNat) (by omega)
   have he':=get_map (g:=Bk) he
   have heD:cs.getD x.toNat 0=e:=DY he
   have heb:=hcr e (List.mem_of_getElem? he)
   have hie:=Sc (TB:=TB) e heb
   have hdl2:=KV e.toNat
   have hu2:u++([44]++C7 e.toNat)=C7 c.toNat++C3 ((row.take (j+1)).map fun x=>cs.getD x.toNat 0):=by
    have e1:(row.take (j+1)).map (fun x=>cs.getD x.toNat 0)=(row.take j).map (fun x=>cs.getD x.toNat 0)++[e]:=by
     rw [List.take_add_one,hx,List.map_append,←heD];rfl
    rw [e1,Ub,hu,List.append_assoc];rfl
   (repeat first |refine sN rfl ?_ |((first|refine sA rfl ?_ ?_|refine s4 rfl ‹_› rfl ?_ ?_);first|exact tI|omega|simp only[oZ] at *;omega) |refine s2 rfl fun _ _hb=>?_ |refine s3 rfl ?_ ?_<;>rintro rfl |refine aU rfl ?_ |refine Aa ?_)
   ((refine aC rfl ?_ ?_<;>rintro⟨⟩);all_goals try(exfalso;first|omega|simp only[oZ] at *;omega))
   refine aK ?_
   refine aS (aB ?_)
   (repeat first |refine sN rfl ?_ |((first|refine sA rfl ?_ ?_|refine s4 rfl ‹_› rfl ?_ ?_);first|exact tI|omega|simp only[oZ] at *;omega) |refine s2 rfl fun _ _hb=>?_ |refine sP rfl (hie) rfl ?_|(refine Ag rfl ?_;refine gA rfl ?_;first|refine gS (fun _ _=>Yx rfl rfl (by simp;omega)) ?_) |refine s3 rfl ?_ ?_<;>rintro rfl |refine aU rfl ?_ |refine Aa ?_)
   refine⟨⟨⟨j+1,u++([44]++C7 e.toNat)⟩,by dsimp only;omega,hu2⟩,by dsimp only;(first|omega|simp only[oZ] at *;omega),[0,1],?_⟩
   simp[cX,zC,hΓ,cN,hren]
  ·obtain rfl:j=row.length:=by omega
   rw [List.take_length] at hu
   rw [←hu] at hK
   have hno:=XG hK
   have hfk:=Tp (uq (KT.take q)) u
   have hus:=KH hK
   have hnq:(Dp KT)[q]? = some (CJ KT u):=by unfold Dp;rw [List.getElem?_map,hK];rfl
   have hg:=Pd (l:=(Dp KT).map AB) (z:=AB 0) (k:=q) (by simp [hnl,hlq])
   have hst2:=Pe (l:=(Dp KT).map AB) (z:=AB 0) (k:=q) (x:=AB (CJ KT u)) (by simp [hnq])
   have hsp:Aj (AB 0) 0 (eC (eI .i64 (CJ KT u)))=AB (CJ KT u):=rfl
   (repeat first |refine sN rfl ?_ |((first|refine sA rfl ?_ ?_|refine s4 rfl ‹_› rfl ?_ ?_);first|exact tI|omega|simp only[oZ] at *;omega) |refine s2 rfl fun _ _hb=>?_ |refine s3 rfl ?_ ?_<;>rintro rfl |refine aU rfl ?_ |refine Aa ?_)
   ((refine aC rfl ?_ ?_<;>rintro⟨⟩);all_goals try(exfalso;first|omega|simp only[oZ] at *;omega))
   refine aE ?_
   by_cases hin:u∈uq (KT.take q)
   ·rw [if_pos hin] at hus
    have hf:=hfk.1 hin
    rw [←hno.1 hin] at hf
    (repeat first |refine sN rfl ?_ |((first|refine sA rfl ?_ ?_|refine s4 rfl ‹_› rfl ?_ ?_);first|exact tI|omega|simp only[oZ] at *;omega) |refine s2 rfl fun _ _hb=>?_|(refine Ag rfl ?_;refine gA rfl ?_;first|refine gQ (VZ hf rfl rfl rfl) rfl ?_) |refine s3 rfl ?_ ?_<;>rintro rfl |refine aU rfl ?_ |refine Aa ?_)
    ((refine aC rfl ?_ ?_<;>rintro⟨⟩);all_goals try (simp at _hb;done))
    refine aK ?_
    (repeat first |refine sN rfl ?_ |((first|refine sA rfl ?_ ?_|refine s4 rfl ‹_› rfl ?_ ?_);first|exact tI|omega|simp only[oZ] at *;omega) |refine s2 rfl fun _ _hb=>?_ |refine s3 rfl ?_ ?_<;>rintro rfl |refine aU rfl ?_ |refine Aa ?_)
    refine⟨⟨q+1,by first|omega|simp only[oZ] at *;omega⟩,by dsimp only;(first|omega|simp only[oZ] at *;omega),[0,1],?_⟩
    rw [hsp,hst2]
    simp[cX,zC,hΓ,cN,hren,hus]
   ·rw [if_neg hin] at hus
    have hf:=hfk.2 hin
    have hnn:=hno.2 hin
    (repeat first |refine sN rfl ?_ |((first|refine sA rfl ?_ ?_|refine s4 rfl ‹_› rfl ?_ ?_);first|exact tI|omega|simp only[oZ] at *;omega) |refine s2 rfl fun _ _hb=>?_|(refine Ag rfl ?_;refine gA rfl ?_;first|refine gQ (VY hf rfl rfl rfl) rfl ?_) |refine s3 rfl ?_ ?_<;>rintro rfl |refine aU rfl ?_ |refine Aa ?_)
    ((refine aC rfl ?_ ?_<;>rintro⟨⟩);all_goals try (simp at _hb;done))
    (repeat first |refine sN rfl ?_ |((first|refine sA rfl ?_ ?_|refine s4 rfl ‹_› rfl ?_ ?_);first|exact tI|omega|simp only[oZ] at *;omega) |refine s2 rfl fun _ _hb=>?_|(refine Ag rfl ?_;refine gA rfl ?_;first|refine gQ (N7 rfl rfl) rfl ?_) |refine s3 rfl ?_ ?_<;>rintro rfl |refine aU rfl ?_ |refine Aa ?_)
    rw [←hnn]
    (refine Ag rfl ?_;refine GN ?_ rfl (by rfl);refine Yu rfl rfl rfl rfl hf ?_)
    rw [hnn,←Sj,←hus,←hnn]
    (repeat first |refine sN rfl ?_ |((first|refine sA rfl ?_ ?_|refine s4 rfl ‹_› rfl ?_ ?_);first|exact tI|omega|simp only[oZ] at *;omega) |refine s2 rfl fun _ _hb=>?_ |refine s3 rfl ?_ ?_<;>rintro rfl |refine aU rfl ?_ |refine Aa ?_)
    refine⟨⟨q+1,by first|omega|simp only[oZ] at *;omega⟩,by dsimp only;(first|omega|simp only[oZ] at *;omega),[0,1],?_⟩
    rw [hsp,hst2]
    simp[cX,zC,hΓ,cN,hren]
 ·obtain rfl:q=a.nx.length:=by omega
  have hT:KT.take a.nx.length=KT:=by rw [←hKlen,List.take_length]
  have he2:E1 ((Dp KT).map AB) (AB 0) a.nx.length=(Dp KT).map AB:=by
   have:=Pc ((Dp KT).map AB) (AB 0)
   rwa [List.length_map,hnl] at this
  have hun:=GR KT
  rw [hT,he2]
  (repeat first |refine sN rfl ?_ |((first|refine sA rfl ?_ ?_|refine s4 rfl ‹_› rfl ?_ ?_);first|exact tI|omega|simp only[oZ] at *;omega) |refine s2 rfl fun _ _hb=>?_ |refine s3 rfl ?_ ?_<;>rintro rfl |refine aU rfl ?_ |refine Aa ?_)
  ((refine aC rfl ?_ ?_<;>rintro⟨⟩);all_goals try(exfalso;first|omega|simp only[oZ] at *;omega))
  refine aE ?_
  refine Ak.DW [1] [1,5,6] rfl [(7,Ai (Dp KT))] ⟨⟨_,rfl,.o (.full (by simp) rfl (by simp [Function.comp_def]) (by simp [hnl,hcl]))⟩,trivial⟩ ?_;(try dsimp only[cA,cB])
  rcases hst with ⟨g1,g2⟩|⟨g1,g2,g3⟩
  ·rw [g2,←hKn]
   (repeat first |refine sN rfl ?_ |((first|refine sA rfl ?_ ?_|refine s4 rfl ‹_› rfl ?_ ?_);first|exact tI|omega|simp only[oZ] at *;omega) |refine s2 rfl fun _ _hb=>?_|(refine Ag rfl ?_;refine gA rfl ?_;first|refine gQ (N7 rfl rfl) rfl ?_) |refine s3 rfl ?_ ?_<;>rintro rfl |refine aU rfl ?_ |refine Aa ?_)
   ((refine aC rfl ?_ ?_<;>rintro⟨⟩);all_goals try(exfalso;first|omega|simp only[oZ] at *;omega))
   (repeat first |refine sN rfl ?_ |((first|refine sA rfl ?_ ?_|refine s4 rfl ‹_› rfl ?_ ?_);first|exact tI|omega|simp only[oZ] at *;omega) |refine s2 rfl fun _ _hb=>?_ |refine s3 rfl ?_ ?_<;>rintro rfl |refine aU rfl ?_ |refine Aa ?_)
   (subst_vars;exact aR ⟨_,rfl,rfl⟩)
  ·rw [←hKn,←hKu] at g3
   (repeat first |refine sN rfl ?_ |((first|refine sA rfl ?_ ?_|refine s4 rfl ‹_› rfl ?_ ?_);first|exact tI|omega|simp only[oZ] at *;omega) |refine s2 rfl fun _ _hb=>?_|(refine Ag rfl ?_;refine gA rfl ?_;first|refine gQ (N7 rfl rfl) rfl ?_) |refine s3 rfl ?_ ?_<;>rintro rfl |refine aU rfl ?_ |refine Aa ?_)
   ((refine aC rfl ?_ ?_<;>rintro⟨⟩);all_goals try(exfalso;first|omega|simp only[oZ] at *;omega))
   refine aK ?_
   (repeat first |refine sN rfl ?_ |((first|refine sA rfl ?_ ?_|refine s4 rfl ‹_› rfl ?_ ?_);first|exact tI|omega|simp only[oZ] at *;omega) |refine s2 rfl fun _ _hb=>?_|(refine Ag rfl ?_;refine gA rfl ?_;first|refine gQ (N7 rfl rfl) rfl ?_) |refine s3 rfl ?_ ?_<;>rintro rfl |refine aU rfl ?_ |refine Aa ?_)
   refine⟨⟨⟨⟨Dp KT,(uq KT).length⟩,fu - 1⟩,g3⟩,by dsimp only;(first|omega|simp only[oZ] at *;omega),[],?_⟩
   simp[cX,zC,hΓ]
end Go.Am
namespace Go.Am
open Go
set_option linter.unusedVariables false
theorem OV{a b:Nat}(ha:a < 2 ^ 62)(hb:b < 2 ^ 62):Ki .i64 a b=((a &&& b:Nat):Int):=by
 have h0:a &&& b≤a:=Nat.and_le_left
 unfold Ki
 have h1:(BitVec.ofInt IntKind.i64.bits (a:Int) &&& BitVec.ofInt IntKind.i64.bits (b:Int)).toNat=a &&& b:=by
  have e:IntKind.i64.bits=64:=rfl
  rw [e]
  simp only [BitVec.toNat_and,BitVec.ofInt_natCast,BitVec.toNat_ofNat]
  rw [Nat.mod_eq_of_lt (by omega),Nat.mod_eq_of_lt (by omega)]
 rw [h1]
 exact IntWalk.i64_in _ (by omega)
theorem UM(s n:Nat):((s:Nat):Int).fdiv (2 ^ n)=((s / 2 ^ n:Nat):Int):=by
 have h:(0:Int)≤2 ^ n:=Int.le_of_lt (Int.pow_pos (by omega))
 rw [Int.fdiv_eq_ediv_of_nonneg _ h]
 push_cast
 rfl
theorem OF{s n:Nat}(hs:s < 2 ^ 62)(hn:n < 64):ET (s:Nat) n=s.testBit n:=by
 unfold ET
 have e:min n 64=n:=by omega
 rw [e,UM]
 have h1:s / 2 ^ n≤s:=Nat.div_le_self _ _
 have h2:=OV (a:=s / 2 ^ n) (b:=1) (by omega) (by omega)
 rw [show ((1:Nat):Int)=1 from rfl] at h2
 rw [h2,Nat.testBit_eq_decide_div_mod_eq,Nat.and_one_is_mod]
 congr 1
 rw [eq_iff_iff]
 omega
theorem X9{s a:Nat}:s &&& a=s↔∀n,s.testBit n=true→a.testBit n=true:=by
 constructor
 ·intro h n hn
  have:=congrArg (·.testBit n) h
  simp only [Nat.testBit_and,hn,Bool.true_and] at this
  exact this
 ·intro h
  apply Nat.eq_of_testBit_eq
  intro n
  rw [Nat.testBit_and]
  cases hs:s.testBit n
  ·rfl
  ·rw [h n hs];rfl
abbrev Wd:=List UInt8
def Hm(c:UInt8):Bool:=decide (97≤c.toNat∧c.toNat < 103)
def EA(w:Wd):Bool:=decide (w.length≤50000) && w.all Hm
def HS(w:Wd):Nat:=w.foldl (fun s c=>s ||| 2 ^ (c.toNat - 97)) 0
def NP(al:Int)(c:UInt8):Bool:=Hm c && ET al (c.toNat - 97)
def within(w:Wd)(al:Int):Bool:=decide (w.length≤50000) && (BW al && w.all (NP al))
theorem OP(n:Nat):∀(w:Wd) (s:Nat),(w.foldl (fun s c=>s ||| 2 ^ (c.toNat - 97)) s).testBit n=(s.testBit n || w.any fun c=>decide (c.toNat - 97=n))
 | [],s=>by simp
 | c::w,s=>by
  rw [List.foldl_cons,OP n w,Nat.testBit_or,Nat.testBit_two_pow,List.any_cons,Bool.or_assoc]
theorem PH(w:Wd)(n:Nat):(HS w).testBit n=w.any fun c=>decide (c.toNat - 97=n):=by
 unfold HS;rw [OP];simp
theorem Oe:∀ {w:Wd} {s:Nat},w.all Hm=true→s < 64→w.foldl (fun s c=>s ||| 2 ^ (c.toNat - 97)) s < 64
 | [],s,_,hs=>hs
 | c::w,s,h,hs=>by
  simp only [List.all_cons,Bool.and_eq_true] at h
  rw [List.foldl_cons]
  refine Oe h.2 ?_
  have h1:=h.1
  unfold Hm at h1
  simp only [decide_eq_true_eq] at h1
  have h2:2 ^ (c.toNat - 97) < 2 ^ 6:=Nat.pow_lt_pow_right (by omega) (by omega)
  exact Nat.or_lt_two_pow (n:=6) hs h2
theorem X0{w:Wd}{al:Int}(hw:w.all Hm=true)(ha:BW al=true):decide (Ki .i64 (HS w:Nat) al=(HS w:Nat))=w.all (NP al):=by
 have hs:HS w < 64:=Oe hw (by omega)
 unfold BW at ha
 simp only [decide_eq_true_eq] at ha
 obtain⟨a,rfl⟩:∃a:Nat,al=a:=⟨al.toNat,by omega⟩
 rw [OV (by omega) (by omega)]
 rw [Bool.eq_iff_iff,decide_eq_true_eq,List.all_eq_true]
 have h1:((HS w &&& a:Nat):Int)=(HS w:Nat)↔HS w &&& a=HS w:=by omega
 rw [h1,X9]
 rw [List.all_eq_true] at hw
 constructor
 ·intro h c hc
  have h2:=hw c hc
  unfold NP
  rw [h2,Bool.true_and]
  unfold Hm at h2
  simp only [decide_eq_true_eq] at h2
  rw [OF (by omega) (by omega)]
  refine h _ ?_
  rw [PH,List.any_eq_true]
  exact⟨c,hc,by simp⟩
 ·intro h n hn
  rw [PH,List.any_eq_true] at hn
  obtain⟨c,hc,hcn⟩:=hn
  simp only [decide_eq_true_eq] at hcn
  have h2:=hw c hc
  have h3:=h c hc
  unfold NP at h3
  rw [h2,Bool.true_and] at h3
  unfold Hm at h2
  simp only [decide_eq_true_eq] at h2
  rw [OF (by omega) (by omega),hcn] at h3
  exact h3
theorem RB{w:Wd}{al:Int}(h:w.all (NP al)=true):w.all Hm=true:=by
 rw [List.all_eq_true] at *
 intro c hc
 have:=h c hc
 unfold NP at this
 simp only [Bool.and_eq_true] at this
 exact this.1
noncomputable def GS(p:AN)(t:A2):Option W:=(EC (AK (LA p) p.al t) p).map CM
theorem JD(p:AN):Wr (LA p) (AP p.al) (GS p):=⟨fun t w h hc=>by
 unfold GS at h
 obtain⟨v,hv,rfl⟩:=Option.map_eq_some_iff.1 h
 obtain⟨_,h1,h2,_⟩:=ML hv
 exact⟨h1,fun he=>h2 (by rw [GV hc h1,he])⟩⟩
theorem Fw{p:AN}{t:A2}{w:W}(h:GS p t=some w):w.length≤144:=by
 unfold GS at h
 obtain⟨v,hv,rfl⟩:=Option.map_eq_some_iff.1 h
 exact(ML hv).2.2.2
theorem Nr(L:W→Bool)(ls:List UInt8):TOk L ls Bt:=by
 refine⟨rfl,rfl,fun i w hi h0=>?_,fun w hw=>?_,fun w hw=>?_,by simp [AH,Bt],by simp [Bt]⟩
 ·have:=(List.getElem?_eq_some_iff.1 hi).1
  simp [Bt] at this;omega
 ·simp [Bt] at hw;subst hw;exact fun c hc=>(by cases hc)
 ·simp [Bt] at hw;subst hw;exact fun c hc=>(by cases hc)
noncomputable def Ok(p:AN):A2:=(A9 (LA p) (AP p.al) 13 Bt).getD Bt
theorem Hg{p:AN}(hp:Ay p=true):A9 (LA p) (AP p.al) 13 Bt=some (Ok p)∧A3 (LA p) (AP p.al) (Ok p)∧(Ok p).cols=[[]]:=by
 have h1:=Ar hp
 obtain⟨t',e1,e2,e3,e4,e5,_⟩:=Jc (Tk hp p.al) h1.2.2.1 13 Bt (Nr _ _) (by simp [Bt])
 have:Ok p=t':=by unfold Ok;rw [e1];rfl
 rw [this]
 exact⟨e1,e2.closed e3,e5⟩
noncomputable def AR(p:AN)(k:Nat):A2:=DM (LA p) (AP p.al) (GS p) (Ok p) k
theorem Xz{p:AN}(hp:Ay p=true):∃k,k < 12∧GS p (AR p k)=none∧∀j,j < k→GS p (AR p j)≠none:=
 QG (Tk hp p.al) (Ar hp).2.2.1 (JD p) (Hg hp).2.1 (by rw [(Hg hp).2.2];rfl)
open Classical in
noncomputable def AW(p:AN):Nat:=if h:∃k,k < 12∧GS p (AR p k)=none∧∀j,j < k→GS p (AR p j)≠none then Classical.choose h else 0
theorem BC{p:AN}(hp:Ay p=true):AW p < 12∧GS p (AR p (AW p))=none∧∀j,j < AW p→GS p (AR p j)≠none:=by
 have h:=Xz hp
 unfold AW
 rw [dif_pos h]
 exact Classical.choose_spec h
theorem TOk.short{L:W→Bool}{ls:List UInt8}{t:A2}(h:TOk L ls t):∀(i:Nat) w,t.rows[i]? = some w→w.length≤i:=by
 intro i
 induction i using Nat.strongRecOn with
 | _ i ih=>
  intro w hw
  rcases Nat.eq_zero_or_pos i with h0|h0
  ·subst h0
   rw [h.r0] at hw
   injection hw with hw
   subst hw;simp
  ·obtain⟨h1,j,hj,h2⟩:=h.pre i w hw h0
   have:=ih j hj _ h2
   simp at this
   omega
def YR(n:Nat)(t:A2):Prop:=∀c∈t.cols,c.length≤n
theorem Dj{p:AN}(hp:Ay p=true):∀k,k≤AW p→A3 (LA p) (AP p.al) (AR p k)∧k+1≤(AR p k).rows.length∧(AR p k).rows.length≤12∧(AR p k).cols.length=k+1∧YR 144 (AR p k)
 | 0, hk=>by
  have h1:=Hg hp
  have h2:=h1.2.1.ab (Tk hp p.al)
  have h3:=Ar hp
  have h0:=(List.getElem?_eq_some_iff.1 h1.2.1.r0).1
  exact⟨h1.2.1,h0,by show (Ok p).rows.length≤12;omega,by show (Ok p).cols.length=1;rw [h1.2.2];rfl,fun c hc=>by
   have hc:c∈(Ok p).cols:=hc
   rw [h1.2.2] at hc
   simp at hc;subst hc;simp⟩
 | k + 1,hk=>by
  obtain⟨h1,h2,h3,h4,h5⟩:=Dj hp k (by omega)
  have h6:=(BC hp).2.2 k (by omega)
  have e:AR p (k+1)=match GS p (AR p k) with
   | none=>AR p k
   | some w=>(Pj (LA p) (AP p.al) (AR p k) w).getD (AR p k):=rfl
  cases hw:GS p (AR p k) with
  | none=>exact absurd hw h6
  | some w=>
   obtain⟨h7,h8⟩:=(JD p).on _ w hw h1
   have h10:=Ar hp
   obtain⟨v,t',hN⟩:=Am.NX (Tk hp p.al) h10.2.2.1 h1 h7 h8
   rw [hw] at e
   simp only [hN.next,Option.getD_some] at e
   rw [e]
   refine⟨hN.ok,by have:=hN.more;omega,by have:=hN.ok.ab (Tk hp p.al);omega,by rw [hN.cols];simp [h4],fun c hc=>?_⟩
   rw [hN.cols] at hc
   rcases List.mem_append.1 hc with hc|hc
   ·exact h5 c hc
   ·simp at hc
    subst hc
    have:=Fw hw
    obtain⟨q,_,hq⟩:=hN.suf
    rw [hq] at this
    simp at this;omega
theorem Hf{p:AN}(hp:Ay p=true){k:Nat}(hk:k < AW p):∃w v,GS p (AR p k)=some w∧Next (LA p) (AP p.al) (AR p k) w v (AR p (k+1)):=by
 have h1:=(Dj hp k (by omega)).1
 have h6:=(BC hp).2.2 k hk
 have e:AR p (k+1)=match GS p (AR p k) with
  | none=>AR p k
  | some w=>(Pj (LA p) (AP p.al) (AR p k) w).getD (AR p k):=rfl
 cases hw:GS p (AR p k) with
 | none=>exact absurd hw h6
 | some w=>
  obtain⟨h7,h8⟩:=(JD p).on _ w hw h1
  obtain⟨v,t',hN⟩:=Am.NX (Tk hp p.al) (Ar hp).2.2.1 h1 h7 h8
  rw [hw] at e
  simp only [hN.next,Option.getD_some] at e
  rw [e]
  exact⟨w,v,rfl,hN⟩
end Go.Am
namespace Go.Am
open Go Go.Proofs
set_option maxHeartbeats 1000000
attribute [local irreducible] AY B2 Lex Bq Ak Spec
variable {TB:Bu}
abbrev da(g:FuncId):D:=.v (.func (.func g) #[] #[])
theorem Em(a b:AN):Pure Tryz.prog TB 124 [AT a,AT b] (eB (Cj a b)):=by
 refine eN Tryz.func124 rfl (by kernel_rfl) rfl ?_;intro Γ hΓ
 (repeat' first |refine sN rfl ?_ |((first|refine sA rfl ?_ ?_|refine s4 rfl ‹_› rfl ?_ ?_);first|exact tI|omega|simp only[oZ] at *;omega) |refine s2 rfl fun _ _hb=>?_ |(refine sC rfl (Bg a) ?_;intro _ _hb)|(refine sC rfl (Bg b) ?_;intro _ _hb) |refine s3 rfl ?_ ?_<;>rintro rfl |refine aU rfl ?_ |refine Aa ?_ |refine rE (by kernel_rfl) ?_|(refine aC rfl ?_ ?_<;>rintro⟨⟩)|refine aK ?_|refine aE ?_|refine aB ?_|refine aR ⟨_,rfl,?_⟩)
 all_goals (show E.o _=E.o _;congr;unfold Cj;grind)
theorem Qk(x y:Bool):Pure Tryz.prog TB 171 [eB x,eB y] (eB (bne x y)):=by
 refine eN Tryz.func171 rfl (by kernel_rfl) rfl ?_;intro Γ hΓ
 (repeat' first |refine sN rfl ?_ |((first|refine sA rfl ?_ ?_|refine s4 rfl ‹_› rfl ?_ ?_);first|exact tI|omega|simp only[oZ] at *;omega) |refine s2 rfl fun _ _hb=>?_ |refine s3 rfl ?_ ?_<;>rintro rfl |refine aU rfl ?_ |refine Aa ?_ |refine rE (by kernel_rfl) ?_|(refine aC rfl ?_ ?_<;>rintro⟨⟩)|refine aK ?_|refine aE ?_|refine aB ?_|refine aR ⟨_,rfl,?_⟩)
 all_goals (show E.o _=E.o _;congr;grind)
theorem UB{a b:AN}(ha:Ay a=true)(hb:Ay b=true){f0:FuncId}{op:Bool→Bool→Bool}{s0:Int}(hop:∀x y,Pure Tryz.prog TB f0 [eB x,eB y] (eB (op x y)))(node:Int)(hn:0≤node∧node < (JR a b s0 op).N) :
 Pure Tryz.prog TB 201 [eI .i64 node,.o (.ip [da f0]),.o (.ip (Bn a)),.o (.ip [iD b.nx.length]),.o (.ip (Bn b))] (eB ((JR a b s0 op).goal node)):=by
 have hah:=Ar ha
 have hbh:=Ar hb
 have h1:=Gz (a:=a) hb (x:=node) hn
 have hN:node < 1048576:=by
  have h2:a.nx.length*b.nx.length≤12*12:=Nat.mul_le_mul (by omega) (by omega)
  have h3:(JR a b s0 op).N=a.nx.length*b.nx.length:=rfl
  omega
 obtain⟨x,hx⟩:=get_some (l:=a.ac) (k:=(node / b.nx.length).toNat) (by omega)
 obtain⟨y,hy⟩:=get_some (l:=b.ac) (k:=(node % b.nx.length).toNat) (by omega)
 have hx':(a.ac.map Fb)[(node / b.nx.length).toNat]? = some (Fb x):=by simp [hx]
 have hy':(b.ac.map Fb)[(node % b.nx.length).toNat]? = some (Fb y):=by simp [hy]
 have hg:(JR a b s0 op).goal node=op x y:=by simp [JR,List.getD,hx,hy]
 rw [hg]
 have hxy:=hop x y
 refine eN Tryz.func201 rfl (by kernel_rfl) rfl ?_;intro Γ hΓ
 (repeat first |refine sN rfl ?_ |((first|refine sA rfl ?_ ?_|refine s4 rfl ‹_› rfl ?_ ?_);first|exact tI|omega|simp only[oZ] at *;omega) |refine s2 rfl fun _ _hb=>?_ |refine s3 rfl ?_ ?_<;>rintro rfl |refine aU rfl ?_ |refine Aa ?_)
 refine rG (HW []) (by kernel_rfl) ?_
 (repeat first |refine sN rfl ?_ |((first|refine sA rfl ?_ ?_|refine s4 rfl ‹_› rfl ?_ ?_);first|exact tI|omega|simp only[oZ] at *;omega) |refine s2 rfl fun _ _hb=>?_|(refine Ag rfl ?_;refine gA rfl ?_;first|refine gS (fun _ _=>Zx (t:=7) rfl (BL rfl rfl rfl hxy rfl)) ?_) |refine s3 rfl ?_ ?_<;>rintro rfl |refine aU rfl ?_ |refine Aa ?_)
 refine aR ⟨_,rfl,rfl⟩
theorem UA{a b:AN}(ha:Ay a=true)(hb:Ay b=true){op:Bool→Bool→Bool}{s0:Int}:Uo Tryz.prog TB 3 (JR a b s0 op) 199 [.ip [.l (Ey a)],.ip [iD b.nx.length],.ip [.l (Ey b)]]:=by
 intro node l outs hn hl hol
 have hl:=Au (show l∈Az a.al 6 from hl)
 have hah:=Ar ha
 have hbh:=Ar hb
 have h1:=Gz (a:=a) hb (x:=node) hn
 have hN:node < 1048576:=by
  have h2:a.nx.length*b.nx.length≤12*12:=Nat.mul_le_mul (by omega) (by omega)
  have h3:(JR a b s0 op).N=a.nx.length*b.nx.length:=rfl
  omega
 have hga:=GB ha (q:=(node / b.nx.length).toNat) (by omega) hl.1 (by omega)
 have hgb:=GB hb (q:=(node % b.nx.length).toNat) (by omega) hl.1 (by omega)
 have ta:=Hj (a:=a) (q:=(node / b.nx.length).toNat) (by omega)
 have tb:=Hj (a:=b) (q:=(node % b.nx.length).toNat) (by omega)
 have el:((l.toNat:Nat):Int)=l:=by omega
 have ra:=Fp (h:=fun l=>Bm a (node / b.nx.length).toNat l) hl.1 (by omega)
 have rb:=Fp (h:=fun l=>Bm b (node % b.nx.length).toNat l) hl.1 (by omega)
 simp only [el] at ra rb
 have hm:0≤Bm a (node / b.nx.length).toNat l*b.nx.length∧Bm a (node / b.nx.length).toNat l*b.nx.length≤144:=⟨Int.mul_nonneg hga.1 (by omega),by
  have:Bm a (node / b.nx.length).toNat l*b.nx.length≤12*12:=Int.mul_le_mul (by omega) (by omega) (by omega) (by omega)
  omega⟩
 have hs:(JR a b s0 op).succ node l=[Bm a (node / b.nx.length).toNat l*b.nx.length+Bm b (node % b.nx.length).toNat l]:=rfl
 rw [hs]
 refine eN Tryz.func199 rfl (by kernel_rfl) rfl ?_;intro Γ hΓ
 (repeat first |refine sN rfl ?_ |((first|refine sA rfl ?_ ?_|refine s4 rfl ‹_› rfl ?_ ?_);first|exact tI|omega|simp only[oZ] at *;omega) |refine s2 rfl fun _ _hb=>?_ |refine s3 rfl ?_ ?_<;>rintro rfl |refine aU rfl ?_ |refine Aa ?_)
 refine rG (HW [21]) (by kernel_rfl) ?_
 (repeat first |refine sN rfl ?_ |((first|refine sA rfl ?_ ?_|refine s4 rfl ‹_› rfl ?_ ?_);first|exact tI|omega|simp only[oZ] at *;omega) |refine s2 rfl fun _ _hb=>?_|(refine Ag rfl ?_;refine gA rfl ?_;first|refine gS (fun _ _=>Ed rfl ra) ?_|refine gS (fun _ _=>Ed rfl rb) ?_) |refine s3 rfl ?_ ?_<;>rintro rfl |refine aU rfl ?_ |refine Aa ?_)
 (refine pW rfl ?_ rfl (by rfl);refine Aw rfl rfl rfl (by first|(simp;done)|(simp;(first|omega|simp only[oZ] at *;omega))) rfl (by intro r hr;simp at hr;subst hr;rfl) (by rfl) (Nat.le_of_ble_eq_true rfl) (by simp;omega) ?_)
 (repeat first |refine sN rfl ?_ |((first|refine sA rfl ?_ ?_|refine s4 rfl ‹_› rfl ?_ ?_);first|exact tI|omega|simp only[oZ] at *;omega) |refine s2 rfl fun _ _hb=>?_ |refine s3 rfl ?_ ?_<;>rintro rfl |refine aU rfl ?_ |refine Aa ?_)
 refine aR ⟨_,rfl,by simp,rfl,by simp [kill]⟩
theorem K2{a b:AN}(ha:Ay a=true)(hb:Ay b=true){f0:FuncId}{op:Bool→Bool→Bool}(hop:∀x y,Pure Tryz.prog TB f0 [eB x,eB y] (eB (op x y)))(i j:Int)(hi:0≤i∧i < a.nx.length)(hj:0≤j∧j < b.nx.length) :
 Pure Tryz.prog TB 170 [AT a,AT b,eI .i64 i,eI .i64 j,.o (.d (da f0))] (NJ (Gp (JR a b (i*b.nx.length+j) op))):=by
 have hah:=Ar ha
 have hbh:=Ar hb
 have hta:=Gc (TB:=TB) a ha
 have htb:=Gc (TB:=TB) b hb
 have hm:0≤i*(b.nx.length:Int)∧(i+1)*(b.nx.length:Int)≤a.nx.length*b.nx.length:=⟨Int.mul_nonneg hi.1 (by omega),Int.mul_le_mul_of_nonneg_right (by omega) (by omega)⟩
 have hm1:(i+1)*(b.nx.length:Int)=i*b.nx.length+b.nx.length:=by rw [Int.add_mul];omega
 have hN:a.nx.length*b.nx.length≤144:=Nat.mul_le_mul (show a.nx.length≤12 by omega) (show b.nx.length≤12 by omega)
 have hNi:((a.nx.length:Int)*b.nx.length)≤144:=by rw [←Int.natCast_mul];omega
 have hs0:0≤i*(b.nx.length:Int)+j∧i*(b.nx.length:Int)+j < a.nx.length*b.nx.length:=by omega
 have hg:=UQ (op:=op) (s0:=i*b.nx.length+j) ha hb hs0
 have hla:(Ey a).length=a.nx.length:=by simp [Ey,Bl]
 have hlb:(Ey b).length=b.nx.length:=by simp [Ey,Bl]
 have hfp:Pure Tryz.prog TB 200 [eI .i64 ((a.nx.length:Int)*b.nx.length),Ai [i*b.nx.length+j],Ai (Ac a.al),.o (.fn 199 [.ip [.l (Ey a)],.ip [iD b.nx.length],.ip [.l (Ey b)]]),.o (.fn 201 [.ip [da f0],.ip (Bn a),.ip [iD b.nx.length],.ip (Bn b)])]
  (NJ (Gp (JR a b (i*b.nx.length+j) op))):=by
  rw [←Int.natCast_mul]
  exact NM hg (show a.nx.length*b.nx.length≤1048576 by omega) (fun x hx=>by have:=Au hx;omega) (AM _ 6) (fun node l hn hl=>by
   have h1:1≤a.nx.length*b.nx.length:=Nat.mul_pos (show 0 < a.nx.length by omega) (show 0 < b.nx.length by omega)
   exact h1) (UA ha hb) (fun n hn=>UB ha hb hop n hn) rfl (fun r=>rfl) (fun r=>rfl) (Fa _)
 refine eN Tryz.func170 rfl (by kernel_rfl) rfl ?_;intro Γ hΓ
 (repeat first |refine sN rfl ?_ |((first|refine sA rfl ?_ ?_|refine s4 rfl ‹_› rfl ?_ ?_);first|exact tI|omega|simp only[oZ] at *;omega) |refine s2 rfl fun _ _hb=>?_ |refine s3 rfl ?_ ?_<;>rintro rfl |refine aU rfl ?_ |refine Aa ?_)
 refine R.XV [(0,2),(1,2),(2,2),(3,2),(4,3),(5,3),(6,5),(7,5)] mixed (by kernel_rfl) rfl (by kernel_rfl) ?_
 (repeat ((refine R.Ag rfl ?_;first |(refine R.yQ (md:=false) rfl rfl rfl ?_ ?_;first|exact tI|omega|simp only[oZ] at *;omega) |(refine R.yB rfl rfl rfl ?_;intro _ _hb) |refine R.yS rfl rfl rfl ?_ |refine R.yP rfl rfl rfl rfl ?_ |refine R.yA rfl rfl rfl rfl ?_ |refine R.yW rfl rfl rfl ?_|refine R.CK (fun _ _ _=>BL rfl rfl rfl (hta) rfl) rfl rfl ?_|refine R.CK (fun _ _ _=>BL rfl rfl rfl (htb) rfl) rfl rfl ?_ |refine R.bE rfl rfl ?_ |(refine R.yG rfl rfl ?_ ?_<;>intro hb<;>subst hb) )))
 refine R.XC ?_
 refine aS ?_
 refine Ak.DW [0,1] [2,3,5,6,9] rfl [(12,.o (.ip [.l (Ey a)])),(13,.o (.ip [.l (Ey b)]))] ⟨⟨_,rfl,.o (.ptr (by simp) rfl rfl rfl)⟩,⟨_,rfl,.o (.ptr (by simp) rfl rfl rfl)⟩,trivial⟩ ?_;(try dsimp only[cA,cB])
 refine cL (by kernel_rfl) ?_;(repeat first |refine sN rfl ?_ |((first|refine sA rfl ?_ ?_|refine s4 rfl ‹_› rfl ?_ ?_);first|exact tI|omega|simp only[oZ] at *;omega) |refine s2 rfl fun _ _hb=>?_ |refine s3 rfl ?_ ?_<;>rintro rfl);refine Aa ?_
 simp only [List.length_range]
 refine aS ?_
 refine Ak.DW [2] [2,3,5,6,9,12,13] rfl [(14,.o (.ip [iD b.nx.length]))] ⟨⟨_,rfl,.o (.ptr (by simp) rfl rfl rfl)⟩,trivial⟩ ?_;(try dsimp only[cA,cB])
 (repeat first |refine sN rfl ?_ |((first|refine sA rfl ?_ ?_|refine s4 rfl ‹_› rfl ?_ ?_);first|exact tI|omega|simp only[oZ] at *;omega) |refine s2 rfl fun _ _hb=>?_ |refine s3 rfl ?_ ?_<;>rintro rfl |refine aU rfl ?_ |refine Aa ?_)
 refine rG (HW []) (by kernel_rfl) ?_
 have hlo:=CD (TB:=TB) a.al
 (repeat first |refine sN rfl ?_ |((first|refine sA rfl ?_ ?_|refine s4 rfl ‹_› rfl ?_ ?_);first|exact tI|omega|simp only[oZ] at *;omega) |refine s2 rfl fun _ _hb=>?_ |refine s3 rfl ?_ ?_<;>rintro rfl |refine aU rfl ?_ |refine Aa ?_)
 simp only [List.length_range]
 (repeat first |refine sN rfl ?_ |((first|refine sA rfl ?_ ?_|refine s4 rfl ‹_› rfl ?_ ?_);first|exact tI|omega|simp only[oZ] at *;omega) |refine s2 rfl fun _ _hb=>?_ |refine sP rfl (hlo) rfl ?_|refine sP rfl (hfp) rfl ?_ |refine s3 rfl ?_ ?_<;>rintro rfl |refine aU rfl ?_ |refine Aa ?_)
 refine aR ⟨_,rfl,rfl⟩
theorem DO(a b:AN):Pure Tryz.prog TB 123 [AT a,AT b] (NJ (EC a b)):=by
 by_cases hv:Cj a b=true
 ·have hv2:=hv
  unfold Cj at hv2
  simp only [Bool.and_eq_true,decide_eq_true_eq] at hv2
  obtain⟨⟨ha,hb⟩,_⟩:=hv2
  have hah:=Ar ha
  have hbh:=Ar hb
  have hd:EC a b=Gp (JR a b 0 bne):=by unfold EC;rw [if_pos hv,Lj ha hb (fun x y=>by simp) (.inl rfl)]
  have hf:=K2 (TB:=TB) ha hb Qk 0 0 ⟨by omega,by omega⟩ ⟨by omega,by omega⟩
  have hf2:Pure Tryz.prog TB 170 [AT a,AT b,eI .i64 0,eI .i64 0,.o (.fn 171 [])] (NJ (Gp (JR a b 0 bne))):=by
   have:=Spec.cY (l:=[AT a,AT b,eI .i64 0,eI .i64 0]) (m:=[]) hf
   rw [Int.zero_mul,Int.zero_add] at this
   exact this
  rw [hd]
  refine eN Tryz.func123 rfl (by kernel_rfl) rfl ?_;intro Γ hΓ
  (repeat' first |refine sN rfl ?_ |((first|refine sA rfl ?_ ?_|refine s4 rfl ‹_› rfl ?_ ?_);first|exact tI|omega|simp only[oZ] at *;omega) |refine s2 rfl fun _ _hb=>?_ |(refine sC rfl (Em a b) ?_;intro _ _hb)|refine sP rfl (hf2) rfl ?_ |refine s3 rfl ?_ ?_<;>rintro rfl |refine aU rfl ?_ |refine Aa ?_ |refine rE (by kernel_rfl) ?_|(refine aC rfl ?_ ?_<;>rintro⟨⟩)|refine aK ?_|refine aE ?_|refine aB ?_|refine aR ⟨_,rfl,?_⟩)
  all_goals first
   | rfl
   | (exfalso;grind;done)
 ·have hd:EC a b=none:=by unfold EC;rw [if_neg hv]
  rw [hd]
  refine eN Tryz.func123 rfl (by kernel_rfl) rfl ?_;intro Γ hΓ
  (repeat' first |refine sN rfl ?_ |((first|refine sA rfl ?_ ?_|refine s4 rfl ‹_› rfl ?_ ?_);first|exact tI|omega|simp only[oZ] at *;omega) |refine s2 rfl fun _ _hb=>?_ |(refine sC rfl (Em a b) ?_;intro _ _hb) |refine s3 rfl ?_ ?_<;>rintro rfl |refine aU rfl ?_ |refine Aa ?_ |refine rE (by kernel_rfl) ?_|(refine aC rfl ?_ ?_<;>rintro⟨⟩)|refine aK ?_|refine aE ?_|refine aB ?_|refine aR ⟨_,rfl,?_⟩)
  all_goals first
   | rfl
   | (exfalso;grind;done)
theorem P4(a b:AN):Pure Tryz.prog TB 54 [AT a,AT b] (eB (Cj a b && (EC a b).isNone)):=by
 refine eN Tryz.func54 rfl (by kernel_rfl) rfl ?_;intro Γ hΓ
 (repeat' first |refine sN rfl ?_ |((first|refine sA rfl ?_ ?_|refine s4 rfl ‹_› rfl ?_ ?_);first|exact tI|omega|simp only[oZ] at *;omega) |refine s2 rfl fun _ _hb=>?_ |refine sP rfl (DO a b) rfl ?_|(refine sC rfl (Em a b) ?_;intro _ _hb) |refine s3 rfl ?_ ?_<;>rintro rfl |refine aU rfl ?_ |refine Aa ?_ |refine rE (by kernel_rfl) ?_|(refine aC rfl ?_ ?_<;>rintro⟨⟩)|refine aK ?_|refine aE ?_|refine aB ?_|refine aR ⟨_,rfl,?_⟩)
 all_goals (show E.o _=E.o _;congr;grind)
theorem Ho{c:C}{L:W→Bool}{ok:W→Prop}(hc:HX Tryz.prog TB c L ok)(al:Int)(t:A2)(hf:JG ok (AP al) t)(ht:ER al 20012 t)(ho:A5 L (AP al) t=none) :
 Pure Tryz.prog TB 95 [Gw al c,CY t] (AT (AK L al t)):=by
 have hr:=DZ c hc.BU
 have hrl:=ht.rl
 have hcl:=ht.cl
 have hla:(Ac al).length≤6:=AM al 6
 have hask:=ht.aM hf (by omega)
 have hnl:(AK L al t).nx.length=t.rows.length:=by simp [AK]
 have hal:(AK L al t).ac.length=t.rows.length:=by simp [AK]
 refine Bi.E3 (Bi.ofM 3 (Nat.le_refl _) Tryz.func95 rfl rfl (by kernel_rfl) (Nat.le_of_ble_eq_true rfl) ?_);intro Γ hΓ
 (repeat first|refine aU rfl ?_)
 (refine pW rfl ?_ rfl (by rfl);refine Dr rfl rfl ?_)
 (refine Ag rfl ?_;refine CK (fun _ _=>Dc rfl rfl rfl) rfl ?_)
 (repeat first|refine tA rfl ?_ |refine aU rfl ?_ |refine Aa ?_)
 (refine pW rfl ?_ rfl (by rfl);refine AD [] rfl rfl (Hu hc al t hask.1) ⟨rfl,by simp,by simp⟩ (by simp [DK,E.A0,C.Bz,C.A0,hr,eC]) trivial ?_;rintro x0 σ1 nx1 ⟨rfl,rfl,rfl⟩ _)
 (repeat first|refine tA rfl ?_ |refine aU rfl ?_ |refine Aa ?_)
 (refine pW rfl ?_ rfl (by rfl);refine Fk 1 1 75 2 1 4 rfl rfl (by decide) rfl rfl (by rfl) (by rfl) ?_)
 (repeat first|refine sN rfl ?_ |refine tA rfl ?_ |refine aU rfl ?_ |refine Aa ?_)
 refine aB ?_
 refine Ak.AZ (α:={k:Nat // k≤t.rows.length}) (fun ⟨k,hkl⟩=>[(2,.o (.ptr 0 2 0 0)),(3,.o (.ip (PQ t))),(4,.o (.ptr 1 3 0 0)),(5,.o (.mp 2)),(6,.o (.ptr 3 3 0 0)),(19,.o (.d (A7 t.rows))),(20,eI .i64 t.rows.length),(21,eI .i64 k)]) (fun ⟨k,hkl⟩=>[(0,.cells 90 2 [[.d (iD al),c]]),(1,.cells 41 3 [[.d (iD 0),.d (.l []),.d (.l [])]]),(2,.mp (DQ (Bs L t t.rows.length))),(3,.cells 41 3 [[.d (iD al),.arr 4 1 0 k,.arr 5 1 0 k]]),(4,.cells 75 1 (((AK L al t).nx.take k).map fun r=>[.d (CO r)])),(5,.cells 4 1 (((AK L al t).ac.take k).map fun b=>[.d (bD b)]))]) 6 (fun ⟨k,hkl⟩=>t.rows.length - k) (⟨0,by omega⟩) [0,1,2,5,3,4] (DB hΓ rfl rfl) (by (simp[cX,zC,hΓ,hr,eC,Ab.A0,BR,Gl,BX,Aj])) ?_;rintro⟨k,hkl⟩;(try dsimp only)
 (repeat first|refine s2 rfl fun _ _hb=>?_ |refine aU rfl ?_ |refine Aa ?_)
 (refine aC rfl ?_ ?_<;>rintro⟨⟩)
 ·have hlt:k < t.rows.length:=by (simp only[oZ] at *;omega)
  obtain⟨r,hx⟩:=get_some (l:=t.rows) (k:=k) hlt
  have hx':=get_map (g:=Cm) hx
  have hxm:=List.mem_of_getElem? hx
  refine aK ?_
  refine aS (aB ?_)
  (repeat first|refine tM rfl ?_ |(refine s4 rfl ‹_› rfl ?_ ?_;omega) |refine aU rfl ?_ |refine Aa ?_)
  (refine pW rfl ?_ rfl (by rfl);refine IB 1 3 ?_)
  (repeat first|refine sN rfl ?_ |refine tM rfl ?_ |refine sP rfl (CD al) rfl ?_ |refine aU rfl ?_ |refine Aa ?_)
  refine aB ?_
  refine Ak.AZ (α:={j:Nat // j≤(Ac al).length}) (fun ⟨j,hjl⟩=>[(2,.o (.ptr 0 2 0 0)),(3,.o (.ip (PQ t))),(4,.o (.ptr 1 3 0 0)),(5,.o (.mp 2)),(6,.o (.ptr 3 3 0 0)),(19,.o (.d (A7 t.rows))),(20,eI .i64 t.rows.length),(21,eI .i64 k),(8,eT r),(9,.o (.arr 6 1 0 j)),(27,Ai (Ac al)),(28,eI .i64 (Ac al).length),(29,eI .i64 j)]) (fun ⟨j,hjl⟩=>[(0,.cells 90 2 [[.d (iD al),c]]),(1,.cells 41 3 [[.d (iD 0),.d (.l []),.d (.l [])]]),(2,.mp (DQ (Bs L t t.rows.length))),(3,.cells 41 3 [[.d (iD al),.arr 4 1 0 k,.arr 5 1 0 k]]),(4,.cells 75 1 (((AK L al t).nx.take k).map fun r=>[.d (CO r)])),(5,.cells 4 1 (((AK L al t).ac.take k).map fun b=>[.d (bD b)])),(6,.cells 3 1 (((Ac al).take j).map fun l=>[.d (iD ((Cv L t (r++[lb l]):Nat):Int))]))]) 7 (fun ⟨j,hjl⟩=>(Ac al).length - j) (⟨0,by omega⟩) [0,1,2,3,4,5,6] (DB hΓ rfl rfl) (by (simp[cX,zC,hΓ,hr,eC,Ab.A0,BR,Gl])) ?_;rintro⟨j,hjl⟩;(try dsimp only)
  (repeat first|refine s2 rfl fun _ _hb=>?_ |refine aU rfl ?_ |refine Aa ?_)
  (refine aC rfl ?_ ?_<;>rintro⟨⟩)
  ·have hjlt:j < (Ac al).length:=by (simp only[oZ] at *;omega)
   obtain⟨l,hl⟩:=get_some (l:=Ac al) (k:=j) hjlt
   have hl':=get_map (g:=Bk) hl
   have hlm:=List.mem_of_getElem? hl
   have hlb:=Au hlm
   have hrb:=ht.onR r hxm
   have hm:=Lh (TB:=TB) hc al t (r++[lb l]) (by omega) (fun x hx=>hask.2 r hxm _ (List.mem_map.2 ⟨l,hlm,rfl⟩) x hx) (fun y hy=>by have:=(ht.onC y hy).2;simp;omega)
   have hlk:=Vn ho hxm hlm
   refine aK ?_
   refine aS (aB ?_)
   (repeat first|refine tA rfl ?_ |(refine s4 rfl ‹_› rfl ?_ ?_;omega) |refine aU rfl ?_ |refine Aa ?_)
   refine rG (HW [13]) (by kernel_rfl) ?_
   (repeat first|(refine sA rfl ?_ ?_;first|exact tI|omega|simp only[oZ] at *;omega) |refine sP rfl (EY l hlb.1 (by omega)) rfl ?_|(refine Ag rfl ?_;refine gA rfl ?_;first| refine gS (fun _ _=>Wi rfl (by omega) (by omega)) ?_))
   rw [Ys hlb.1]
   (repeat first| (refine Ag rfl ?_;refine gA rfl ?_;first| refine gS (fun _ _=>BL rfl rfl (by simp [E.BU,C.CE,C.BU,hc.BU]) hm rfl) ?_|refine gQ (XP rfl rfl rfl) (by rfl) ?_))
   (repeat first|refine tA rfl ?_)
   (refine pW rfl ?_ rfl (by rfl);refine Aw rfl rfl rfl (by first| (simp;done)|(simp;(omega))) rfl (by intro r hr;simp at hr;subst hr;rfl) (by rfl) (Nat.le_of_ble_eq_true rfl) (by simp;omega) ?_)
   (repeat first|(refine sA rfl ?_ ?_;first|exact tI|omega) |refine aU rfl ?_ |refine Aa ?_)
   rw [hlk]
   refine⟨⟨j+1,by omega⟩,by dsimp only;(omega),[0,1,2,3,4,5,7],?_⟩
   simp[cX,zC,hΓ,hr,List.take_add_one,hl]
  ·obtain rfl:j=(Ac al).length:=by (simp only[oZ] at *;omega)
   have hok:=hf r ⟨r,hxm,[],.inl rfl,[],.inl rfl,by simp⟩
   have hnx:(AK L al t).nx.take (k+1)=(AK L al t).nx.take k++[(Ac al).map fun l=>((Cv L t (r++[lb l]):Nat):Int)]:=by
    rw [List.take_add_one];simp [AK,hx]
   have hac:(AK L al t).ac.take (k+1)=(AK L al t).ac.take k++[L r]:=by
    rw [List.take_add_one];simp [AK,hx]
   refine aE ?_
   rw [List.take_length]
   refine Ak.DW [6] [2,3,4,5,6,8,19,20,21] rfl [(9,Ai ((Ac al).map fun l=>((Cv L t (r++[lb l]):Nat):Int)))] ⟨⟨_,rfl,.o (.full (by simp) rfl (by simp [Function.comp_def]) (by simp))⟩,trivial⟩ ?_;(try dsimp only[cA,cB])
   (repeat first|refine tA rfl ?_ |refine aU rfl ?_)
   (refine pW rfl ?_ rfl (by rfl);refine Aw rfl rfl rfl (by first| (simp;done)|(simp;(omega))) rfl (by intro r hr;simp at hr;subst hr;rfl) (by rfl) (Nat.le_of_ble_eq_true rfl) (by simp;omega) ?_)
   (repeat first|refine tA rfl ?_ |refine Aa ?_)
   refine rG (HW [7,9]) (by kernel_rfl) ?_
   (repeat first|refine tA rfl ?_|(refine Ag rfl ?_;refine gA rfl ?_;first| refine gS (fun _ _=>hc.ask rfl rfl hok) ?_))
   (refine pW rfl ?_ rfl (by rfl);refine Aw rfl rfl rfl (by first| (simp;done)|(simp;(omega))) rfl (by intro r hr;simp at hr;subst hr;rfl) (by rfl) (Nat.le_of_ble_eq_true rfl) (by simp;omega) ?_)
   (repeat first|(refine sA rfl ?_ ?_;first|exact tI|omega) |refine aU rfl ?_ |refine Aa ?_)
   refine⟨⟨k+1,by omega⟩,by dsimp only;(omega),[0,1,2,3,7,8],?_⟩
   simp[cX,zC,hΓ,hr,eC,Ab.A0,BR,Gl,BX,Aj,hnx,hac]
 ·obtain rfl:k=t.rows.length:=by (simp only[oZ] at *;omega)
  have ht1:(AK L al t).nx.take t.rows.length=(AK L al t).nx:=List.take_of_length_le (by simp [AK])
  have ht2:(AK L al t).ac.take t.rows.length=(AK L al t).ac:=List.take_of_length_le (by simp [AK])
  rw [ht1,ht2]
  refine aE ?_
  (repeat first|refine tM rfl ?_ |refine aU rfl ?_ |refine Aa ?_)
  refine Ak.settle [(4,.o (.ip [iD al,Cf (AK L al t).nx,EK (AK L al t).ac]))] ⟨⟨_,rfl,.o (.box rfl (.cons .d (.cons (.full rfl (by simp [Function.comp_def]) (by simp [AK])) (.cons (.full rfl (by simp [Function.comp_def]) (by simp [AK])) .nil))))⟩,trivial⟩ ?_
  refine aR ⟨_,rfl,rfl⟩
theorem Ig{c:C}{L:W→Bool}{ok:W→Prop}(hc:HX Tryz.prog TB c L ok)(al:Int)(t:A2)(hf:Hy ok al)(ht:ER al 20012 t)(ho:A5 L (AP al) t=none) :
 Pure Tryz.prog TB 95 [Gw al c,CY t] (AT (AK L al t)):=Ho hc al t (ht.on hf (by omega)) ht ho
theorem GF(w:W)(i:Nat)(c:UInt8)(hc:w[((i:Nat):Int).toNat]? = some c)(hl:0≤(c.toNat:Int) - 97∧(c.toNat:Int) - 97 < 6):Pure Tryz.prog TB 119 [eT w,eI .i64 i] (eI .i64 ((c.toNat:Int) - 97)):=by
 refine eN Tryz.func119 rfl (by kernel_rfl) rfl ?_;intro Γ hΓ
 (repeat' first|(refine sA rfl ?_ ?_;first|exact tI|omega) |(refine s4 rfl ‹_› rfl ?_ ?_;omega) |refine s2 rfl fun _ _hb=>?_ |refine s3 rfl ?_ ?_<;>rintro rfl |refine aU rfl ?_ |refine Aa ?_|(refine aC rfl ?_ ?_<;>rintro⟨⟩)|refine aK ?_|refine aE ?_|refine aB ?_|refine aR ⟨_,rfl,?_⟩)
 all_goals first
  | rfl
  | (exfalso;grind)
abbrev WN(kn:Bool)(p:AN)(s:Sys)(q:AN)(al:Int):List D:=[bD kn,iD p.al,Cf p.nx,EK p.ac,iD s.al,iD s.st,KZ s.es,iD q.al,Cf q.nx,EK q.ac,iD al]
theorem FR{ls:List UInt8}{w:W}(h:Al ls w)(k:Nat):Al ls (w.take k):=fun c hc=>h c (List.mem_of_mem_take hc)
theorem XJ{ls:List UInt8}{w:W}(h:Al ls w)(k:Nat):Al ls (w.drop k):=fun c hc=>h c (List.mem_of_mem_drop hc)
theorem Nk{p:AN}{w:W}{k:Nat}{c:UInt8}(hc:w[k]? = some c)(q:Int):AL p q (w.take (k+1))=Bm p (AL p q (w.take k)).toNat ((c.toNat:Int) - 97):=by
 rw [List.take_add_one,hc,Ck];rfl
theorem Jx{L:W→Bool}{t:A2}{w:W}{k:Nat}{c:UInt8}(hc:w[k]? = some c)(q:Nat):runM L t q (w.take (k+1))=Cv L t (t.rows.getD (runM L t q (w.take k)) []++[c]):=by
 rw [List.take_add_one,hc,GP];rfl
theorem Xi{p:AN}(hp:Ay p=true)(s:Sys)(q:AN)(al:Int)(kn:Bool)(w:W)(hw:Al (AP p.al) w)(hl:w.length≤1048576) :
 Pure Tryz.prog TB 134 [eT w,.o (.ip [.l (Ey p)]),.o (.ip (WN kn p s q al))] (eB (LA p w)):=by
 have hph:=Ar hp
 refine eN Tryz.func134 rfl (by kernel_rfl) rfl ?_;intro Γ hΓ
 (repeat first|refine tA rfl ?_ |refine aU rfl ?_ |refine Aa ?_)
 refine aB ?_
 refine aL (α:={k:Nat // k≤w.length}) [0,1,2,8] [] rfl rfl (fun ⟨k,hk⟩=>[(5,eI .i64 (AL p 0 (w.take k))),(9,eI .i64 k)]) (fun ⟨k,hk⟩=>[]) 0 (fun ⟨k,hk⟩=>w.length - k) (⟨0,by omega⟩) hΓ rfl (by (simp[cX,zC,hΓ]<;>rfl)) ?_;rintro⟨k,hk⟩;(try dsimp only[cA,cB])
 have hr:=Dg hp (w.take k) 0 (FR hw k) (by omega)
 by_cases hlt:k < w.length
 ·obtain⟨c,hc⟩:=get_some hlt
  have hc':w[((k:Nat):Int).toNat]? = some c:=by simpa using hc
  have hcl:=FK (hw c (List.mem_of_getElem? hc))
  have hla:=GF (TB:=TB) w k c hc' hcl
  have ta:=Hj (a:=p) (q:=(AL p 0 (w.take k)).toNat) (by omega)
  have el:((((c.toNat:Int) - 97).toNat:Nat):Int)=(c.toNat:Int) - 97:=by omega
  have ra:=Fp (h:=fun l=>Bm p (AL p 0 (w.take k)).toNat l) hcl.1 (by omega)
  simp only [el] at ra
  have hst:=Nk (p:=p) hc 0
  (repeat first|refine s2 rfl fun _ _hb=>?_ |refine aU rfl ?_ |refine Aa ?_)
  (refine aC rfl ?_ ?_<;>rintro⟨⟩)
  ·(repeat' first|(refine sA rfl ?_ ?_;first|exact tI|omega) |(refine s4 rfl ‹_› rfl ?_ ?_;omega) |refine sP rfl (hla) rfl ?_|(refine Ag rfl ?_;refine gA rfl ?_;first| refine gS (fun _ _=>Ed rfl ra) ?_) |refine aU rfl ?_ |refine Aa ?_ |refine rE (by kernel_rfl) ?_|(refine aC rfl ?_ ?_<;>rintro⟨⟩)|refine aK ?_|refine aE ?_|refine aB ?_|refine aR ⟨_,rfl,?_⟩)
   refine⟨⟨k+1,by omega⟩,by dsimp only;(omega),[],?_⟩
   simp[cX,zC,hΓ,hst]
  ·exfalso;(simp only[oZ] at *;omega)
 ·obtain rfl:k=w.length:=by omega
  rw [List.take_length] at *
  obtain⟨b,hb⟩:=get_some (l:=p.ac) (k:=(AL p 0 w).toNat) (by omega)
  have hb':(p.ac.map Fb)[(AL p 0 w).toNat]? = some (Fb b):=by simp [hb]
  have hbl:LA p w=b:=by unfold LA;simp [List.getD,hb]
  rw [hbl]
  (repeat first|refine s2 rfl fun _ _hb=>?_ |refine aU rfl ?_ |refine Aa ?_)
  (refine aC rfl ?_ ?_<;>rintro⟨⟩)
  ·exfalso;(simp only[oZ] at *;omega)
  ·(repeat' first|refine tA rfl ?_ |(refine s4 rfl ‹_› rfl ?_ ?_;omega) |refine aU rfl ?_ |refine Aa ?_|(refine aC rfl ?_ ?_<;>rintro⟨⟩)|refine aK ?_|refine aE ?_|refine aB ?_|refine aR ⟨_,rfl,?_⟩)
   rfl
def BP(L:W→Bool)(t:A2)(w:W):Option W:=if Hl L t w=L w then none else splitAt L t (L w) 0 w
theorem IS{L:W→Bool}{t:A2}{b:Bool}{w:W}{k q:Nat}{c:UInt8}(hc:w[k]? = some c):splitAt L t b q (w.drop k)=if L (t.rows.getD (Cv L t (t.rows.getD q []++[c])) []++w.drop (k+1))≠b then some (w.drop (k+1)) else splitAt L t b (Cv L t (t.rows.getD q []++[c])) (w.drop (k+1)):=by
 rw [CA hc,splitAt]
def Uw(t:A2)(w v:W):Prop:=∃r,(r=[]∨r∈t.rows)∧∃k:Nat,v=r++w.drop k
theorem Mx{c:C}{L:W→Bool}{ok:W→Prop}(hc:HX Tryz.prog TB c L ok)(al:Int)(t:A2)(hf:JG ok (AP al) t)(ht:ER al 20012 t)(hal:BW al=true)(hcl:A3 L (AP al) t)(ho:A5 L (AP al) t=none)(w:W)(hfs:∀v,Uw t w v→ok v)(hw:Al (AP al) w)(hwl:w.length≤20000) :
 Pure Tryz.prog TB 85 [Gw al c,CY t,eT w] (Tj (BP L t w)):=by
 have hr:=DZ c hc.BU
 have hrl:=ht.rl
 have hau:=Ho (TB:=TB) hc al t hf ht ho
 have haok:=GY hal hcl hrl
 have hta:=Gc (TB:=TB) (AK L al t) haok
 have hnl:(AK L al t).nx.length=t.rows.length:=by simp [AK]
 have h0:0 < t.rows.length:=(List.getElem?_eq_some_iff.1 hcl.r0).1
 have hokw:=hfs w ⟨[],.inl rfl,0,rfl⟩
 have hpu:([Gw al c,CY t].all E.BU && C.CE [])=true:=by simp [E.BU,C.CE,C.BU,hc.BU]
 refine eN Tryz.func85 rfl (by kernel_rfl) rfl ?_;intro Γ hΓ
 (repeat first|refine aU rfl ?_)
 (refine pW rfl ?_ rfl (by rfl);refine Dr rfl rfl ?_)
 (refine Ag rfl ?_;refine CK (fun _ _=>Dc rfl rfl rfl) rfl ?_)
 (repeat first|refine tA rfl ?_ |refine aU rfl ?_ |refine Aa ?_)
 (repeat first|refine tA rfl ?_|(refine Ag rfl ?_;refine gA rfl ?_;first| refine gS (fun _ _=>BL rfl rfl hpu hau rfl) ?_) |refine aU rfl ?_ |refine Aa ?_)
 (repeat first|refine tA rfl ?_ |refine sP rfl (hta) rfl ?_ |refine aU rfl ?_ |refine Aa ?_)
 refine aB ?_
 refine aL (α:={k:Nat // k≤w.length}) [2,3,4,8,9,20] [0,1] rfl rfl (fun ⟨k,hk⟩=>[(10,eI .i64 (runM L t 0 (w.take k):Nat)),(21,eI .i64 k)]) (fun ⟨k,hk⟩=>[]) 2 (fun ⟨k,hk⟩=>w.length - k) (⟨0,by omega⟩) hΓ rfl (by (simp[cX,zC,hΓ,hr]<;>rfl)) ?_;rintro⟨k,hk⟩;(try dsimp only[cA,cB])
 have hrn:=hcl.run (w.take k) 0 (FR hw k) h0
 by_cases hlt:k < w.length
 ·obtain⟨c2,hc2⟩:=get_some hlt
  have hc':w[((k:Nat):Int).toNat]? = some c2:=by simpa using hc2
  have hcm:=hw c2 (List.mem_of_getElem? hc2)
  have hcn:=FK hcm
  have hla:=GF (TB:=TB) w k c2 hc' hcn
  have ta:=Hj (a:=AK L al t) (q:=(((runM L t 0 (w.take k):Nat):Int)).toNat) (by omega)
  have el:((((c2.toNat:Int) - 97).toNat:Nat):Int)=(c2.toNat:Int) - 97:=by omega
  have ra:=Fp (h:=fun l=>Bm (AK L al t) (((runM L t 0 (w.take k):Nat):Int)).toNat l) hcn.1 (by omega)
  simp only [el] at ra
  have hga:=Iq (L:=L) (al:=al) (t:=t) (q:=runM L t 0 (w.take k)) hrn hcm
  have hst:=Jx (L:=L) (t:=t) hc2 0
  rw [←hst] at hga
  rw [Int.toNat_natCast,hga] at ra
  (repeat first|refine s2 rfl fun _ _hb=>?_ |refine aU rfl ?_ |refine Aa ?_)
  (refine aC rfl ?_ ?_<;>rintro⟨⟩)
  ·(repeat' first|(refine sA rfl ?_ ?_;first|exact tI|omega) |(refine s4 rfl ‹_› rfl ?_ ?_;omega) |refine sP rfl (hla) rfl ?_|(refine Ag rfl ?_;refine gA rfl ?_;first| refine gS (fun _ _=>Ed rfl ra) ?_) |refine aU rfl ?_ |refine Aa ?_ |refine rE (by kernel_rfl) ?_|(refine aC rfl ?_ ?_<;>rintro⟨⟩)|refine aK ?_|refine aE ?_|refine aB ?_|refine aR ⟨_,rfl,?_⟩)
   refine⟨⟨k+1,by omega⟩,by dsimp only;(omega),[0,1],?_⟩
   simp[cX,zC,hΓ,hr]
  ·exfalso;(simp only[oZ] at *;omega)
 ·obtain rfl : k=w.length:=by omega
  rw [List.take_length] at *
  (repeat first|refine s2 rfl fun _ _hb=>?_ |refine aU rfl ?_ |refine Aa ?_)
  (refine aC rfl ?_ ?_<;>rintro⟨⟩)
  ·exfalso;(simp only[oZ] at *;omega)
  ·refine aE ?_
   have hacx:((AK L al t).ac.map Fb)[(((runM L t 0 w:Nat):Int)).toNat]? = some (Fb (Hl L t w)):=by
    unfold Hl
    simp [AK,List.getD,hrn]
   (repeat first|refine tA rfl ?_ |(refine s4 rfl ‹_› rfl ?_ ?_;omega) |refine s2 rfl fun _ _hb=>?_|(refine Ag rfl ?_;refine gA rfl ?_;first| refine gS (fun _ _=>hc.ask rfl rfl hokw) ?_) |refine aU rfl ?_ |refine Aa ?_)
   (refine aC rfl ?_ ?_<;>rintro⟨⟩)
   ·have hn:BP L t w=none:=by unfold BP;rw [if_pos (by simpa using _hb)]
    (repeat first|refine tA rfl ?_ |refine aU rfl ?_ |refine Aa ?_)
    refine aR ⟨_,rfl,?_⟩
    rw [hn];rfl
   ·have hso:BP L t w=splitAt L t (L w) 0 w:=by unfold BP;rw [if_neg (by simpa using _hb)]
    rw [hso]
    refine aK ?_
    (repeat first|refine tA rfl ?_ |refine aU rfl ?_ |refine Aa ?_)
    refine aB ?_
    refine aL (α:={k:Nat // k≤w.length∧splitAt L t (L w) 0 w=splitAt L t (L w) (runM L t 0 (w.take k)) (w.drop k)}) [2,3,4,9,12,45] [0] rfl rfl (fun ⟨k,hk,he⟩=>[(10,eI .i64 (runM L t 0 (w.take k):Nat)),(46,eI .i64 k)]) (fun ⟨k,hk,he⟩=>[]) 1 (fun ⟨k,hk,he⟩=>w.length - k) (⟨0,by omega,rfl⟩) hΓ rfl (by (simp[cX,zC,hΓ,hr]<;>rfl)) ?_;rintro⟨k,hk,he⟩;(try dsimp only[cA,cB])
    have hrn:=hcl.run (w.take k) 0 (FR hw k) h0
    by_cases hlt:k < w.length
    ·obtain⟨c2,hc2⟩:=get_some hlt
     have hc':w[((k:Nat):Int).toNat]? = some c2:=by simpa using hc2
     have hcm:=hw c2 (List.mem_of_getElem? hc2)
     have hcn:=FK hcm
     have hla:=GF (TB:=TB) w k c2 hc' hcn
     have ta:=Hj (a:=AK L al t) (q:=(((runM L t 0 (w.take k):Nat):Int)).toNat) (by omega)
     have el:((((c2.toNat:Int) - 97).toNat:Nat):Int)=(c2.toNat:Int) - 97:=by omega
     have ra:=Fp (h:=fun l=>Bm (AK L al t) (((runM L t 0 (w.take k):Nat):Int)).toNat l) hcn.1 (by omega)
     simp only [el] at ra
     have hga:=Iq (L:=L) (al:=al) (t:=t) (q:=runM L t 0 (w.take k)) hrn hcm
     have hst:=Jx (L:=L) (t:=t) hc2 0
     have hrn2:=hcl.run (w.take (k+1)) 0 (FR hw (k+1)) h0
     rw [IS hc2,←hst] at he
     rw [←hst] at hga
     rw [Int.toNat_natCast,hga] at ra
     generalize hq2:runM L t 0 (w.take (k+1))=q2 at *
     obtain⟨r2,hr2⟩:=get_some (l:=t.rows) (k:=q2) hrn2
     have hr2':=get_map (g:=Cm) hr2
     have hgd:t.rows.getD q2 []=r2:=by simp [List.getD,hr2]
     rw [hgd] at he
     have hrb:=ht.onR r2 (List.mem_of_getElem? hr2)
     have hdl:(w.drop (k+1)).length=w.length - (k+1):=List.length_drop
     have hokv:=hfs (r2++w.drop (k+1)) ⟨r2,.inr (List.mem_of_getElem? hr2),k+1,rfl⟩
     have hk1:(((k:Nat):Int)+1).toNat=k+1:=by omega
     (repeat first|refine s2 rfl fun _ _hb=>?_ |refine aU rfl ?_ |refine Aa ?_)
     (refine aC rfl ?_ ?_<;>rintro⟨⟩)
     ·refine aK ?_
      refine aS (aB ?_)
      (repeat first|(refine sA rfl ?_ ?_;first|exact tI|omega) |(refine s4 rfl ‹_› rfl ?_ ?_;omega) |refine sP rfl (hla) rfl ?_|(refine Ag rfl ?_;refine gA rfl ?_;first| refine gS (fun _ _=>Ed rfl ra) ?_) |refine aU rfl ?_ |refine Aa ?_ |refine rE (by kernel_rfl) ?_)
      (repeat first| (refine Ag rfl ?_;refine gA rfl ?_;first| refine gS (fun _ _=>Dd rfl rfl (by omega) (by omega)) ?_))
      rw [hk1]
      (repeat first|(refine sA rfl ?_ ?_;first|exact tI|omega) |refine s2 rfl fun _ _hb=>?_|(refine Ag rfl ?_;refine gA rfl ?_;first| refine gS (fun _ _=>hc.ask rfl rfl hokv) ?_) |refine Aa ?_)
      (refine aC rfl ?_ ?_<;>rintro⟨⟩)
      ·rw [if_pos (by simpa using _hb)] at he
       (repeat first|(refine sA rfl ?_ ?_;first|exact tI|omega)|(refine Ag rfl ?_;refine gA rfl ?_;first| refine gS (fun _ _=>Dd rfl rfl (by omega) (by omega)) ?_) |refine aU rfl ?_ |refine Aa ?_)
       refine aR ⟨_,rfl,?_⟩
       rw [hk1,he];rfl
      ·rw [if_neg (by simpa using _hb)] at he
       refine aK ?_
       (repeat first|(refine sA rfl ?_ ?_;first|exact tI|omega) |refine aU rfl ?_ |refine Aa ?_)
       subst hq2
       refine⟨⟨k+1,by omega,he⟩,by dsimp only;(omega),[0],?_⟩
       simp[cX,zC,hΓ,hr]
     ·exfalso;(simp only[oZ] at *;omega)
    ·obtain rfl:k=w.length:=by omega
     rw [List.drop_length] at he
     (repeat first|refine s2 rfl fun _ _hb=>?_ |refine aU rfl ?_ |refine Aa ?_)
     (refine aC rfl ?_ ?_<;>rintro⟨⟩)
     ·exfalso;(simp only[oZ] at *;omega)
     ·refine aE ?_
      (repeat first|refine tA rfl ?_ |refine aU rfl ?_ |refine Aa ?_)
      refine aR ⟨_,rfl,?_⟩
      rw [he];rfl
theorem ER.ef{ok:W→Prop}{al:Int}{t:A2}(ht:ER al 20012 t)(hf:Hy ok al){w:W}(hw:Al (AP al) w)(hwl:w.length≤20000):∀v,Uw t w v→ok v:=by
 rintro v ⟨r,hr,k,rfl⟩
 have h1:Al (AP al) r∧r.length≤20012:=by
  rcases hr with rfl|hr
  ·exact⟨fun c hc=>by simp at hc,by simp⟩
  ·exact ht.onR r hr
 refine hf _ (fun c hc=>?_) (by simp;omega)
 rcases List.mem_append.1 hc with hc|hc
 ·exact h1.1 c hc
 ·exact XJ hw _ c hc
def Hv(L:W→Bool)(ls:List UInt8)(t:A2)(w:W):Option A2:=(BP L t w).bind fun v=>(ES t v).bind fun u=>A9 L ls 13 u
theorem J8{L:W→Bool}{t:A2}{b:Bool}:∀ {w:W} {q:Nat} {v:W},splitAt L t b q w=some v→∃p,p≠[]∧w=p++v
 | [],q,v,h=>by simp [splitAt] at h
 | c::w,q,v,h=>by
  unfold splitAt at h
  split at h
  ·injection h with h;subst h;exact⟨[c],by simp,rfl⟩
  ·obtain⟨p,_,h2⟩:=J8 h;exact⟨c::p,by simp,by rw [h2];rfl⟩
theorem HT{L:W→Bool}{t:A2}{w v:W}(h:BP L t w=some v):∃p,p≠[]∧w=p++v:=by
 unfold BP at h
 split at h
 ·cases h
 ·exact J8 h
theorem ER.mono{al:Int}{b b':Nat}{t:A2}(h:ER al b t)(hb:b≤b'):ER al b' t:=⟨fun w hw=>⟨(h.onR w hw).1,Nat.le_trans (h.onR w hw).2 hb⟩,h.onC,h.rl,h.cl⟩
theorem RJ{al:Int}{b:Nat}{t u:A2}{v:W}(h:ER al b t)(hv:Al (AP al) v)(hl:v.length≤20000)(ha:ES t v=some u):ER al b u:=by
 unfold ES at ha
 split at ha
 ·cases ha
 ·rename_i hn
  injection ha with ha
  subst ha
  refine⟨h.onR,fun x hx=>?_,h.rl,?_⟩
  ·rcases List.mem_append.1 hx with hx|hx
   ·exact h.onC x hx
   ·simp at hx;subst hx;exact⟨hv,hl⟩
  ·have:=h.cl
   have h2:t.cols.length≠20:=fun e=>hn (.inl e)
   simp;omega
def aO(L:W→Bool)(ls:List UInt8)(t:A2)(w v:W):Prop:=Ux ls t v∨Uw t w v∨∃x,BP L t w=some x∧∃u,ES t x=some u∧∃y∈Gg L ls 13 u,Ux ls y v
theorem Mq{c:C}{L:W→Bool}{ok:W→Prop}(hc:HX Tryz.prog TB c L ok)(al:Int)(t:A2)(ht:ER al 20000 t)(hal:BW al=true)(hcl:A3 L (AP al) t)(ho:A5 L (AP al) t=none)(w:W)(hf:∀v,aO L (AP al) t w v→ok v)(hw:Al (AP al) w)(hwl:w.length≤20000) :
 Pure Tryz.prog TB 102 [Gw al c,CY t,eT w] (Ge (Hv L (AP al) t w)):=by
 have hr:=DZ c hc.BU
 have hpu1:([Gw al c,CY t,eT w].all E.BU && C.CE [])=true:=by simp [E.BU,C.CE,C.BU,hc.BU]
 have hsp:=Mx (TB:=TB) hc al t (fun v hv=>hf v (.inl hv)) (ht.mono (by omega)) hal hcl ho w (fun v hv=>hf v (.inr (.inl hv))) hw hwl
 have hrl:=ht.rl
 have hcl2:=ht.cl
 rcases hs:BP L t w with _|v
 ·have hn:Hv L (AP al) t w=none:=by unfold Hv;rw [hs];rfl
  rw [hn]
  rw [hs] at hsp
  refine Bi.E3 (Bi.ofM 2 (Nat.le_refl _) Tryz.func102 rfl rfl (by kernel_rfl) (Nat.le_of_ble_eq_true rfl) ?_);intro Γ hΓ
  (repeat first|refine aU rfl ?_)
  (refine pW rfl ?_ rfl (by rfl);refine Dr rfl rfl ?_)
  (refine pW rfl ?_ rfl (by rfl);refine Dr rfl rfl ?_)
  (repeat first|refine tA rfl ?_ |refine aU rfl ?_ |refine Aa ?_)
  (repeat first|refine tA rfl ?_ |refine s2 rfl fun _ _hb=>?_|(refine Ag rfl ?_;refine gA rfl ?_;first| refine gS (fun _ _=>BL rfl rfl hpu1 hsp rfl) ?_) |refine aU rfl ?_ |refine Aa ?_)
  ((refine aC rfl ?_ ?_<;>rintro⟨⟩);all_goals try (simp at _hb;done))
  (repeat first|refine tA rfl ?_|(refine Ag rfl ?_;refine gA rfl ?_;first| refine gS (fun _ _=>AI rfl rfl (by rfl) (by rfl)) ?_) |refine aU rfl ?_ |refine Aa ?_)
  refine Ak.settle [(6,.o (.ip [.l [],.l []])),(7,eB false)] ⟨⟨_,rfl,.o (.box rfl (.cons .d (.cons .d .nil)))⟩,⟨_,rfl,.o .d⟩,trivial⟩ ?_
  refine aR ⟨_,rfl,rfl⟩
 ·have hsuf:=HT hs
  have hvw:Al (AP al) v∧v.length≤20000:=by
   obtain⟨p,_,rfl⟩:=hsuf
   exact⟨fun c hc=>hw c (by simp [hc]),by simp at hwl;omega⟩
  have hac:=NB (TB:=TB) t v (by omega) (by omega)
  rw [hs] at hsp
  rcases ha:ES t v with _|u
  ·have hn:Hv L (AP al) t w=none:=by unfold Hv;rw [hs];simp [ha]
   rw [hn]
   rw [ha] at hac
   refine Bi.E3 (Bi.ofM 2 (Nat.le_refl _) Tryz.func102 rfl rfl (by kernel_rfl) (Nat.le_of_ble_eq_true rfl) ?_);intro Γ hΓ
   (repeat first|refine aU rfl ?_)
   (refine pW rfl ?_ rfl (by rfl);refine Dr rfl rfl ?_)
   (refine pW rfl ?_ rfl (by rfl);refine Dr rfl rfl ?_)
   (repeat first|refine tA rfl ?_ |refine aU rfl ?_ |refine Aa ?_)
   (repeat first|refine tA rfl ?_ |refine s2 rfl fun _ _hb=>?_|(refine Ag rfl ?_;refine gA rfl ?_;first| refine gS (fun _ _=>BL rfl rfl hpu1 hsp rfl) ?_) |refine aU rfl ?_ |refine Aa ?_)
   ((refine aC rfl ?_ ?_<;>rintro⟨⟩);all_goals try (simp at _hb;done))
   refine aK ?_
   (repeat first|refine tA rfl ?_ |refine s2 rfl fun _ _hb=>?_ |refine sP rfl (hac) rfl ?_ |refine aU rfl ?_ |refine Aa ?_)
   ((refine aC rfl ?_ ?_<;>rintro⟨⟩);all_goals try (simp at _hb;done))
   (repeat first|refine tA rfl ?_|(refine Ag rfl ?_;refine gA rfl ?_;first| refine gS (fun _ _=>AI rfl rfl (by rfl) (by rfl)) ?_) |refine aU rfl ?_ |refine Aa ?_)
   refine Ak.settle [(6,.o (.ip [.l [],.l []])),(7,eB false)] ⟨⟨_,rfl,.o (.box rfl (.cons .d (.cons .d .nil)))⟩,⟨_,rfl,.o .d⟩,trivial⟩ ?_
   refine aR ⟨_,rfl,rfl⟩
  ·have hu:=RJ ht hvw.1 hvw.2 ha
   have hct:=Gs (TB:=TB) hc al u (fun y hy v hv=>hf v (.inr (.inr ⟨_,hs,_,ha,y,hy,hv⟩))) hu
   have hpu2:([Gw al c,CY u].all E.BU && C.CE [])=true:=by simp [E.BU,C.CE,C.BU,hc.BU]
   have hn:Hv L (AP al) t w=A9 L (AP al) 13 u:=by unfold Hv;rw [hs];simp [ha]
   rw [hn]
   rw [ha] at hac
   rcases hcn:A9 L (AP al) 13 u with _|x
   ·rw [hcn] at hct
    refine Bi.E3 (Bi.ofM 2 (Nat.le_refl _) Tryz.func102 rfl rfl (by kernel_rfl) (Nat.le_of_ble_eq_true rfl) ?_);intro Γ hΓ
    (repeat first|refine aU rfl ?_)
    (refine pW rfl ?_ rfl (by rfl);refine Dr rfl rfl ?_)
    (refine pW rfl ?_ rfl (by rfl);refine Dr rfl rfl ?_)
    (repeat first|refine tA rfl ?_ |refine aU rfl ?_ |refine Aa ?_)
    (repeat first|refine tA rfl ?_ |refine s2 rfl fun _ _hb=>?_|(refine Ag rfl ?_;refine gA rfl ?_;first| refine gS (fun _ _=>BL rfl rfl hpu1 hsp rfl) ?_) |refine aU rfl ?_ |refine Aa ?_)
    ((refine aC rfl ?_ ?_<;>rintro⟨⟩);all_goals try (simp at _hb;done))
    refine aK ?_
    (repeat first|refine tA rfl ?_ |refine s2 rfl fun _ _hb=>?_ |refine sP rfl (hac) rfl ?_ |refine aU rfl ?_ |refine Aa ?_)
    ((refine aC rfl ?_ ?_<;>rintro⟨⟩);all_goals try (simp at _hb;done))
    refine aK ?_
    (repeat first|refine tA rfl ?_|(refine Ag rfl ?_;refine gA rfl ?_;first| refine gS (fun _ _=>BL rfl rfl hpu2 hct rfl) ?_) |refine aU rfl ?_ |refine Aa ?_)
    refine Ak.settle [(6,.o (.ip [.l [],.l []])),(7,eB false)] ⟨⟨_,rfl,.o (.box rfl (.cons .d (.cons .d .nil)))⟩,⟨_,rfl,.o .d⟩,trivial⟩ ?_
    refine aR ⟨_,rfl,rfl⟩
   ·rw [hcn] at hct
    refine Bi.E3 (Bi.ofM 2 (Nat.le_refl _) Tryz.func102 rfl rfl (by kernel_rfl) (Nat.le_of_ble_eq_true rfl) ?_);intro Γ hΓ
    (repeat first|refine aU rfl ?_)
    (refine pW rfl ?_ rfl (by rfl);refine Dr rfl rfl ?_)
    (refine pW rfl ?_ rfl (by rfl);refine Dr rfl rfl ?_)
    (repeat first|refine tA rfl ?_ |refine aU rfl ?_ |refine Aa ?_)
    (repeat first|refine tA rfl ?_ |refine s2 rfl fun _ _hb=>?_|(refine Ag rfl ?_;refine gA rfl ?_;first| refine gS (fun _ _=>BL rfl rfl hpu1 hsp rfl) ?_) |refine aU rfl ?_ |refine Aa ?_)
    ((refine aC rfl ?_ ?_<;>rintro⟨⟩);all_goals try (simp at _hb;done))
    refine aK ?_
    (repeat first|refine tA rfl ?_ |refine s2 rfl fun _ _hb=>?_ |refine sP rfl (hac) rfl ?_ |refine aU rfl ?_ |refine Aa ?_)
    ((refine aC rfl ?_ ?_<;>rintro⟨⟩);all_goals try (simp at _hb;done))
    refine aK ?_
    (repeat first|refine tA rfl ?_|(refine Ag rfl ?_;refine gA rfl ?_;first| refine gS (fun _ _=>BL rfl rfl hpu2 hct rfl) ?_) |refine aU rfl ?_ |refine Aa ?_)
    refine Ak.settle [(6,.o (.ip [A7 x.rows,A7 x.cols])),(7,eB true)] ⟨⟨_,rfl,.o (.box rfl (.cons .d (.cons .d .nil)))⟩,⟨_,rfl,.o .d⟩,trivial⟩ ?_
    refine aR ⟨_,rfl,rfl⟩
theorem Iw{c:C}{L:W→Bool}{ok:W→Prop}(hc:HX Tryz.prog TB c L ok)(al:Int)(t:A2)(hf:Hy ok al)(ht:ER al 20000 t)(hal:BW al=true)(hcl:A3 L (AP al) t)(ho:A5 L (AP al) t=none)(w:W)(hw:Al (AP al) w)(hwl:w.length≤20000) :
 Pure Tryz.prog TB 102 [Gw al c,CY t,eT w] (Ge (Hv L (AP al) t w)):=by
 refine Mq hc al t ht hal hcl ho w (fun v hv=>?_) hw hwl
 rcases hv with hv|hv|⟨x,hx,u,hu,y,hy,hv⟩
 ·exact ht.on hf (by omega) v hv
 ·exact(ht.mono (by omega)).ef hf hw hwl v hv
 ·obtain⟨p,_,rfl⟩:=HT hx
  exact(RJ ht (fun c hc=>hw c (by simp [hc])) (by simp at hwl;omega) hu).dQ hf (by omega) y hy v hv
end Go.Am
