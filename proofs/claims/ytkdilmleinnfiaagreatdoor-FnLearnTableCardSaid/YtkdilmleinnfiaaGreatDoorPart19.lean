/-
  The reference's automaton of a closed table.
-/
import Derived.Test.YtkdilmleinnfiaaGreatDoorPart18
import Derived.Test.YtkdilmleinnfiaaGreatDoorPart16
import Derived.Test.YtkdilmleinnfiaaGreatDoorPart15
import Derived.Test.YtkdilmleinnfiaaGreatDoorPart13
import Derived.Test.YtkdilmleinnfiaaGreatDoorPart9
set_option linter.constructorNameAsVariable false
set_option linter.unusedSectionVars false
set_option linter.unusedSimpArgs false
set_option linter.unusedVariables false
namespace Go.Am
open Go Go.Proofs
set_option maxHeartbeats 1000000
set_option maxRecDepth 4000
attribute [local irreducible] AY B2 Lex Br Ak Spec
variable {TB:Bw}
def Ug(o:Option AP):E:=match o with
 | some p=>.t [(true,[.d (iD p.al),.d (Ci p.nx),.d (FY p.ac)]),(false,[.d (bD true)])]
 | none=>.t [(true,[.d (iD 0),.d (.l []),.d (.l [])]),(false,[.d (bD false)])]
theorem EI{t:Nb}{al:Int}{A:W→Bool}(hT:Hs Tryz.prog TB 93 85 t al A)(tab:AZ)(hz:NV tab) :
 Pure Tryz.prog TB 31 [Dq t,CB tab] (Ug (if BQ A al tab then some (AO A al tab) else none)):=by
 have h1:=Lu hT tab hz
 by_cases hv:BQ A al tab=true
 ·rw [if_pos hv]
  rw [hv] at h1
  obtain⟨hv1,ho,hcl⟩:=E7 hv
  have hsh:=(Cz hv1).1
  have hr1:=hsh.r1
  have hrl:=hsh.rl
  have hcl:=hsh.cl
  have h2:=hT.alph
  have h3:=Cf (TB:=TB) al
  have h4:Pure Tryz.prog TB 95 [Dq t,Bg tab.cols,Bg tab.rows] (Bg (AE A tab)):=HF hT tab.cols tab.rows hz.cl (fun w hw=>by have:=hz.rb w hw;omega) hz.cb hz.rl
  have hla:(Ac al).length≤6:=AL al 6
  have hml:(AE A tab).length=tab.rows.length:=by simp [AE]
  refine eG Tryz.func31 rfl (by kernel_rfl) rfl ?_;intro Γ hΓ
  (repeat first|refine tA rfl ?_ |refine s2 rfl fun _ _hb=>?_ |refine sP rfl (h1) rfl ?_ |refine aU rfl ?_ |refine Aa ?_)
  ((refine aC rfl ?_ ?_<;>rintro⟨⟩);all_goals try (simp at _hb;done))
  refine aK ?_
  (repeat first|refine tX rfl ?_ |refine sP rfl (h2) rfl ?_ |refine aU rfl ?_)
  (refine pW rfl ?_ rfl (by rfl);refine Fe 1 1 84 2 1 4 rfl rfl (by decide) rfl rfl (by rfl) (by rfl) ?_)
  (repeat first|refine tX rfl ?_ |refine sP rfl (h3) rfl ?_|refine sP rfl (h4) rfl ?_ |refine aU rfl ?_ |refine Aa ?_)
  refine aB ?_
  refine aL (α:={k:Nat // k≤tab.rows.length}) [2,3,4,6,7,8] [0] rfl rfl (fun ⟨k,hk⟩=>[(9,eI .i64 k)]) (fun ⟨k,hk⟩=>[(1,.cells 84 1 (((AO A al tab).nx.take k).map fun r=>[.d (CO r)])),(2,.cells 4 1 (((AO A al tab).ac.take k).map fun b=>[.d (bD b)])),(3,.cells 41 3 [[.d (iD al),.arr 1 1 0 k,.arr 2 1 0 k]])]) 4 (fun ⟨k,hk⟩=>tab.rows.length - k) (⟨0,by omega⟩) hΓ rfl (by (simp[cX,zC,hΓ])) ?_;rintro⟨k,hk⟩;(try dsimp only[cA,cB])
  have hnl:(AO A al tab).nx.length=tab.rows.length:=by simp [AO]
  have hac:(AO A al tab).ac.length=tab.rows.length:=by simp [AO]
  by_cases hlt:k < tab.rows.length
  ·obtain⟨r,hx⟩:=get_some hlt
   have hx':=get_map (g:=BC) hx
   have hxm:=List.mem_of_getElem? hx
   have hrb:=hz.rb r hxm
   have hm:(AE A tab)[k]? = some (marks A tab.cols r):=by simp [AE,hx]
   have hm':=get_map (g:=BC) hm
   have hm0:(marks A tab.cols r)[(0:Int).toNat]? = some (NX (A r)):=by
    have:=hsh.c0
    simp [marks,this]
   (repeat first|refine sN rfl ?_ |refine tX rfl ?_ |refine s2 rfl fun _ _hb=>?_ |refine aU rfl ?_ |refine Aa ?_)
   refine Ak.cond rfl (fun hb=>?_) (fun hb=>?_)<;>cases hb
   rotate_left
   ·exfalso;(simp only[oZ] at *;omega)
   refine aK ?_
   refine aS (aB ?_)
   (repeat first|refine aU rfl ?_)
   (refine pW rfl ?_ rfl (by rfl);refine A1 rfl rfl rfl rfl (by simp) (by rfl) (by rfl) (by rfl) (by rfl) ?_)
   (repeat first|refine tX rfl ?_ |refine aU rfl ?_ |refine Aa ?_)
   refine aB ?_
   refine aL (α:={j:Nat // j≤(Ac al).length}) [2,3,4,6,7,8,9] [0,1,2,3] rfl rfl (fun ⟨j,hj⟩=>[(10,.o (.arr 4 1 0 j)),(11,eI .i64 j)]) (fun ⟨j,hj⟩=>[(4,.cells 3 1 (((Ac al).take j).map fun l=>[.d (iD ((Cv A tab (r++[lb l]):Nat):Int))]))]) 5 (fun ⟨j,hj⟩=>(Ac al).length - j) (⟨0,by omega⟩) hΓ rfl (by (simp[cX,zC,hΓ])) ?_;rintro⟨j,hj⟩;(try dsimp only[cA,cB])
   by_cases hjlt:j < (Ac al).length
   ·obtain⟨l,hl⟩:=get_some hjlt
    have hl':=get_map (g:=Bq) hl
    have hlm:=List.mem_of_getElem? hl
    have hlb:=Av hlm
    have htx:Pure Tryz.prog TB 98 [eI .i64 l] (eT [lb l]):=GY l hlb.1 (by omega)
    have hrow:=Ji hT tab.cols (r++[lb l]) hz.cl (by simp;omega) hz.cb
    have hmm:marks A tab.cols (r++[lb l])∈AE A tab:=FN ho r hxm (lb l) (Kl hlm)
    have hix:Pure Tryz.prog TB 96 [Bg (AE A tab),eT (marks A tab.cols (r++[lb l]))] (eI .i64 (Cv A tab (r++[lb l]):Nat)):=Ox (AE A tab) _ hmm (by omega)
    (repeat first|refine sN rfl ?_ |refine tX rfl ?_ |refine s2 rfl fun _ _hb=>?_ |refine aU rfl ?_ |refine Aa ?_)
    refine Ak.cond rfl (fun hb=>?_) (fun hb=>?_)<;>cases hb
    rotate_left
    ·exfalso;(simp only[oZ] at *;omega)
    refine aK ?_
    refine aS (aB ?_)
    refine rG (IY [19]) (by kernel_rfl) ?_
    (repeat first|(refine sA rfl ?_ ?_;first|exact tI|simp only[oZ] at *;omega) |(refine s4 rfl ‹_› rfl ?_ ?_;omega) |refine sP rfl (htx) rfl ?_|refine sP rfl (hrow) rfl ?_|refine sP rfl (hix) rfl ?_)
    (refine pW rfl ?_ rfl (by rfl);refine Aw rfl rfl rfl (by first| (simp;done)|(simp;(omega))) rfl (by intro r hr;simp at hr;subst hr;rfl) (by rfl) (Nat.le_of_ble_eq_true rfl) (by simp;omega) ?_)
    (repeat first|(refine sA rfl ?_ ?_;first|exact tI|omega) |refine aU rfl ?_ |refine Aa ?_)
    refine⟨⟨j+1,by omega⟩,by dsimp only;(omega),[0,1,2,3,5],?_⟩
    (simp[cX,zC,hΓ,List.take_add_one,hl])
   ·obtain rfl:j=(Ac al).length:=by omega
    have hnx:(AO A al tab).nx.take (k+1)=(AO A al tab).nx.take k++[(Ac al).map fun l=>((Cv A tab (r++[lb l]):Nat):Int)]:=by
     rw [List.take_add_one];simp [AO,hx]
    have hacs:(AO A al tab).ac.take (k+1)=(AO A al tab).ac.take k++[A r]:=by
     rw [List.take_add_one];simp [AO,hx]
    rw [List.take_length]
    (repeat first|refine sN rfl ?_ |refine tX rfl ?_ |refine s2 rfl fun _ _hb=>?_ |refine aU rfl ?_ |refine Aa ?_)
    refine Ak.cond rfl (fun hb=>?_) (fun hb=>?_)<;>cases hb
    ·exfalso;(simp only[oZ] at *;omega)
    refine aE ?_
    refine Ak.DS [4] [2,3,4,6,7,8,9] rfl [(10,Aj ((Ac al).map fun l=>((Cv A tab (r++[lb l]):Nat):Int)))] ⟨⟨_,rfl,.o (.full (by simp) rfl (by simp [Function.comp_def]) (by simp))⟩,trivial⟩ ?_;(try dsimp only[cA,cB])
    (repeat first|refine tA rfl ?_ |refine aU rfl ?_)
    (refine pW rfl ?_ rfl (by rfl);refine Aw rfl rfl rfl (by first| (simp;done)|(simp;(omega))) rfl (by intro r hr;simp at hr;subst hr;rfl) (by rfl) (Nat.le_of_ble_eq_true rfl) (by simp;omega) ?_)
    (repeat first|refine tA rfl ?_ |refine Aa ?_)
    refine rG (IY [9,11]) (by kernel_rfl) ?_
    (repeat first|refine tA rfl ?_ |(refine s4 rfl ‹_› rfl ?_ ?_;omega) |refine s2 rfl fun _ _hb=>?_)
    rename_i b
    have hbb:b=A r:=by
     cases hA:A r<;>cases b<;>simp [hA,NX] at _hb<;>rfl
    subst hbb
    (refine pW rfl ?_ rfl (by rfl);refine Aw rfl rfl rfl (by first| (simp;done)|(simp;(omega))) rfl (by intro r hr;simp at hr;subst hr;rfl) (by rfl) (Nat.le_of_ble_eq_true rfl) (by simp;omega) ?_)
    (repeat first|(refine sA rfl ?_ ?_;first|exact tI|omega) |refine aU rfl ?_ |refine Aa ?_)
    refine⟨⟨k+1,by omega⟩,by dsimp only;(omega),[0,5,6,3],?_⟩
    (simp[cX,zC,hΓ,hnx,hacs])
  ·obtain rfl:k=tab.rows.length:=by omega
   have ht1:(AO A al tab).nx.take tab.rows.length=(AO A al tab).nx:=List.take_of_length_le (by simp [AO])
   have ht2:(AO A al tab).ac.take tab.rows.length=(AO A al tab).ac:=List.take_of_length_le (by simp [AO])
   rw [ht1,ht2]
   (repeat first|refine sN rfl ?_ |refine tX rfl ?_ |refine s2 rfl fun _ _hb=>?_ |refine aU rfl ?_ |refine Aa ?_)
   refine Ak.cond rfl (fun hb=>?_) (fun hb=>?_)<;>cases hb
   ·exfalso;(simp only[oZ] at *;omega)
   refine aE ?_
   (repeat first|refine tX rfl ?_ |refine aU rfl ?_ |refine Aa ?_)
   refine Ak.settle [(4,.o (.ip [iD al,Ci (AO A al tab).nx,FY (AO A al tab).ac])),(5,eB true)] ⟨⟨_,rfl,.o (.box rfl (.cons .d (.cons (.full rfl (by simp [Function.comp_def]) (by simp [AO])) (.cons (.full rfl (by simp [Function.comp_def]) (by simp [AO])) .nil))))⟩,⟨_,rfl,.o .d⟩,trivial⟩ ?_
   refine aR ⟨_,rfl,rfl⟩
 ·have hv:BQ A al tab=false:=by simpa using hv
  rw [if_neg (by simp [hv])]
  rw [hv] at h1
  refine eG Tryz.func31 rfl (by kernel_rfl) rfl ?_;intro Γ hΓ
  (repeat first|refine tA rfl ?_ |refine s2 rfl fun _ _hb=>?_ |refine sP rfl (h1) rfl ?_ |refine aU rfl ?_ |refine Aa ?_)
  ((refine aC rfl ?_ ?_<;>rintro⟨⟩);all_goals try (simp at _hb;done))
  (repeat first|refine tA rfl ?_|(refine Ag rfl ?_;refine gA rfl ?_;first| refine gS (fun _ _=>AK rfl rfl (by rfl) (by rfl)) ?_) |refine aU rfl ?_ |refine Aa ?_)
  refine Ak.settle [(4,.o (.ip [iD 0,.l [],.l []])),(5,eB false)] ⟨⟨_,rfl,.o (.box rfl (.cons .d (.cons .d (.cons .d .nil))))⟩,⟨_,rfl,.o .d⟩,trivial⟩ ?_
  refine aR ⟨_,rfl,rfl⟩
theorem ON{a:AP}(h:Hh a):Pure Tryz.prog TB 134 [A2 a] (A2 (EY a)):=by
 have hb:=h.b.1
 have hn1:=h.n1
 have hac:=h.ac
 have e1:=Nh (TB:=TB) h
 have hlc:=Ub h
 have hclN:∀q:Nat,q < a.nx.length→(Ni a)[q]? = some (Gt a q):=fun q hq=>by
  obtain⟨x,hx⟩:=get_some (l:=Ni a) (k:=q) (by omega)
  rw [hx]
  unfold Gt
  rw [Int.toNat_natCast,List.getD_eq_getElem?_getD,hx];rfl
 have e2:Pure Tryz.prog TB 114 [A2 (BP a a.nx.length)] (A2 (EY a)):=Xw (aY h).1
 refine eG Tryz.func134 rfl (by kernel_rfl) rfl ?_;intro Γ hΓ
 (repeat first |refine sN rfl ?_ |((first|refine sA rfl ?_ ?_|refine s4 rfl ‹_› rfl ?_ ?_);first|exact tI|omega|simp only[oZ] at *;omega) |refine s2 rfl fun _ _hb=>?_ |refine sP rfl (e1) rfl ?_ |refine s3 rfl ?_ ?_<;>rintro rfl |refine aU rfl ?_ |refine Aa ?_)
 (refine pW rfl ?_ rfl (by rfl);refine Fe 1 1 84 2 1 4 rfl rfl (by decide) rfl rfl (by rfl) (by rfl) ?_)
 (repeat first |refine sN rfl ?_ |((first|refine sA rfl ?_ ?_|refine s4 rfl ‹_› rfl ?_ ?_);first|exact tI|omega|simp only[oZ] at *;omega) |refine s2 rfl fun _ _hb=>?_ |refine s3 rfl ?_ ?_<;>rintro rfl |refine aU rfl ?_ |refine Aa ?_)
 refine aB ?_
 refine aL (α:={k:Nat // k≤a.nx.length}) [1,2,3,4,15,16] [0] rfl rfl (fun s=>[(17,eI .i64 s.1)]) (fun s=>[(1,.cells 84 1 ((BP a s.1).nx.map fun r=>[.d (CO r)])),(2,.cells 4 1 ((BP a s.1).ac.map AQ)),(3,.cells 41 3 [[.d (iD a.al),.arr 1 1 0 (BP a s.1).nx.length,.arr 2 1 0 (BP a s.1).nx.length]])]) 4 (fun s=>a.nx.length - s.1) (⟨0,by omega⟩) hΓ rfl (by ((repeat' first|exact tI|rfl|refine And.intro ?_ ?_)<;>(simp[cX,zC,hΓ,eC,BZ,Ai,BP,Bd]<;>rfl))) ?_;rintro⟨k,hk⟩;(try dsimp only[cA,cB])
 by_cases hlt:k < a.nx.length
 ·have hc:=hclN k hlt
  have hc':=get_map (g:=Bq) hc
  have hql:=Tj a k
  obtain⟨r,hr⟩:=get_some hlt
  have hr':=get_map (g:=Dm) hr
  have hrD:a.nx.getD k []=r:=DT hr
  obtain⟨bb,hbb⟩:=get_some (l:=a.ac) (k:=k) (by omega)
  have hbb':=get_map (g:=Gq) hbb
  have hbD:a.ac.getD k false=bb:=DT hbb
  have hrl:r.length≤6:=by
   obtain⟨row,h1,h2,_⟩:=h.b.2 k hlt
   rw [hr] at h1;injection h1 with h1;subst h1
   have:(Ac a.al).length≤6:=AL _ 6
   omega
  have hri:∀x∈r,0≤x∧x < (a.nx.length:Int):=fun x hx=>by
   obtain⟨row,h1,h2,h3⟩:=h.b.2 k hlt
   rw [hr] at h1;injection h1 with h1;subst h1
   obtain⟨j,hj⟩:=List.mem_iff_getElem?.1 hx
   exact h3 j x hj
  have hqa:=O5 a k
  (repeat first |refine sN rfl ?_ |((first|refine sA rfl ?_ ?_|refine s4 rfl ‹_› rfl ?_ ?_);first|exact tI|omega|simp only[oZ] at *;omega) |refine s2 rfl fun _ _hb=>?_ |refine s3 rfl ?_ ?_<;>rintro rfl |refine aU rfl ?_ |refine Aa ?_)
  ((refine aC rfl ?_ ?_<;>rintro⟨⟩);all_goals try(exfalso;first|omega|simp only[oZ] at *;omega))
  refine aK ?_
  refine aS (aB ?_)
  rcases Qo h hlt with ⟨hl,e⟩|⟨hl,e⟩
  ·(repeat first |refine sN rfl ?_ |((first|refine sA rfl ?_ ?_|refine s4 rfl ‹_› rfl ?_ ?_);first|exact tI|omega|simp only[oZ] at *;omega) |refine s2 rfl fun _ _hb=>?_ |refine s3 rfl ?_ ?_<;>rintro rfl |refine aU rfl ?_ |refine Aa ?_)
   ((refine aC rfl ?_ ?_<;>rintro⟨⟩);all_goals try(exfalso;first|omega|simp only[oZ] at *;omega))
   refine aE ?_
   (repeat first |refine sN rfl ?_ |((first|refine sA rfl ?_ ?_|refine s4 rfl ‹_› rfl ?_ ?_);first|exact tI|omega|simp only[oZ] at *;omega) |refine s2 rfl fun _ _hb=>?_ |refine s3 rfl ?_ ?_<;>rintro rfl |refine aU rfl ?_ |refine Aa ?_)
   refine⟨⟨k+1,by first|omega|simp only[oZ] at *;omega⟩,by dsimp only;(first|omega|simp only[oZ] at *;omega),[0,1,2,3],?_⟩
   simp[cX,zC,hΓ,e]
  ·rw [hrD,hbD] at e
   (repeat first |refine sN rfl ?_ |((first|refine sA rfl ?_ ?_|refine s4 rfl ‹_› rfl ?_ ?_);first|exact tI|omega|simp only[oZ] at *;omega) |refine s2 rfl fun _ _hb=>?_ |refine s3 rfl ?_ ?_<;>rintro rfl |refine aU rfl ?_ |refine Aa ?_)
   ((refine aC rfl ?_ ?_<;>rintro⟨⟩);all_goals try(exfalso;first|omega|simp only[oZ] at *;omega))
   refine aK ?_
   (repeat first |refine sN rfl ?_ |((first|refine sM rfl ?_ ?_|refine s4 rfl ‹_› rfl ?_ ?_);first|exact tI|omega|simp only[oZ] at *;omega) |refine s2 rfl fun _ _hb=>?_ |refine s3 rfl ?_ ?_<;>rintro rfl |refine aU rfl ?_ |refine Aa ?_ |refine rE (by kernel_rfl) ?_)
   (refine pW rfl ?_ rfl (by rfl);refine Iw 1 3 ?_)
   (repeat first |refine sN rfl ?_ |((first|refine sM rfl ?_ ?_|refine s4 rfl ‹_› rfl ?_ ?_);first|exact tI|omega|simp only[oZ] at *;omega) |refine s2 rfl fun _ _hb=>?_ |refine s3 rfl ?_ ?_<;>rintro rfl |refine aU rfl ?_ |refine Aa ?_ |refine rE (by kernel_rfl) ?_)
   refine aB ?_
   refine aL (α:={j:Nat // j≤r.length}) [1,2,3,4,5,15,16,17,31,32] [0,1,2,3] rfl rfl (fun s=>[(7,.o (.arr 4 1 0 s.1)),(33,eI .i64 s.1)]) (fun s=>[(4,.cells 3 1 (((r.take s.1).map (Gt a)).map AB))]) 5 (fun s=>r.length - s.1) (⟨0,by omega⟩) hΓ rfl (by ((repeat' first|exact tI|rfl|refine And.intro ?_ ?_)<;>(simp[cX,zC,hΓ,eC,BZ,Ai]<;>rfl))) ?_;rintro⟨j,hj⟩;(try dsimp only[cA,cB])
   by_cases hjl:j < r.length
   ·obtain⟨x,hx⟩:=get_some hjl
    have hx':=get_map (g:=Bq) hx
    have hxi:=hri x (List.mem_of_getElem? hx)
    have hxc:=hclN x.toNat (by omega)
    rw [show ((x.toNat:Nat):Int)=x by omega] at hxc
    have hxc':=get_map (g:=Bq) hxc
    have ht:r.take (j+1)=r.take j++[x]:=by rw [List.take_add_one,hx];rfl
    (repeat first |refine sN rfl ?_ |((first|refine sA rfl ?_ ?_|refine s4 rfl ‹_› rfl ?_ ?_);first|exact tI|omega|simp only[oZ] at *;omega) |refine s2 rfl fun _ _hb=>?_ |refine s3 rfl ?_ ?_<;>rintro rfl |refine aU rfl ?_ |refine Aa ?_)
    ((refine aC rfl ?_ ?_<;>rintro⟨⟩);all_goals try(exfalso;first|omega|simp only[oZ] at *;omega))
    refine aK ?_
    refine aS (aB ?_)
    (repeat first |refine sN rfl ?_ |((first|refine sA rfl ?_ ?_|refine s4 rfl ‹_› rfl ?_ ?_);first|exact tI|omega|simp only[oZ] at *;omega) |refine s2 rfl fun _ _hb=>?_ |refine s3 rfl ?_ ?_<;>rintro rfl |refine aU rfl ?_ |refine Aa ?_)
    (refine pW rfl ?_ rfl (by rfl);refine Aw rfl rfl rfl (by first|(simp;done)|(simp;(first|omega|simp only[oZ] at *;omega))) rfl (by intro r hr;simp at hr;subst hr;rfl) (by rfl) (Nat.le_of_ble_eq_true rfl) (by simp;omega) ?_)
    (repeat first |refine sN rfl ?_ |((first|refine sA rfl ?_ ?_|refine s4 rfl ‹_› rfl ?_ ?_);first|exact tI|omega|simp only[oZ] at *;omega) |refine s2 rfl fun _ _hb=>?_ |refine s3 rfl ?_ ?_<;>rintro rfl |refine aU rfl ?_ |refine Aa ?_)
    refine⟨⟨j+1,by first|omega|simp only[oZ] at *;omega⟩,by dsimp only;(first|omega|simp only[oZ] at *;omega),[0,1,2,3,5],?_⟩
    simp[cX,zC,hΓ,eC,BZ,Ai,ht]
   ·obtain rfl:j=r.length:=by omega
    rw [List.take_length]
    (repeat first |refine sN rfl ?_ |((first|refine sA rfl ?_ ?_|refine s4 rfl ‹_› rfl ?_ ?_);first|exact tI|omega|simp only[oZ] at *;omega) |refine s2 rfl fun _ _hb=>?_ |refine s3 rfl ?_ ?_<;>rintro rfl |refine aU rfl ?_ |refine Aa ?_)
    ((refine aC rfl ?_ ?_<;>rintro⟨⟩);all_goals try(exfalso;first|omega|simp only[oZ] at *;omega))
    refine aE ?_
    refine Ak.DS [4] [1,2,3,4,5,15,16,17] rfl [(7,Aj (r.map (Gt a)))] ⟨⟨_,rfl,.o (.full (by simp) rfl (by simp [Function.comp_def]) (by simp))⟩,trivial⟩ ?_;(try dsimp only[cA,cB])
    (repeat first |refine sN rfl ?_ |((first|refine sA rfl ?_ ?_|refine s4 rfl ‹_› rfl ?_ ?_);first|exact tI|omega|simp only[oZ] at *;omega) |refine s2 rfl fun _ _hb=>?_ |refine s3 rfl ?_ ?_<;>rintro rfl |refine aU rfl ?_ |refine Aa ?_)
    (refine pW rfl ?_ rfl (by rfl);refine Aw rfl rfl rfl (by first|(simp;done)|(simp;(first|omega|simp only[oZ] at *;omega))) rfl (by intro r hr;simp at hr;subst hr;rfl) (by rfl) (Nat.le_of_ble_eq_true rfl) (by simp;omega) ?_)
    (repeat first |refine sN rfl ?_ |((first|refine sA rfl ?_ ?_|refine s4 rfl ‹_› rfl ?_ ?_);first|exact tI|omega|simp only[oZ] at *;omega) |refine s2 rfl fun _ _hb=>?_ |refine s3 rfl ?_ ?_<;>rintro rfl |refine aU rfl ?_ |refine Aa ?_)
    refine rG (IY [8,10]) (by kernel_rfl) ?_
    (repeat first |refine sN rfl ?_ |((first|refine sA rfl ?_ ?_|refine s4 rfl ‹_› rfl ?_ ?_);first|exact tI|omega|simp only[oZ] at *;omega) |refine s2 rfl fun _ _hb=>?_ |refine s3 rfl ?_ ?_<;>rintro rfl |refine aU rfl ?_ |refine Aa ?_)
    (refine pW rfl ?_ rfl (by rfl);refine Aw rfl rfl rfl (by first|(simp;done)|(simp;(first|omega|simp only[oZ] at *;omega))) rfl (by intro r hr;simp at hr;subst hr;rfl) (by rfl) (Nat.le_of_ble_eq_true rfl) (by simp;omega) ?_)
    (repeat first |refine sN rfl ?_ |((first|refine sA rfl ?_ ?_|refine s4 rfl ‹_› rfl ?_ ?_);first|exact tI|omega|simp only[oZ] at *;omega) |refine s2 rfl fun _ _hb=>?_ |refine s3 rfl ?_ ?_<;>rintro rfl |refine aU rfl ?_ |refine Aa ?_)
    refine⟨⟨k+1,by first|omega|simp only[oZ] at *;omega⟩,by dsimp only;(first|omega|simp only[oZ] at *;omega),[0,5,6,3],?_⟩
    simp[cX,zC,hΓ,eC,BZ,Ai,e]
 ·obtain rfl:k=a.nx.length:=by omega
  (repeat first |refine sN rfl ?_ |((first|refine sA rfl ?_ ?_|refine s4 rfl ‹_› rfl ?_ ?_);first|exact tI|omega|simp only[oZ] at *;omega) |refine s2 rfl fun _ _hb=>?_ |refine s3 rfl ?_ ?_<;>rintro rfl |refine aU rfl ?_ |refine Aa ?_)
  ((refine aC rfl ?_ ?_<;>rintro⟨⟩);all_goals try(exfalso;first|omega|simp only[oZ] at *;omega))
  refine aE ?_
  refine Ak.Bi [1,2,3] [(2,.o (.ptr 0 3 0 0)),(4,.o (.ip [iD a.al,Ci (BP a a.nx.length).nx,FY (BP a a.nx.length).ac]))] ⟨⟨_,rfl,.inl rfl⟩,⟨_,rfl,.inr (.o (.box rfl (.cons .d (.cons (.full rfl (by simp [Function.comp_def]) (by simp)) (.cons (.full rfl (by simp [Function.comp_def]) (by simp [O5])) .nil)))))⟩,trivial⟩ ?_
  (repeat first |refine sN rfl ?_ |((first|refine sA rfl ?_ ?_|refine s4 rfl ‹_› rfl ?_ ?_);first|exact tI|omega|simp only[oZ] at *;omega) |refine s2 rfl fun _ _hb=>?_ |refine sP rfl (e2) rfl ?_ |refine s3 rfl ?_ ?_<;>rintro rfl |refine aU rfl ?_ |refine Aa ?_)
  (subst_vars;exact aR ⟨_,rfl,rfl⟩)
theorem ER(a:AP):Pure Tryz.prog TB 58 [A2 a] (Ug (if AF a then some (EY a) else none)):=by
 have h1:=Bv (TB:=TB) a
 by_cases hp:AF a=true
 ·have h2:=ON (TB:=TB) (Kc hp)
  rw [hp] at h1
  rw [if_pos hp]
  refine eG Tryz.func58 rfl (by kernel_rfl) rfl ?_;intro Γ hΓ
  (repeat first |refine sN rfl ?_ |((first|refine sA rfl ?_ ?_|refine s4 rfl ‹_› rfl ?_ ?_);first|exact tI|omega|simp only[oZ] at *;omega) |refine s2 rfl fun _ _hb=>?_ |refine sP rfl (h1) rfl ?_ |refine s3 rfl ?_ ?_<;>rintro rfl |refine aU rfl ?_ |refine Aa ?_)
  ((refine aC rfl ?_ ?_<;>rintro⟨⟩);all_goals try (simp at _hb;done))
  refine aK ?_
  (repeat first |refine sN rfl ?_ |((first|refine sA rfl ?_ ?_|refine s4 rfl ‹_› rfl ?_ ?_);first|exact tI|omega|simp only[oZ] at *;omega) |refine s2 rfl fun _ _hb=>?_ |refine sP rfl (h2) rfl ?_ |refine s3 rfl ?_ ?_<;>rintro rfl |refine aU rfl ?_ |refine Aa ?_)
  (subst_vars;exact aR ⟨_,rfl,rfl⟩)
 ·rw [if_neg hp]
  rw [Bool.not_eq_true _ |>.mp hp] at h1
  refine eG Tryz.func58 rfl (by kernel_rfl) rfl ?_;intro Γ hΓ
  (repeat first |refine sN rfl ?_ |((first|refine sA rfl ?_ ?_|refine s4 rfl ‹_› rfl ?_ ?_);first|exact tI|omega|simp only[oZ] at *;omega) |refine s2 rfl fun _ _hb=>?_ |refine sP rfl (h1) rfl ?_ |refine s3 rfl ?_ ?_<;>rintro rfl |refine aU rfl ?_ |refine Aa ?_)
  ((refine aC rfl ?_ ?_<;>rintro⟨⟩);all_goals try (simp at _hb;done))
  (repeat first |refine sN rfl ?_ |((first|refine sA rfl ?_ ?_|refine s4 rfl ‹_› rfl ?_ ?_);first|exact tI|omega|simp only[oZ] at *;omega) |refine s2 rfl fun _ _hb=>?_|(refine Ag rfl ?_;refine gA rfl ?_;first|refine gS (fun _ _=>AK rfl rfl (by rfl) (by rfl)) ?_) |refine s3 rfl ?_ ?_<;>rintro rfl |refine aU rfl ?_ |refine Aa ?_)
  (subst_vars;exact aR ⟨_,rfl,rfl⟩)
end Go.Am
namespace Go.Am
open Go
set_option linter.unusedVariables false
variable {TB:Bw}
section
variable {P:Program}{Γ:Ctx}{d:Option Tmp}{ty:TypeId}{pos:String}{af:Array Edge}{g:Option (Nat×Bool)}{f:Env}{σ:Ab}{nx:Nat}
theorem U8{t:TypeId}{z:List Value}{fl:List (Nat×Nat)}{parts:Array (Nat×Operand)}{es:List E}{qs:List (Nat×List C)}[hz:BR P t z][hf:Gk P t fl](hes:Hz f (parts.toList.map (·.2))=some es)(hq:Eo fl parts.toList es=some qs)
 (hok:z.all Lq=true) (hle:(qs.all fun x=>Nat.ble (x.1+x.2.length) z.length)=true):AY P TB Γ ⟨d,.build t parts,ty,pos,af,g⟩ f σ nx (.a (BZ qs (z.map fun v=>C.d (.v v)))):=
 AH fun V ρ h1 _=>by
  obtain⟨i,zv,hi,hzv,hzz⟩:=GU hz.out
  have hfo:=CR (V:=V) (ρ:=ρ) parts.toList es qs (fun x hx e he=>h1.get (by simp only [Op.operands];simpa using hx) he) hes hq
  have hzr:Cp V (z.map fun v=>C.d (.v v)) zv.cells:=by
   refine⟨by rw [List.length_map,←hzz];simp,fun j c v hj hv=>?_⟩
   simp only [List.getElem?_map,Option.map_eq_some_iff] at hj
   obtain⟨u,hu,rfl⟩:=hj
   have:u=v:=by
    rw [←hzz] at hu
    simp only [Array.getElem?_toList] at hu
    rw [hu] at hv;exact Option.some.inj hv
   subst this
   exact .d (.v (List.all_eq_true.1 hok u (List.mem_of_getElem? hu)))
  obtain⟨cells,h3,h4⟩:=E8 _ _ _ _ hfo hzr (fun x hx=>by rw [List.length_map];exact Ii _ _ hle x hx)
  have hh:=hf.out
  have hparts:(parts.map fun (i,x)=>(i,ρ x)).toList=parts.toList.map fun (i,x)=>(i,ρ x):=by simp
  refine⟨.agg cells,?_,cells,rfl,h4⟩
  have hb : (Instr.build t (parts.map fun (i,x)=>(i,ρ x))).run P V.w=.ok (.agg cells) V.w:=by
   unfold ZP at hh
   split at hh
   ·rename_i fs hu
    have hpl:∀(l:List Field) (ll:List (Nat×Nat)),(l.mapM fun f=>(P.info? f.type).map fun i=>(f.offset,i.size))=some ll→∀w,((l.mapM fun f=>do pure (f.offset,←sizeOf f.type)):Sem (List (Nat×Nat))).run P w=.ok ll w:=by
     intro l
     induction l with
     | nil=>intro ll h w;simp at h;subst h;simp [go_sem]
     | cons y l ih=>
      intro ll h w
      simp only [List.mapM_cons,Option.bind_eq_bind,Option.bind_eq_some_iff,Option.map_eq_some_iff] at h
      obtain⟨p,⟨ii,hii,rfl⟩,ll',h5,h6⟩:=h
      simp at h6
      subst h6
      have hs:(sizeOf y.type).run P w=.ok ii.size w:=by simp [sizeOf,typeInfo,hii,go_sem]
      have ihh:=ih ll' h5 w
      simp only [bind_pure_comp] at ihh
      simp only [List.mapM_cons,Sem.run_bind,hs,Result.andThen_ok,bind_pure_comp,Sem.run_map,ihh]
    have hpl2:=hpl fs.toList fl hh V.w
    have hz0:(zeroValue t).run P V.w=.ok zv V.w:=by simp [zeroValue,typeInfo,hi,hzv,go_sem]
    have ha:((fs.mapM fun f=>do pure (f.offset,←sizeOf f.type)):Sem (Array (Nat×Nat))).run P V.w=.ok fl.toArray V.w:=by
     rw [Array.mapM_eq_mapM_toList,Sem.run_map,hpl2];rfl
    rw [←hparts] at h3
    simp only [Instr.build,Sem.run_bind,hz0,Result.andThen_ok,run_underlying hu,ha]
    simp only [List.getElem?_toArray]
    rw [h3]
    rfl
   ·rename_i n e hu
    simp only [Option.map_eq_some_iff] at hh
    obtain⟨ii,hii,rfl⟩:=hh
    have hz0:(zeroValue t).run P V.w=.ok zv V.w:=by simp [zeroValue,typeInfo,hi,hzv,go_sem]
    have hs:(sizeOf e).run P V.w=.ok ii.size V.w:=by simp [sizeOf,typeInfo,hii,go_sem]
    have hfill:∀(ps:List (Nat×Value)) (c c':Array Value),Instr.fill (fun i=>((List.range n).map fun j=>(j*ii.size,ii.size))[i]?) c ps=some c'→Instr.fill (fun i=>some (i*ii.size,ii.size)) c ps=some c':=by
     intro ps
     induction ps with
     | nil=>intro c c' h;simpa [Instr.fill] using h
     | cons p ps ih=>
      intro c c' h
      obtain⟨i',v'⟩:=p
      unfold Instr.fill at h ⊢
      by_cases hlt:i' < n
      ·simp only [List.getElem?_map,List.getElem?_range hlt,Option.map_some] at h
       simp only at h ⊢
       split at h
       ·cases h
       ·rename_i hno
        rw [if_neg hno];exact ih _ _ (by simpa only [List.getElem?_map] using h)
      ·simp [hlt] at h
    rw [←hparts] at h3
    simp only [Instr.build,Sem.run_bind,hz0,Result.andThen_ok,run_underlying hu,hs]
    rw [hfill _ _ _ h3]
    rfl
   ·cases hh
  show ((do let v ←Instr.build t (parts.map fun (i,x)=>(i,ρ x));pure (Go.Next.value v):Sem Go.Next)).run P V.w=_
  simp only [Sem.run_bind,hb,Result.andThen_ok]
  rfl
end
theorem XF{P:Program}{Γ:Ctx}{o:Oper}{L:List (Nat×E)}{σ:Ab}{nx:Nat}{K:E→Ab→Nat→Prop}{b:Option Addr}(t:Tmp)(hx:look L t=some (.o (.d (.v (.slice b 0 0)))))(h:B2 P TB Γ o (look ((t,.e)::L)) σ nx K):B2 P TB Γ o (look L) σ nx K:=by
 intro V a h1 h2 h3
 refine h V a ?_ h2 h3
 intro t' e' ht' he'
 rw [Ax] at he'
 by_cases he:t=t'
 ·subst he
  rw [if_pos rfl] at he'
  injection he' with he'
  subst he'
  exact⟨b,AI.val (h1 t _ ht' hx)⟩
 ·rw [if_neg he] at he'
  exact h1 t' e' ht' he'
end Go.Am
namespace Go.Am
open Go Go.Proofs
set_option maxHeartbeats 1000000
set_option maxRecDepth 4000
attribute [local irreducible] AY B2 Lex Br Ak Spec
variable {TB:Bw}
abbrev Tv(n:UInt8):List D:=[.v (.int .u8 n.toNat)]
abbrev Sg(l:List UInt8):D:=.l (l.map Tv)
abbrev BF(b:List UInt8)(p:Int):O:=.cells 169 2 [[.d (Sg b),.d (iD p)]]
theorem Ut{a b:Nat}(ha:a < 2 ^ 62)(hb:b < 2 ^ 62):PR .i64 a b=((a ^^^ b:Nat):Int):=by
 unfold PR
 have h1:(BitVec.ofInt IntKind.i64.bits (a:Int)).toNat=a:=by
  rw [BitVec.toNat_ofInt];have:IntKind.i64.bits=64:=rfl;rw [this];omega
 have h2:(BitVec.ofInt IntKind.i64.bits (b:Int)).toNat=b:=by
  rw [BitVec.toNat_ofInt];have:IntKind.i64.bits=64:=rfl;rw [this];omega
 rw [BitVec.toNat_xor,h1,h2]
 have h3:a ^^^ b < 2 ^ 62:=Nat.xor_lt_two_pow ha hb
 exact IntWalk.i64_in _ (by omega)
theorem WH{x y:Int}(hx:0≤x∧x < 4611686018427387904)(hy:0≤y∧y < 4611686018427387904):0≤PR .i64 x y∧PR .i64 x y < 4611686018427387904:=by
 obtain⟨a,rfl⟩:∃a:Nat,x=a:=⟨x.toNat,by omega⟩
 obtain⟨b,rfl⟩:∃b:Nat,y=b:=⟨y.toNat,by omega⟩
 rw [Ut (by omega) (by omega)]
 have h3:a ^^^ b < 2 ^ 62:=Nat.xor_lt_two_pow (by omega) (by omega)
 omega
theorem PY(b:List UInt8)(hb:b.length≤9223372036854775807):∃b':List UInt8,b'.length≤2000∧Bl Tryz.prog TB 106 0 [] 0 [.o (.d (Sg b))] (fun x σ nx=>x=.o (.ptr 0 2 0 0)∧σ=[(0,BF b' 0)]∧nx=1):=by
 by_cases h:b.length≤2000
 ·refine⟨b,h,?_⟩
  refine Bl.YL (m:=0) (Nat.le_of_ble_eq_true rfl) Tryz.func106 rfl (by kernel_rfl) (Nat.le_of_ble_eq_true rfl) ?_;intro Γ hΓ
  (repeat first|refine sN rfl ?_ |refine tX rfl ?_ |refine s2 rfl fun _ _hb=>?_ |refine aU rfl ?_ |refine Aa ?_)
  ((refine aC rfl ?_ ?_<;>rintro⟨⟩);all_goals try (simp at _hb;done))
  ·exfalso;(simp only[oZ] at *;omega)
  refine aK ?_
  (repeat first|refine tX rfl ?_|(refine Ag rfl ?_;refine gA rfl ?_;first| refine gS (fun _ _=>AK rfl rfl (by rfl) (by rfl)) ?_) |refine aU rfl ?_)
  (refine pW rfl ?_ rfl (by rfl);refine CG rfl rfl ?_)
  (repeat first|refine tX rfl ?_ |refine Aa ?_)
  refine aR ⟨_,rfl,rfl,rfl,rfl⟩
 ·refine⟨b.take 2000,by simp;omega,?_⟩
  have e:(b.map Tv).take (2000:Int).toNat=(b.take 2000).map Tv:=by simp [List.map_take]
  refine Bl.YL (m:=0) (Nat.le_of_ble_eq_true rfl) Tryz.func106 rfl (by kernel_rfl) (Nat.le_of_ble_eq_true rfl) ?_;intro Γ hΓ
  (repeat first|refine sN rfl ?_ |refine tX rfl ?_ |refine s2 rfl fun _ _hb=>?_ |refine aU rfl ?_ |refine Aa ?_)
  ((refine aC rfl ?_ ?_<;>rintro⟨⟩);all_goals try (simp at _hb;done))
  ·(repeat first|refine tX rfl ?_|(refine Ag rfl ?_;refine gA rfl ?_;first| refine gS (fun _ _=>G0 rfl rfl (by simp) (by omega) (by simp;omega)) ?_) |refine aU rfl ?_ |refine Aa ?_)
   rw [e]
   (repeat first| (refine Ag rfl ?_;refine gA rfl ?_;first| refine gS (fun _ _=>AK rfl rfl (by rfl) (by rfl)) ?_))
   (refine pW rfl ?_ rfl (by rfl);refine CG rfl rfl ?_)
   (repeat first|refine tX rfl ?_ |refine Aa ?_)
   refine aR ⟨_,rfl,rfl,rfl,rfl⟩
  ·exfalso;(simp only[oZ] at *;omega)
theorem BH(b:List UInt8)(hb:b.length≤2000)(p n:Int)(h0:0≤p∧p < 1000000000):∃k:Int,0≤k∧(k=0∨k < n)∧Spec Tryz.prog TB 168 [(0,BF b p)] 1 [.o (.ptr 0 2 0 0),eI .i64 n] (fun x σ nx=>x=eI .i64 k∧σ=[(0,BF b (p+1))]∧nx=1):=by
 by_cases hz:n < 1∨b.length=0
 ·refine⟨0,by omega,.inl rfl,?_⟩
  refine eR Tryz.func168 rfl (by kernel_rfl) rfl ?_;intro Γ hΓ
  (repeat' first|refine sN rfl ?_ |(refine sA rfl ?_ ?_;first|exact tI|omega|simp only[oZ] at *;omega) |refine s2 rfl fun _ _hb=>?_ |refine s3 rfl ?_ ?_<;>rintro rfl |refine aU rfl ?_ |refine Aa ?_ |refine rE (by kernel_rfl) ?_|(refine aC rfl ?_ ?_<;>rintro⟨⟩)|refine aK ?_|refine aE ?_|refine aB ?_|refine aR ⟨_,rfl,?_⟩)
  all_goals first
   | (exfalso;(simp only[oZ] at *;omega);done)
   | refine⟨[0],eI .i64 0,[(0,BF b (p+1))],⟨by first|(simp;done)|decide|(intro i hi;match i with|0=>rfl),by decide⟩,rfl,by (simp[cX,zC,hΓ]),rfl,rfl,rfl⟩
 have hl:0 < b.length:=by omega
 have hn:0 < n:=by omega
 by_cases hp:p < b.length
 ·obtain⟨c,hc⟩:=get_some (l:=b) (k:=(p+1 - 1).toNat) (by omega)
  have hc':=get_map (g:=Tv) hc
  have hcl:=c.toNat_lt
  refine⟨(c.toNat:Int) % n,Int.emod_nonneg _ (by omega),.inr (Int.emod_lt_of_pos _ hn),?_⟩
  refine eR Tryz.func168 rfl (by kernel_rfl) rfl ?_;intro Γ hΓ
  (repeat' first|refine sN rfl ?_ |(refine sA rfl ?_ ?_;first|exact tI|omega) |(refine s4 rfl ‹_› rfl ?_ ?_;omega) |refine s2 rfl fun _ _hb=>?_ |refine s3 rfl ?_ ?_<;>rintro rfl |refine aU rfl ?_ |refine Aa ?_ |refine rE (by kernel_rfl) ?_|(refine aC rfl ?_ ?_<;>rintro⟨⟩)|refine aK ?_|refine aE ?_|refine aB ?_|refine aR ⟨_,rfl,?_⟩)
  all_goals first
   | (exfalso;(simp only[oZ] at *;omega);done)
   | refine⟨[0],_,[(0,BF b (p+1))],⟨by first|(simp;done)|decide|(intro i hi;match i with|0=>rfl),by decide⟩,rfl,by (simp[cX,zC,hΓ]),rfl,rfl,rfl⟩
 ·have hl':(0:Int) < b.length:=by omega
  have i1:=Int.emod_nonneg (p+1 - 1) (show (b.length:Int)≠0 by omega)
  have i2:=Int.emod_lt_of_pos (p+1 - 1) hl'
  have j1:=Int.emod_nonneg ((p+1 - 1)*7+3) (show (b.length:Int)≠0 by omega)
  have j2:=Int.emod_lt_of_pos ((p+1 - 1)*7+3) hl'
  obtain⟨c,hc⟩:=get_some (l:=b) (k:=((p+1 - 1) % (b.length:Int)).toNat) (by omega)
  have hc':=get_map (g:=Tv) hc
  have hcl:=c.toNat_lt
  obtain⟨d,hd⟩:=get_some (l:=b) (k:=(((p+1 - 1)*7+3) % (b.length:Int)).toNat) (by omega)
  have hd':=get_map (g:=Tv) hd
  have hdl:=d.toNat_lt
  have q1:0≤(p+1 - 1) / (b.length:Int):=Int.ediv_nonneg (by omega) (by omega)
  have q2:(p+1 - 1) / (b.length:Int)≤p+1 - 1:=Int.ediv_le_self _ (by omega)
  obtain⟨x,hx⟩:∃x,x=(c.toNat:Int)*131+(d.toNat:Int)*1117+(p+1 - 1)*29+(p+1 - 1) / (b.length:Int)*53:=⟨_,rfl⟩
  have x1:0≤x∧x < 1000000000000:=by omega
  have y1:=WH (x:=x) (y:=x / 64) (by omega) (by omega)
  refine⟨PR .i64 x (x / 64) % n,Int.emod_nonneg _ (by omega),.inr (Int.emod_lt_of_pos _ hn),?_⟩
  refine eR Tryz.func168 rfl (by kernel_rfl) rfl ?_;intro Γ hΓ
  (repeat' first|refine sN rfl ?_ |(refine sA rfl ?_ ?_;first|exact tI|omega) |(refine s4 rfl ‹_› rfl ?_ ?_;omega) |(refine s2 rfl fun _ _hb=>?_;try (simp only[Bool.not_true,Bool.not_false] at _hb;subst _hb))|(refine Ag rfl ?_;refine gA rfl ?_;first| refine gS (fun _ _=>aX rfl rfl rfl) ?_) |refine s3 rfl ?_ ?_<;>rintro rfl |refine aU rfl ?_ |refine Aa ?_ |refine rE (by kernel_rfl) ?_|(refine aC rfl ?_ ?_<;>rintro⟨⟩)|refine aK ?_|refine aR ⟨_,rfl,?_⟩|(rw [←hx]))
  all_goals first
   | (exfalso;(simp only[oZ] at *;omega);done)
   | refine⟨[0],_,[(0,BF b (p+1))],⟨by first|(simp;done)|decide|(intro i hi;match i with|0=>rfl),by decide⟩,rfl,by (simp[cX,zC,hΓ]),rfl,rfl,rfl⟩
theorem HJ(b:List UInt8)(hb:b.length≤2000)(p:Int)(h0:0≤p∧p < 1000000000)(l:List Int)(hl:0 < l.length)(hl2:l.length < 1000000):∃k∈l,Spec Tryz.prog TB 108 [(0,BF b p)] 1 [.o (.ptr 0 2 0 0),Aj l] (fun x σ nx=>x=eI .i64 k∧σ=[(0,BF b (p+1))]∧nx=1):=by
 obtain⟨k,k1,k2,h⟩:=BH (TB:=TB) b hb p l.length h0
 obtain⟨x,hx⟩:=get_some (l:=l) (k:=k.toNat) (by omega)
 have hx':=get_map (g:=Bq) hx
 refine⟨x,List.mem_of_getElem? hx,?_⟩
 refine eR Tryz.func108 rfl (by kernel_rfl) rfl ?_;intro Γ hΓ
 (repeat first|refine sN rfl ?_ |refine tA rfl ?_ |refine aU rfl ?_ |refine Aa ?_)
 (refine pW rfl ?_ rfl (by rfl);refine AD [0] rfl rfl (h) ⟨rfl,by decide,by decide⟩ rfl (by simp[cX,zC,hΓ]) ?_;rintro x0 σ1 nx1 ⟨rfl,rfl,rfl⟩ _)
 (repeat first|refine tA rfl ?_ |(refine s4 rfl ‹_› rfl ?_ ?_;omega) |refine Aa ?_)
 refine aR ⟨_,rfl,?_⟩
 refine⟨[0],_,[(0,BF b (p+1))],⟨by first|(simp;done)|decide|(intro i hi;match i with|0=>rfl),by decide⟩,rfl,by (simp[cX,zC,hΓ]),rfl,rfl,rfl⟩
theorem XH(b:List UInt8)(hb:b.length≤2000)(p:Int)(h0:0≤p∧p < 1000000000)(l:List W)(hl:0 < l.length)(hl2:l.length < 1000000):∃k∈l,Spec Tryz.prog TB 195 [(0,BF b p)] 1 [.o (.ptr 0 2 0 0),Bg l] (fun x σ nx=>x=eT k∧σ=[(0,BF b (p+1))]∧nx=1):=by
 obtain⟨k,k1,k2,h⟩:=BH (TB:=TB) b hb p l.length h0
 obtain⟨x,hx⟩:=get_some (l:=l) (k:=k.toNat) (by omega)
 have hx':=get_map (g:=BC) hx
 refine⟨x,List.mem_of_getElem? hx,?_⟩
 refine eR Tryz.func195 rfl (by kernel_rfl) rfl ?_;intro Γ hΓ
 (repeat first|refine sN rfl ?_ |refine tA rfl ?_ |refine aU rfl ?_ |refine Aa ?_)
 (refine pW rfl ?_ rfl (by rfl);refine AD [0] rfl rfl (h) ⟨rfl,by decide,by decide⟩ rfl (by simp[cX,zC,hΓ]) ?_;rintro x0 σ1 nx1 ⟨rfl,rfl,rfl⟩ _)
 (repeat first|refine tA rfl ?_ |(refine s4 rfl ‹_› rfl ?_ ?_;omega) |refine Aa ?_)
 refine aR ⟨_,rfl,?_⟩
 refine⟨[0],_,[(0,BF b (p+1))],⟨by first|(simp;done)|decide|(intro i hi;match i with|0=>rfl),by decide⟩,rfl,by (simp[cX,zC,hΓ]),rfl,rfl,rfl⟩
abbrev Uh(al:Int)(i j:Nat)(n m:Nat):E:=.a [.d (iD al),.arr i 1 0 n,.arr j 1 0 m]
def N6(b:List UInt8)(al p n:Int)(x:E)(σ:Ab)(nx:Nat):Prop:=∃(p':Int) (l:GV) (ac:List Bool),(p≤p'∧p'≤p+7*n)∧(l.length:Int)=n∧ac.length=l.length∧(∀x∈l,x.2.length=(Ac al).length)∧
 x=Uh al 1 2 l.length ac.length∧σ=[(0,BF b p'),(1,.cells 84 1 (AA l)),(2,.cells 4 1 (ac.map AQ)),(3,.sld 3 (sI l))]∧nx=4
theorem JK(b:List UInt8)(hb:b.length≤2000)(p:Int)(h0:0≤p∧p < 900000000)(al n:Int)(hn:0≤n∧n < 1000):Bl Tryz.prog TB 310 1 [(0,BF b p)] 1 [.o (.ptr 0 2 0 0),eI .i64 al,eI .i64 n] (N6 b al p n):=by
 have hla:(Ac al).length≤6:=AL al 6
 refine Bl.AX (Bl.YL (m:=1) (Nat.le_of_ble_eq_true rfl) Tryz.func310 rfl (by kernel_rfl) (Nat.le_of_ble_eq_true rfl) ?_);intro Γ hΓ
 (repeat first|refine tA rfl ?_ |refine aU rfl ?_ |refine Aa ?_)
 (refine pW rfl ?_ rfl (by rfl);refine Fe 1 1 84 2 1 4 rfl rfl (by decide) rfl rfl (by rfl) (by rfl) ?_)
 (repeat first|refine sN rfl ?_ |refine tA rfl ?_ |refine sP rfl (Cf al) rfl ?_ |refine aU rfl ?_ |refine Aa ?_)
 refine aB ?_
 refine Ak.Xp 3 ?_
 refine aL (α:={s:Nat×Int×GV×List Bool // (s.1:Int)≤n∧(p≤s.2.1∧s.2.1≤p+7*s.1)∧s.2.2.1.length=s.1∧s.2.2.2.length=s.1∧∀x∈s.2.2.1,x.2.length=(Ac al).length}) [0,2,6,7,8] [1] rfl rfl (fun s=>[(9,eI .i64 s.1.1)]) (fun s=>[(0,BF b s.1.2.1),(2,.cells 84 1 (AA s.1.2.2.1)),(3,.cells 4 1 (s.1.2.2.2.map AQ)),(4,.cells 41 3 [[.d (iD al),.arr 2 1 0 s.1.2.2.1.length,.arr 3 1 0 s.1.2.2.2.length]]),(5,.sld 3 (sI s.1.2.2.1))]) 6 (fun s=>n.toNat - s.1.1) (⟨⟨0,p,[],[]⟩,by simp;omega⟩) hΓ rfl (by (simp[cX,zC,hΓ]<;>rfl)) ?_;rintro⟨⟨k,q,l,ac⟩,hk,hq,hl,hac,hx⟩;(try dsimp only[cA,cB])
 have hk:(k:Int)≤n:=hk
 have hq:p≤q∧q≤p+7*k:=hq
 have hl:l.length=k:=hl
 have hac:ac.length=k:=hac
 (repeat first|refine tM rfl ?_ |refine s2 rfl fun _ _hb=>?_ |refine aU rfl ?_ |refine Aa ?_)
 ((refine aC rfl ?_ ?_<;>rintro⟨⟩);all_goals try (simp at _hb;done))
 ·have hlt:(k:Int) < n:=by (simp only[oZ] at *;omega)
  refine aK ?_
  refine aS (aB ?_)
  (repeat first|refine aU rfl ?_)
  (refine pW rfl ?_ rfl (by rfl);refine A1 rfl rfl rfl rfl (by simp) (by rfl) (by rfl) (by rfl) (by rfl) ?_)
  (repeat first|refine tX rfl ?_ |refine aU rfl ?_ |refine Aa ?_)
  refine aB ?_
  refine aL (α:={s:Nat×Int×List Int // s.1≤(Ac al).length∧(q≤s.2.1∧s.2.1≤q+s.1)∧s.2.2.length=s.1}) [0,2,6,7,8,9] [1,2,3,4,5] rfl rfl (fun s=>[(10,.o (.arr 6 1 0 s.1.2.2.length)),(11,eI .i64 s.1.1)]) (fun s=>[(0,BF b s.1.2.1),(6,.cells 3 1 (s.1.2.2.map AB))]) 7 (fun s=>(Ac al).length - s.1.1) (⟨⟨0,q,[]⟩,by simp⟩) hΓ rfl (by (simp[cX,zC,hΓ,O6])) ?_;rintro⟨⟨j,u,xs⟩,hj,hu,hxs⟩;(try dsimp only[cA,cB])
  have hj:j≤(Ac al).length:=hj
  have hu:q≤u∧u≤q+j:=hu
  have hxs:xs.length=j:=hxs
  (repeat first|refine tM rfl ?_ |refine s2 rfl fun _ _hb=>?_ |refine aU rfl ?_ |refine Aa ?_)
  ((refine aC rfl ?_ ?_<;>rintro⟨⟩);all_goals try (simp at _hb;done))
  ·obtain⟨c,c1,c2,hp⟩:=BH (TB:=TB) b hb u n (by omega)
   refine aK ?_
   refine aS (aB ?_)
   (repeat first|refine tA rfl ?_ |refine aU rfl ?_)
   (refine pW rfl ?_ rfl (by rfl);refine AD [0] rfl rfl (hp) ⟨rfl,by decide,by decide⟩ rfl (by simp[cX,zC,hΓ]) ?_;rintro x0 σ1 nx1 ⟨rfl,rfl,rfl⟩ _)
   (repeat first|refine tA rfl ?_)
   (refine pW rfl ?_ rfl (by rfl);refine Aw rfl rfl rfl (by first| (simp;done)|(simp;(omega))) rfl (by intro r hr;simp at hr;subst hr;rfl) (by rfl) (Nat.le_of_ble_eq_true rfl) (by simp;omega) ?_)
   (repeat first|(refine sA rfl ?_ ?_;first|exact tI|omega) |refine aU rfl ?_ |refine Aa ?_)
   refine⟨⟨⟨j+1,u+1,xs++[c]⟩,by simp;(simp only[oZ] at *;omega)⟩,by dsimp only;((simp only[oZ] at *;omega)),[0,1,2,3,4,5,7],?_⟩
   (simp[cX,zC,hΓ,cN]<;>rfl)
  ·obtain rfl:j=(Ac al).length:=by (simp only[oZ] at *;omega)
   obtain⟨c,c1,c2,hp⟩:=BH (TB:=TB) b hb u 3 (by omega)
   refine aE ?_
   (repeat first|refine tX rfl ?_ |refine aU rfl ?_)
   (refine pW rfl ?_ rfl (by rfl);refine A1 rfl rfl rfl rfl (by simp [eC]) (by rfl) (by rfl) (by rfl) (by rfl) ?_)
   (refine pW rfl ?_ rfl (by rfl);refine Aw rfl rfl rfl (BW _) rfl (by intro r hr;simp at hr;subst hr;rfl) (by rfl) (Nat.le_of_ble_eq_true rfl) (by simp;omega) ?_)
   (repeat first|refine tX rfl ?_ |refine Aa ?_)
   refine Ak.Ql 8 6 5 l xs rfl rfl rfl fun v=>?_
   refine rG (ZQ [(1,14),(3,1016),(6,1),(8,1)]) (by kernel_rfl) ?_
   (repeat first|refine tA rfl ?_)
   (refine Ag rfl ?_;refine Dc ?_ rfl ⟨rfl,rfl⟩;refine AD [0] rfl rfl (hp) ⟨rfl,by decide,by decide⟩ rfl (by simp[cX,zC,hΓ,cN]) ?_;rintro x0 σ1 nx1 ⟨rfl,rfl,rfl⟩ _;refine⟨Ip 4 rfl rfl,?_⟩)
   (repeat first|refine tA rfl ?_ |refine s2 rfl fun _ _hb=>?_)
   (refine pW rfl ?_ rfl (by rfl);refine Aw rfl rfl rfl (by first| (simp;done)|(simp;(omega))) rfl (by intro r hr;simp at hr;subst hr;rfl) (by rfl) (Nat.le_of_ble_eq_true rfl) (by simp;omega) ?_)
   (repeat first|(refine sA rfl ?_ ?_;first|exact tI|omega) |refine aU rfl ?_ |refine Aa ?_)
   subst _hb
   have hx2:∀x∈l++[(v,xs)],x.2.length=(Ac al).length:=fun x hm=>by
    rcases List.mem_append.1 hm with hm|hm
    ·exact hx x hm
    ·simp at hm;subst hm;exact hxs
   refine⟨⟨⟨k+1,u+1,l++[(v,xs)],ac++[decide (c > 0)]⟩,by dsimp only;omega,by dsimp only;omega,by simp;omega,by simp;omega,hx2⟩,by dsimp only;(omega),[0,1,8,9,4,5],?_⟩
   (simp[cX,zC,hΓ,cN]<;>rfl)
 ·have hkn:(k:Int)=n:=by (simp only[oZ] at *;omega)
  refine aE ?_
  (repeat first|refine tA rfl ?_ |refine aU rfl ?_ |refine Aa ?_)
  refine aR ⟨_,rfl,[0,2,3,5],Uh al 1 2 l.length ac.length,[(0,BF b q),(1,.cells 84 1 (AA l)),(2,.cells 4 1 (ac.map AQ)),(3,.sld 3 (sI l))],⟨by intro i hi;match i with|0=>rfl,by decide⟩,rfl,by (simp[cX,zC,hΓ,cN]),q,l,ac,by omega,by omega,by omega,hx,rfl,rfl,rfl⟩
theorem SI(b:List UInt8)(hb:b.length≤2000)(p:Int)(h0:0≤p∧p < 900000000)(al n:Int)(hn:1≤n∧n < 1000):Bl Tryz.prog TB 298 1 [(0,BF b p)] 1 [.o (.ptr 0 2 0 0),eI .i64 al,eI .i64 n] (N6 b al p n):=by
 have hla:(Ac al).length≤6:=AL al 6
 refine Bl.AX (Bl.YL (m:=1) (Nat.le_of_ble_eq_true rfl) Tryz.func298 rfl (by kernel_rfl) (Nat.le_of_ble_eq_true rfl) ?_);intro Γ hΓ
 (repeat first|refine tA rfl ?_ |refine aU rfl ?_ |refine Aa ?_)
 (refine pW rfl ?_ rfl (by rfl);refine GZ [0] rfl rfl 1 (JK b hb p h0 al n (by omega)) (by decide) ⟨rfl,by decide,by decide⟩ rfl (by simp[cX,zC,hΓ]) ?_;rintro x0 σ1 nx1 ⟨q,l,ac,hq,hl,hac,hx,rfl,rfl,rfl⟩ _)
 (repeat first|refine tA rfl ?_ |refine aU rfl ?_ |refine Aa ?_)
 refine aB ?_
 refine aL (α:={s:Nat×List Bool // (s.1:Int)≤n∧s.2.length=l.length}) [2,6,7] [1] rfl rfl (fun s=>[(8,eI .i64 s.1.1)]) (fun s=>[(0,BF b q),(2,.cells 84 1 (AA l)),(4,.sld 3 (sI l)),(3,.cells 4 1 (s.1.2.map AQ)),(5,.cells 41 3 [[.d (iD al),.arr 2 1 0 l.length,.arr 3 1 0 s.1.2.length]])]) 6 (fun s=>n.toNat - s.1.1) (⟨⟨0,ac⟩,by simp;omega⟩) hΓ rfl (by (simp[cX,zC,hΓ,cN])) ?_;rintro⟨⟨k,bc⟩,hk,hbc⟩;(try dsimp only[cA,cB])
 have hk:(k:Int)≤n:=hk
 have hbc:bc.length=l.length:=hbc
 (repeat first|refine tM rfl ?_ |refine s2 rfl fun _ _hb=>?_ |refine aU rfl ?_ |refine Aa ?_)
 ((refine aC rfl ?_ ?_<;>rintro⟨⟩);all_goals try (simp at _hb;done))
 ·have hlt:(k:Int) < n:=by (simp only[oZ] at *;omega)
  obtain⟨c,hc⟩:=get_some (l:=bc) (k:=0+(k:Int).toNat) (by omega)
  have hc':=get_map (g:=AQ) hc
  refine aK ?_
  refine aS (aB ?_)
  (repeat first|(refine sA rfl ?_ ?_;first|exact tI|omega) |refine t4 rfl ‹_› rfl ?_ |refine s2 rfl fun _ _hb=>?_ |refine aU rfl ?_ |refine Aa ?_)
  subst _hb
  refine⟨⟨⟨k+1,bc.set k (decide ((k:Int) < n - 1))⟩,by dsimp only;omega,by simp;omega⟩,by dsimp only;(omega),[0,1,2,3,4,5],?_⟩
  (simp[cX,zC,hΓ,cN,List.map_set,Ai,eC]<;>rfl)
 obtain⟨K,hK⟩:∃K:Nat,(K:Int)=n - 1:=⟨(n - 1).toNat,by omega⟩
 obtain⟨y,hy⟩:=get_some (l:=l) (k:=K) (by omega)
 refine aE ?_
 (repeat first|refine tA rfl ?_ |refine aU rfl ?_ |refine Aa ?_)
 refine aB ?_
 refine Ak.Zd 2 4 l K y hy rfl rfl ?_
 have hyl:y.2.length=(Ac al).length:=hx y (List.mem_of_getElem? hy)
 have hKK:((AA l).set K [.arr 6 1 0 y.2.length])[0+(n - 1).toNat]? = some [.arr 6 1 0 y.2.length]:=by
  rw [←hK,Nat.zero_add,Int.toNat_natCast,List.getElem?_set_self (by rw [BW];omega)]
 refine aL (α:={s:Nat×List Int // s.1≤y.2.length∧s.2.length=y.2.length}) [2,6,7] [0,1,2,3,4,5] rfl rfl (fun s=>[(9,eI .i64 s.1.1)]) (fun s=>[(6,.cells 3 1 (s.1.2.map AB))]) 7 (fun s=>y.2.length - s.1.1) (⟨⟨0,y.2⟩,by simp⟩) hΓ rfl (by (simp[cX,zC,hΓ,cN])) ?_;rintro⟨⟨j,ys⟩,hj,hys⟩;(try dsimp only[cA,cB])
 have hj:j≤y.2.length:=hj
 have hys:ys.length=y.2.length:=hys
 (repeat first|(refine sA rfl ?_ ?_;first|exact tI|omega) |refine t4 rfl ‹_› rfl ?_ |refine s2 rfl fun _ _hb=>?_ |refine aU rfl ?_ |refine Aa ?_)
 ((refine aC rfl ?_ ?_<;>rintro⟨⟩);all_goals try (simp at _hb;done))
 ·have hlt:j < y.2.length:=by (simp only[oZ] at *;omega)
  obtain⟨c,hc⟩:=get_some (l:=ys) (k:=0+(j:Int).toNat) (by omega)
  have hc':=get_map (g:=AB) hc
  refine aK ?_
  refine aS (aB ?_)
  (repeat first|(refine sA rfl ?_ ?_;first|exact tI|omega) |refine t4 rfl ‹_› rfl ?_ |refine aU rfl ?_ |refine Aa ?_)
  refine⟨⟨⟨j+1,ys.set j (n - 1)⟩,by dsimp only;omega,by simp;omega⟩,by dsimp only;(omega),[0,1,2,3,4,5,6],?_⟩
  (simp[cX,zC,hΓ,cN,List.map_set,Ai,eC]<;>rfl)
 refine aE ?_
 refine Ak.putAt 2 6 4 l K y hy ys (by rw [hys];rfl) rfl rfl fun v=>?_
 (repeat first|refine tA rfl ?_ |refine aU rfl ?_ |refine Aa ?_)
 have hx2:∀x∈l.set K (v,ys),x.2.length=(Ac al).length:=fun x hm=>by
  rcases List.mem_or_eq_of_mem_set hm with hm|hm
  ·exact hx x hm
  ·subst hm;exact hys.trans hyl
 refine aR ⟨_,rfl,[0,2,3,4],Uh al 1 2 (l.set K (v,ys)).length bc.length,[(0,BF b q),(1,.cells 84 1 (AA (l.set K (v,ys)))),(2,.cells 4 1 (bc.map AQ)),(3,.sld 3 (sI (l.set K (v,ys))))],⟨by intro i hi;match i with|0=>rfl,by decide⟩,by rw [List.length_set];rfl,by (simp[cX,zC,hΓ,cN]),q,l.set K (v,ys),bc,by omega,by rw [List.length_set];omega,by rw [List.length_set];omega,hx2,rfl,rfl,rfl⟩
structure JB (m:Nat) (a:AP):Prop where
 nx:a.nx.length≤m
 ac:a.ac.length≤m
 row:∀r∈a.nx,r.length≤m
def Ed(b:List UInt8)(p w:Int)(Q:AP→Prop)(x:E)(σ:Ab)(nx:Nat):Prop:=∃(p':Int) (a:AP),(p≤p'∧p'≤p+w)∧Q a∧x=A2 a∧σ=[(0,BF b p')]∧nx=1
theorem U7{al:Int}{l:GV}{ac:List Bool}{n:Int}{m:Nat}(h1:(l.length:Int)=n)(h2:ac.length=l.length)(h3:∀x∈l,x.2.length=(Ac al).length)(hn:n≤m)(hm:6≤m):JB m ⟨al,l.map (·.2),ac⟩:=by
 have hla:(Ac al).length≤6:=AL al 6
 refine⟨by simp;omega,by simp;omega,fun r hr=>?_⟩
 obtain⟨x,hx,rfl⟩:=List.mem_map.1 hr
 have:=h3 x hx
 omega
theorem MC(b:List UInt8)(hb:b.length≤2000)(p:Int)(h0:0≤p∧p < 800000000)(al:Int):Spec Tryz.prog TB 293 [(0,BF b p)] 1 [.o (.ptr 0 2 0 0),eI .i64 al] (Ed b p 50 (fun a=>a.al=al∧JB 6 a)):=by
 obtain⟨c,c1,c2,hp⟩:=BH (TB:=TB) b hb p 2 (by omega)
 obtain⟨n1,m1,k1⟩:=HJ (TB:=TB) b hb (p+1) (by omega) [3,2,4,1] (by decide) (by decide)
 obtain⟨n2,m2,k2⟩:=HJ (TB:=TB) b hb (p+1) (by omega) [2,3,1,4,5] (by decide) (by decide)
 have m1':1≤n1∧n1≤5:=by simp at m1;omega
 have m2':1≤n2∧n2≤5:=by simp at m2;omega
 have f1:=SI (TB:=TB) b hb (p+1+1) (by omega) al n1 (by omega)
 have f2:=JK (TB:=TB) b hb (p+1+1) (by omega) al n2 (by omega)
 refine eR Tryz.func293 rfl (by kernel_rfl) rfl ?_;intro Γ hΓ
 (repeat first|refine tA rfl ?_ |refine aU rfl ?_ |refine Aa ?_)
 (refine pW rfl ?_ rfl (by rfl);refine AD [0] rfl rfl (hp) ⟨rfl,by decide,by decide⟩ rfl (by simp[cX,zC,hΓ]) ?_;rintro x0 σ1 nx1 ⟨rfl,rfl,rfl⟩ _)
 (repeat first|refine s2 rfl fun _ _hb=>?_ |refine Aa ?_)
 (refine aC rfl ?_ ?_<;>rintro⟨⟩)
 ·(repeat first|refine tA rfl ?_ |refine aU rfl ?_)
  (refine pW rfl ?_ rfl (by rfl);refine AD [0] rfl rfl (k1) ⟨rfl,by decide,by decide⟩ rfl (by simp[cX,zC,hΓ]) ?_;rintro x0 σ1 nx1 ⟨rfl,rfl,rfl⟩ _)
  (refine pW rfl ?_ rfl (by rfl);refine GZ [0] rfl rfl 1 (f1) (by decide) ⟨rfl,by decide,by decide⟩ rfl (by simp[cX,zC,hΓ,cN]) ?_;rintro x0 σ1 nx1 ⟨q,l,ac,hq,hl,hac,hx,rfl,rfl,rfl⟩ _)
  (repeat first|refine tA rfl ?_ |refine Aa ?_)
  refine Ak.AT [4] [] rfl rfl [] [(0,BF b q),(1,.cells 41 3 [[.d (iD al),.arr 2 1 0 l.length,.arr 3 1 0 ac.length]]),(2,.cells 84 1 (AA l)),(3,.cells 4 1 (ac.map AQ)),(4,.sld 3 (sI l))] [0,1,2,3,4] (rl hΓ rfl) (by (simp[cX,zC,hΓ,cN])) ?_;(try dsimp only[cA,cB])
  refine Ak.Bi [1,2,3,4] [(4,.o (.ip (Bm ⟨al,l.map (·.2),ac⟩)))] ⟨⟨_,rfl,.inr (.o (.box rfl (.cons .d (.cons (.Me (s:=4) rfl rfl) (.cons (.full rfl (by simp [Function.comp_def]) (by simp)) .nil)))))⟩,trivial⟩ ?_
  refine aR ⟨_,rfl,[0],A2 ⟨al,l.map (·.2),ac⟩,[(0,BF b q)],⟨by intro i hi;match i with|0=>rfl,by decide⟩,rfl,by (simp[cX,zC,hΓ,cN]),q,_,by omega,⟨rfl,U7 hl hac hx (by omega) (by omega)⟩,rfl,rfl,rfl⟩
 ·refine aK ?_
  (repeat first|refine tA rfl ?_ |refine aU rfl ?_)
  (refine pW rfl ?_ rfl (by rfl);refine AD [0] rfl rfl (k2) ⟨rfl,by decide,by decide⟩ rfl (by simp[cX,zC,hΓ]) ?_;rintro x0 σ1 nx1 ⟨rfl,rfl,rfl⟩ _)
  (refine pW rfl ?_ rfl (by rfl);refine GZ [0] rfl rfl 1 (f2) (by decide) ⟨rfl,by decide,by decide⟩ rfl (by simp[cX,zC,hΓ,cN]) ?_;rintro x0 σ1 nx1 ⟨q,l,ac,hq,hl,hac,hx,rfl,rfl,rfl⟩ _)
  (repeat first|refine tA rfl ?_ |refine Aa ?_)
  refine Ak.AT [4] [] rfl rfl [] [(0,BF b q),(1,.cells 41 3 [[.d (iD al),.arr 2 1 0 l.length,.arr 3 1 0 ac.length]]),(2,.cells 84 1 (AA l)),(3,.cells 4 1 (ac.map AQ)),(4,.sld 3 (sI l))] [0,1,2,3,4] (rl hΓ rfl) (by (simp[cX,zC,hΓ,cN])) ?_;(try dsimp only[cA,cB])
  refine Ak.Bi [1,2,3,4] [(4,.o (.ip (Bm ⟨al,l.map (·.2),ac⟩)))] ⟨⟨_,rfl,.inr (.o (.box rfl (.cons .d (.cons (.Me (s:=4) rfl rfl) (.cons (.full rfl (by simp [Function.comp_def]) (by simp)) .nil)))))⟩,trivial⟩ ?_
  refine aR ⟨_,rfl,[0],A2 ⟨al,l.map (·.2),ac⟩,[(0,BF b q)],⟨by intro i hi;match i with|0=>rfl,by decide⟩,rfl,by (simp[cX,zC,hΓ,cN]),q,_,by omega,⟨rfl,U7 hl hac hx (by omega) (by omega)⟩,rfl,rfl,rfl⟩
def TD(a:AP)(x:E)(σ:Ab)(nx:Nat):Prop:=∃l:GV,l.map (·.2)=a.nx∧
 x=Uh a.al 0 1 l.length a.ac.length∧σ=[(0,.cells 84 1 (AA l)),(1,.cells 4 1 (a.ac.map AQ)),(2,.sld 3 (sI l))]∧nx=3
theorem MB(a:AP)(ha:JB 1000000 a):Bl Tryz.prog TB 178 0 [] 0 [A2 a] (TD a):=by
 have ha1:=ha.nx
 have ha2:=ha.ac
 refine Bl.AX (Bl.YL (m:=0) (Nat.le_of_ble_eq_true rfl) Tryz.func178 rfl (by kernel_rfl) (Nat.le_of_ble_eq_true rfl) ?_);intro Γ hΓ
 (repeat first|refine tA rfl ?_ |refine aU rfl ?_ |refine Aa ?_)
 refine R.Xh [(0,2),(1,2),(3,2),(4,2),(7,3),(2,1),(5,1),(6,1),(8,5)] mixed (by kernel_rfl) rfl (by kernel_rfl) ?_
 (repeat ((refine R.Ag rfl ?_;first|(refine R.yQ (md:=false) rfl rfl rfl ?_ ?_;exact tI) |refine R.yP rfl rfl rfl rfl ?_ )))
 (refine R.Ag rfl ?_;refine R.Mf (fun _=>?_) rfl rfl;refine A1 rfl rfl rfl rfl (by simp) (by rfl) (by rfl) (by rfl) (by rfl) ?_)
 (refine R.Ag rfl ?_;refine R.Mf (fun _=>?_) rfl rfl;refine Aw rfl rfl rfl (by simp) rfl (by intro r hr;simp only [List.map_map,List.mem_map] at hr;obtain⟨_,_,rfl⟩:=hr;rfl) (by rfl) (Nat.le_of_ble_eq_true rfl) (by simp;omega) ?_)
 (refine R.Ag rfl ?_;refine R.Mf (fun _=>?_) rfl rfl;refine OP 1 1 84 rfl rfl rfl (by rfl) (by rfl) ?_)
 (repeat ((refine R.Ag rfl ?_;first|refine R.yA rfl rfl rfl rfl ?_ )))
 refine R.WN ?_
 refine aS ?_
 (repeat first|refine tA rfl ?_ |refine aU rfl ?_ |refine Aa ?_)
 refine aB ?_
 refine Ak.Xp 3 ?_
 refine aL (α:={s:Nat×GV // s.1≤a.nx.length∧s.2.map (·.2)=a.nx.take s.1}) [1,2,3] [] rfl rfl (fun s=>[(4,eI .i64 s.1.1)]) (fun s=>[(0,.cells 41 3 [[.d (iD 0),.d (.l []),.d (.l [])]]),(2,.cells 4 1 (a.ac.map AQ)),(3,.cells 84 1 (AA s.1.2)),(4,.cells 41 3 [[.d (iD a.al),.arr 3 1 0 s.1.2.length,.arr 2 1 0 a.ac.length]]),(5,.sld 3 (sI s.1.2))]) 6 (fun s=>a.nx.length - s.1.1) (⟨⟨0,[]⟩,by simp⟩) hΓ rfl (by (simp[cX,zC,hΓ,cN,BZ,Ai,eC]<;>rfl)) ?_;rintro⟨⟨k,l⟩,hk,hl⟩;(try dsimp only[cA,cB])
 have hk:k≤a.nx.length:=hk
 have hl:l.map (·.2)=a.nx.take k:=hl
 have hll:l.length=k:=by have:=congrArg List.length hl;simp at this;omega
 (repeat first|refine sN rfl ?_ |refine tA rfl ?_ |refine s2 rfl fun _ _hb=>?_ |refine aU rfl ?_ |refine Aa ?_)
 ((refine aC rfl ?_ ?_<;>rintro⟨⟩);all_goals try (simp at _hb;done))
 ·have hlt:k < a.nx.length:=by (simp only[oZ] at *;omega)
  obtain⟨r,hx⟩:=get_some (l:=a.nx) (k:=k) hlt
  have hx':=get_map (g:=Dm) hx
  have hr:=ha.row r (List.mem_of_getElem? hx)
  refine aK ?_
  refine aS (aB ?_)
  refine rG ⟨Jc [(1,14),(2,1016),(8,1016),(9,1016),(10,1),(12,1)],Zl [0,1,3,4,5,6,7,2,8,9,10,11,12]⟩ (by kernel_rfl) ?_
  (repeat first|refine tX rfl ?_ |(refine s4 rfl ‹_› rfl ?_ ?_;omega))
  (refine Ag rfl ?_;refine Dc ?_ rfl ⟨rfl,rfl⟩;refine A1 rfl rfl rfl rfl (by simp) (by rfl) (by rfl) (by rfl) (by rfl) ?_;refine⟨Ip 4 rfl rfl,?_⟩)
  (refine Ag rfl ?_;refine Dc ?_ rfl ⟨rfl,rfl⟩;refine Aw rfl rfl rfl (by simp) rfl (by intro r hr;simp only [List.map_map,List.mem_map] at hr;obtain⟨_,_,rfl⟩:=hr;rfl) (by rfl) (Nat.le_of_ble_eq_true rfl) (by simp;omega) ?_;refine⟨Ip 4 rfl rfl,?_⟩)
  (refine Ag rfl ?_;refine Dc ?_ rfl ⟨rfl,rfl⟩;refine A1 rfl rfl rfl rfl (by simp [eC]) (by rfl) (by rfl) (by rfl) (by rfl) ?_;refine⟨Ip 4 rfl rfl,?_⟩)
  (refine pW rfl ?_ rfl (by rfl);refine Aw rfl rfl rfl (BW _) rfl (by intro r hr;simp at hr;subst hr;rfl) (by rfl) (Nat.le_of_ble_eq_true rfl) (by simp;omega) ?_)
  (repeat first|refine tA rfl ?_)
  refine Aa ?_
  refine Ak.AT [1,2,3,4] [] rfl rfl [] [(0,.cells 41 3 [[.d (iD 0),.d (.l []),.d (.l [])]]),(1,.cells 3 1 (r.map AB)),(2,.cells 4 1 (a.ac.map AQ)),(3,.cells 84 1 (AA l++[[.arr 1 1 0 r.length]])),(4,.cells 41 3 [[.d (iD a.al),.arr 3 1 0 (l.length+1),.arr 2 1 0 a.ac.length]]),(5,.sld 3 (sI l))] [0,7,2,9,4,5] (rl hΓ rfl) (by (simp[cX,zC,hΓ,cN,BZ,Ai,eC])) ?_;(try dsimp only[cA,cB])
  refine Ak.Ql 3 1 5 l r rfl rfl rfl fun v=>?_
  (repeat first|(refine sA rfl ?_ ?_;first|exact tI|omega) |refine aU rfl ?_ |refine Aa ?_)
  refine⟨⟨⟨k+1,l++[(v,r)]⟩,by dsimp only;omega,by dsimp only;rw [List.map_append,hl,List.take_add_one,hx];rfl⟩,by dsimp only;(omega),[0,1,2,3,4,5],?_⟩
  (simp[cX,zC,hΓ,cN]<;>rfl)
 have hkn:k=a.nx.length:=by (simp only[oZ] at *;omega)
 refine aE ?_
 (repeat first|refine tA rfl ?_ |refine aU rfl ?_ |refine Aa ?_)
 have hll:l.map (·.2)=a.nx:=by rw [hl,hkn,List.take_length]
 refine aR ⟨_,rfl,[3,2,5],Uh a.al 0 1 l.length a.ac.length,[(0,.cells 84 1 (AA l)),(1,.cells 4 1 (a.ac.map AQ)),(2,.sld 3 (sI l))],⟨by intro i hi;omega,by decide⟩,rfl,by (simp[cX,zC,hΓ,cN]),l,hll,rfl,rfl,rfl⟩
end Go.Am
