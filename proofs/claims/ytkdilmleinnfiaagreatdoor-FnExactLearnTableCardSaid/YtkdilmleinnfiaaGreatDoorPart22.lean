/-
  The reference closes a table.
-/
import Derived.Test.YtkdilmleinnfiaaGreatDoorPart21
import Derived.Test.YtkdilmleinnfiaaGreatDoorPart17
import Derived.Test.YtkdilmleinnfiaaGreatDoorPart16
import Derived.Test.YtkdilmleinnfiaaGreatDoorPart15
import Derived.Test.YtkdilmleinnfiaaGreatDoorPart18
import Derived.Test.YtkdilmleinnfiaaGreatDoorPart9
import Derived.Test.YtkdilmleinnfiaaGreatDoorPart10
import Derived.Test.YtkdilmleinnfiaaGreatDoorPart14
import Derived.Test.YtkdilmleinnfiaaGreatDoorPart19
import Derived.Test.YtkdilmleinnfiaaGreatDoorPart20
set_option linter.constructorNameAsVariable false
set_option linter.unusedSectionVars false
set_option linter.unusedSimpArgs false
set_option linter.unusedVariables false
namespace Go.Am
open Go Go.Proofs
set_option maxHeartbeats 1000000
set_option maxRecDepth 4000
attribute [local irreducible] AV BX Lex Bf Av Spec
variable {TB:Be}
theorem PF{A:W→Bool}{ls:List UInt8}{m:Nat}{u:AN}{w:W}{R:Option AN}(he:R=AZ A ls (m+1) u)(ho:AM A ls u=some w)(hl:u.rows.length < 12):R=AZ A ls m ⟨u.rows++[w],u.cols⟩:=by
 rw [he]
 conv=>lhs;unfold AZ
 rw [ho]
 dsimp only
 rw [if_neg (by omega)]
theorem LG{t:CL}{al:Int}{A:W→Bool}(hT:Ih Tryz.prog TB 93 85 t al A)(tab:AN)(hz:Na tab) :
 Pure Tryz.prog TB 29 [Cj t,B8 tab] (EP (if AF A al tab then AZ A (AO al) 13 tab else none)):=by
 have h1:=Ec hT tab hz
 by_cases hv:AF A al tab=true
 ·rw [if_pos hv]
  rw [hv] at h1
  have hsh:Pl al tab:=(Bh hv).1
  have hr1:=hsh.r1
  have hc1:=hsh.c1
  have hrl:=hsh.rl
  have hcl:=hsh.cl
  refine eG Tryz.func29 rfl (by kernel_rfl) rfl ?_;intro Γ hΓ
  (repeat first|refine tA rfl ?_ |refine s2 rfl fun _ _hb=>?_ |refine sP rfl (h1) rfl ?_ |refine aU rfl ?_ |refine Aa ?_)
  ((refine aC rfl ?_ ?_<;>rintro⟨⟩);all_goals try (simp at _hb;done))
  refine aK ?_
  (repeat first|refine aU rfl ?_)
  refine R.bk [(0,2),(1,2),(2,2),(4,2),(5,2),(6,2),(9,3),(3,1),(7,1),(8,2),(10,5)] mixed (by kernel_rfl) rfl (by kernel_rfl) ?_
  (repeat ((refine R.Ai rfl ?_;first|(refine R.yQ (md:=false) rfl rfl rfl ?_ ?_;exact tI) |refine R.yP rfl rfl rfl rfl ?_|refine R.B5 (fun _ _ _=>O5 (by rfl) (by rfl)) rfl rfl ?_ )))
  (refine R.Ai rfl ?_;refine R.RZ (fun _=>?_) rfl rfl;refine HI rfl rfl rfl (by intro r hr;simp at hr;obtain⟨_,_,rfl⟩:=hr;rfl) (by rfl) (Nat.le_of_ble_eq_true rfl) (by simp;omega) (fun h=>?_) (fun _=>?_))
  ·exfalso;simp at h;rw [h] at hr1;simp at hr1
  (refine R.Ai rfl ?_;refine R.RZ (fun _=>?_) rfl rfl;refine HI rfl rfl rfl (by intro r hr;simp at hr;obtain⟨_,_,rfl⟩:=hr;rfl) (by rfl) (Nat.le_of_ble_eq_true rfl) (by simp;omega) (fun h=>?_) (fun _=>?_))
  ·exfalso;simp at h;rw [h] at hc1;simp at hc1
  (repeat ((refine R.Ai rfl ?_;first|refine R.yA rfl rfl rfl rfl ?_|refine R.B5 (fun _ _ _=>AJ rfl rfl (by rfl) (by rfl)) rfl rfl ?_ )))
  refine R.aw ?_
  refine aS ?_
  refine Av.Cs [2] [] rfl rfl [(4,.o (.ptr 0 2 0 0)),(6,.o (.ptr 3 2 0 0))] [(0,.cells 38 2 [[.d (.l []),.d (.l [])]]),(1,.cells 9 1 (tab.rows.map Bg)),(2,.cells 9 1 (tab.cols.map Bg)),(3,.cells 38 2 [[.arr 1 1 0 tab.rows.length,.arr 2 1 0 tab.cols.length]])] [0,1,2,3] (rl hΓ rfl) (by (simp[cX,zC,hΓ])) ?_;(try dsimp only[cA,cB])
  have hfo0:=IA hT tab hz
  have htk:∀l:List W,((l.map Bg).drop 0).take l.length=(l.map BD).map (fun r=>r.map C.d):=fun l=>by rw [List.drop_zero,List.take_of_length_le (by simp)];simp [Function.comp_def]
  have hev:∀u:AN,ZB [(0,.cells 38 2 [[.d (.l []),.d (.l [])]]),(1,.cells 9 1 (u.rows.map Bg)),(2,.cells 9 1 (u.cols.map Bg)),(3,.cells 38 2 [[.arr 1 1 0 u.rows.length,.arr 2 1 0 u.cols.length]])] [Cj t,.a [.arr 1 1 0 u.rows.length,.arr 2 1 0 u.cols.length]] [Cj t,B8 u]:=fun u=>
   .cons (.cons (.pure rfl) (.cons (.pure rfl) (.cons (.pure rfl) (.cons (.pure rfl) (.cons (.pure rfl) (.cons (.pure rfl) (.cons (.pure rfl) (.cons (.pure rfl) (.cons (.pure rfl) (.cons (.pure rfl) (.cons (.pure rfl) .nil))))))))))) (.cons (.cons (.arr rfl (by simp) (htk _)) (.cons (.arr rfl (by simp) (htk _)) .nil)) .nil)
  have hop:∀x:AN,RA (AM A (AO al) x)=.t [(false,[.d (tD ((AM A (AO al) x).getD []))]),(false,[.d (bD (AM A (AO al) x).isSome)])]:=fun x=>by cases AM A (AO al) x<;>rfl
  rw [hop] at hfo0
  (repeat first|refine tA rfl ?_|(refine Ai rfl ?_;refine gA rfl ?_;first| refine gQ (Gz rfl rfl ((hev tab)) (hfo0) rfl) rfl ?_) |refine aU rfl ?_ |refine Aa ?_)
  obtain⟨R,hR⟩:∃R,R=AZ A (AO al) 13 tab:=⟨_,rfl⟩
  rw [←hR]
  refine aB ?_
  refine aL (α:={p:Nat×AN // p.1≤13∧13≤p.1+p.2.rows.length∧p.2.rows.length≤12∧p.2.cols.length≤20∧(∀w∈p.2.rows,w.length≤50000+p.2.rows.length)∧(∀w∈p.2.cols,w.length≤4000)∧R=AZ A (AO al) p.1 p.2}) [2,4,6] [0] rfl rfl (fun ⟨⟨m,u⟩,hm,hmu,hur,huc,hurb,hucb,he⟩=>[(7,eT ((AM A (AO al) u).getD [])),(8,eB (AM A (AO al) u).isSome)]) (fun ⟨⟨m,u⟩,hm,hmu,hur,huc,hurb,hucb,he⟩=>[(1,.cells 9 1 (u.rows.map Bg)),(2,.cells 9 1 (u.cols.map Bg)),(3,.cells 38 2 [[.arr 1 1 0 u.rows.length,.arr 2 1 0 u.cols.length]])]) 4 (fun ⟨⟨m,u⟩,hm,hmu,hur,huc,hurb,hucb,he⟩=>m) (⟨(13,tab),by simp,by simp,hrl,hcl,fun w hw=>by have:=(hsh.rw w hw).1;show w.length≤50000+tab.rows.length;omega,fun w hw=>(hsh.cw w hw).1,hR⟩) hΓ rfl (by (simp[cX,zC,hΓ])) ?_;rintro⟨⟨m,u⟩,hm,hmu,hur,huc,hurb,hucb,he⟩;(try dsimp only[cA,cB])
  dsimp only at hm hmu hur huc hurb hucb he
  have hz0:AM A (AO al) u=none∨∃w,AM A (AO al) u=some w:=by cases AM A (AO al) u<;>simp
  rcases hz0 with ho|⟨w,ho⟩
  ·rw [ho]
   have hn:R=some u:=by
    rw [he]
    obtain⟨m',rfl⟩:∃m',m=m'+1:=⟨m - 1,by omega⟩
    simp [AZ,ho]
   (repeat first|refine tA rfl ?_ |refine aU rfl ?_ |refine Aa ?_)
   ((refine aC rfl ?_ ?_<;>rintro⟨⟩);all_goals try (simp at _hb;done))
   refine aE ?_
   (repeat first|refine tA rfl ?_ |refine aU rfl ?_ |refine Aa ?_)
   refine Av.settle [(4,.o (.ip [Ba u.rows,Ba u.cols])),(5,eB true)] ⟨⟨_,rfl,.o (.box rfl (.cons (.full rfl (by simp [Function.comp_def]) (by simp)) (.cons (.full rfl (by simp [Function.comp_def]) (by simp)) .nil)))⟩,⟨_,rfl,.o .d⟩,trivial⟩ ?_
   refine aR ⟨_,rfl,?_⟩
   rw [hn];rfl
  ·rw [ho]
   obtain⟨m',rfl⟩:∃m',m=m'+1:=⟨m - 1,by omega⟩
   obtain⟨⟨r,hr,l,hl,hw⟩,_⟩:=IE ho
   have hwl:w.length≤50000+(u.rows++[w]).length:=by
    have:=hurb r hr
    rw [hw];simp;omega
   (repeat first|refine tA rfl ?_ |refine aU rfl ?_ |refine Aa ?_)
   ((refine aC rfl ?_ ?_<;>rintro⟨⟩);all_goals try (simp at _hb;done))
   refine aK ?_
   refine aB ?_
   (repeat first|refine tA rfl ?_ |refine s2 rfl fun _ _hb=>?_ |refine aU rfl ?_ |refine Aa ?_)
   (refine aC rfl ?_ ?_<;>rintro⟨⟩)
   ·have h12:u.rows.length=12:=by (simp only[oZ] at *;omega)
    have hn:R=none:=by
     rw [he]
     simp [AZ,ho,h12]
    (repeat first|refine tA rfl ?_|(refine Ai rfl ?_;refine gA rfl ?_;first| refine gS (fun _ _=>AJ rfl rfl (by rfl) (by rfl)) ?_) |refine aU rfl ?_ |refine Aa ?_)
    refine Av.settle [(4,.o (.ip [.l [],.l []])),(5,eB false)] ⟨⟨_,rfl,.o (.box rfl (.cons .d (.cons .d .nil)))⟩,⟨_,rfl,.o .d⟩,trivial⟩ ?_
    refine aR ⟨_,rfl,?_⟩
    rw [hn];rfl
   ·have hlt:u.rows.length < 12:=by (simp only[oZ] at *;omega)
    have hst:=PF he ho hlt
    have hzu:Na ⟨u.rows++[w],u.cols⟩:=⟨by simp;omega,by dsimp only;omega,fun x hx=>by
     rcases List.mem_append.1 hx with hx|hx
     ·have:=hurb x hx;omega
     ·simp at hx;subst hx;simp at hwl;omega,fun x hx=>by have:=hucb x hx;omega⟩
    have hfo:=IA hT ⟨u.rows++[w],u.cols⟩ hzu
    rw [hop] at hfo
    refine aK ?_
    (repeat first|refine tA rfl ?_ |refine aU rfl ?_)
    (refine pW rfl ?_ rfl (by rfl);refine AY rfl rfl rfl (by first| (simp;done)|(simp;(omega))) rfl (by intro r hr;simp at hr;subst hr;rfl) (by rfl) (Nat.le_of_ble_eq_true rfl) (by simp;omega) ?_)
    (repeat first|refine tA rfl ?_)
    refine Aa ?_
    have hn1:∀x∈u.rows++[w],x.length≤50000+(u.rows++[w]).length:=fun x hx=>by
     rcases List.mem_append.1 hx with hx|hx
     ·have:=hurb x hx;simp;omega
     ·simp at hx;subst hx;exact hwl
    refine Av.Cs [2,4,6] [] rfl rfl [] [(0,.cells 38 2 [[.d (.l []),.d (.l [])]]),(1,.cells 9 1 ((u.rows++[w]).map Bg)),(2,.cells 9 1 (u.cols.map Bg)),(3,.cells 38 2 [[.arr 1 1 0 (u.rows++[w]).length,.arr 2 1 0 u.cols.length]])] [0,4,2,3] (rl hΓ rfl) (by (simp[cX,zC,hΓ])) ?_;(try dsimp only[cA,cB])
    (repeat first|refine tA rfl ?_|(refine Ai rfl ?_;refine gA rfl ?_;first| refine gQ (Gz rfl rfl ((hev ⟨u.rows++[w],u.cols⟩)) (hfo) rfl) rfl ?_) |refine aU rfl ?_ |refine Aa ?_)
    refine⟨⟨⟨m',⟨u.rows++[w],u.cols⟩⟩,by dsimp only;omega,by simp;omega,by simp;omega,huc,hn1,hucb,hst⟩,by dsimp only;(omega),[0,1,2,3],?_⟩
    simp[cX,zC,hΓ]
 ·have hv:AF A al tab=false:=by simpa using hv
  rw [if_neg (by simp [hv])]
  rw [hv] at h1
  refine eG Tryz.func29 rfl (by kernel_rfl) rfl ?_;intro Γ hΓ
  (repeat first|refine tA rfl ?_ |refine s2 rfl fun _ _hb=>?_ |refine sP rfl (h1) rfl ?_ |refine aU rfl ?_ |refine Aa ?_)
  ((refine aC rfl ?_ ?_<;>rintro⟨⟩);all_goals try (simp at _hb;done))
  (repeat first|refine tA rfl ?_|(refine Ai rfl ?_;refine gA rfl ?_;first| refine gS (fun _ _=>AJ rfl rfl (by rfl) (by rfl)) ?_) |refine aU rfl ?_ |refine Aa ?_)
  refine Av.settle [(4,.o (.ip [.l [],.l []])),(5,eB false)] ⟨⟨_,rfl,.o (.box rfl (.cons .d (.cons .d .nil)))⟩,⟨_,rfl,.o .d⟩,trivial⟩ ?_
  refine aR ⟨_,rfl,rfl⟩
def Zs(o:Option Bn):E:=match o with
 | some p=>.t [(true,[.d (iD p.al),.d (Dx p.nx),.d (GZ p.ac)]),(false,[.d (bD true)])]
 | none=>.t [(true,[.d (iD 0),.d (.l []),.d (.l [])]),(false,[.d (bD false)])]
theorem JH{t:CL}{al:Int}{A:W→Bool}(hT:Ih Tryz.prog TB 93 85 t al A)(tab:AN)(hz:Na tab) :
 Pure Tryz.prog TB 31 [Cj t,B8 tab] (Zs (if A6 A al tab then some (AT A al tab) else none)):=by
 have h1:=MQ hT tab hz
 by_cases hv:A6 A al tab=true
 ·rw [if_pos hv]
  rw [hv] at h1
  obtain⟨hv1,ho,hcl⟩:=DO hv
  have hsh:=(Bh hv1).1
  have hr1:=hsh.r1
  have hrl:=hsh.rl
  have hcl:=hsh.cl
  have h2:=hT.alph
  have h3:=CO (TB:=TB) al
  have h4:Pure Tryz.prog TB 95 [Cj t,Bl tab.cols,Bl tab.rows] (Bl (Az A tab)):=IB hT tab.cols tab.rows hz.cl (fun w hw=>by have:=hz.rb w hw;omega) hz.cb hz.rl
  have hla:(Ac al).length≤6:=A0 al 6
  have hml:(Az A tab).length=tab.rows.length:=by simp [Az]
  refine eG Tryz.func31 rfl (by kernel_rfl) rfl ?_;intro Γ hΓ
  (repeat first|refine tA rfl ?_ |refine s2 rfl fun _ _hb=>?_ |refine sP rfl (h1) rfl ?_ |refine aU rfl ?_ |refine Aa ?_)
  ((refine aC rfl ?_ ?_<;>rintro⟨⟩);all_goals try (simp at _hb;done))
  refine aK ?_
  (repeat first|refine tX rfl ?_ |refine sP rfl (h2) rfl ?_ |refine aU rfl ?_)
  (refine pW rfl ?_ rfl (by rfl);refine N0 1 1 84 2 1 4 rfl rfl (by decide) rfl rfl (by rfl) (by rfl) ?_)
  (repeat first|refine tX rfl ?_ |refine sP rfl (h3) rfl ?_|refine sP rfl (h4) rfl ?_ |refine aU rfl ?_ |refine Aa ?_)
  refine aB ?_
  refine aL (α:={k:Nat // k≤tab.rows.length}) [2,3,4,6,7,8] [0] rfl rfl (fun ⟨k,hk⟩=>[(9,eI .i64 k)]) (fun ⟨k,hk⟩=>[(1,.cells 84 1 (((AT A al tab).nx.take k).map fun r=>[.d (Eg r)])),(2,.cells 4 1 (((AT A al tab).ac.take k).map fun b=>[.d (bD b)])),(3,.cells 41 3 [[.d (iD al),.arr 1 1 0 k,.arr 2 1 0 k]])]) 4 (fun ⟨k,hk⟩=>tab.rows.length - k) (⟨0,by omega⟩) hΓ rfl (by (simp[cX,zC,hΓ])) ?_;rintro⟨k,hk⟩;(try dsimp only[cA,cB])
  have hnl:(AT A al tab).nx.length=tab.rows.length:=by simp [AT]
  have hac:(AT A al tab).ac.length=tab.rows.length:=by simp [AT]
  by_cases hlt:k < tab.rows.length
  ·obtain⟨r,hx⟩:=get_some hlt
   have hx':=get_map (g:=BD) hx
   have hxm:=List.mem_of_getElem? hx
   have hrb:=hz.rb r hxm
   have hm:(Az A tab)[k]? = some (marks A tab.cols r):=by simp [Az,hx]
   have hm':=get_map (g:=BD) hm
   have hm0:(marks A tab.cols r)[(0:Int).toNat]? = some (OR (A r)):=by
    have:=hsh.c0
    simp [marks,this]
   (repeat first|refine sN rfl ?_ |refine tX rfl ?_ |refine s2 rfl fun _ _hb=>?_ |refine aU rfl ?_ |refine Aa ?_)
   refine Av.cond rfl (fun hb=>?_) (fun hb=>?_)<;>cases hb
   rotate_left
   ·exfalso;(simp only[oZ] at *;omega)
   refine aK ?_
   refine aS (aB ?_)
   (repeat first|refine aU rfl ?_)
   (refine pW rfl ?_ rfl (by rfl);refine C5 rfl rfl rfl rfl (by simp) (by rfl) (by rfl) (by rfl) (by rfl) ?_)
   (repeat first|refine tX rfl ?_ |refine aU rfl ?_ |refine Aa ?_)
   refine aB ?_
   refine aL (α:={j:Nat // j≤(Ac al).length}) [2,3,4,6,7,8,9] [0,1,2,3] rfl rfl (fun ⟨j,hj⟩=>[(10,.o (.arr 4 1 0 j)),(11,eI .i64 j)]) (fun ⟨j,hj⟩=>[(4,.cells 3 1 (((Ac al).take j).map fun l=>[.d (iD ((CD A tab (r++[lb l]):Nat):Int))]))]) 5 (fun ⟨j,hj⟩=>(Ac al).length - j) (⟨0,by omega⟩) hΓ rfl (by (simp[cX,zC,hΓ])) ?_;rintro⟨j,hj⟩;(try dsimp only[cA,cB])
   by_cases hjlt:j < (Ac al).length
   ·obtain⟨l,hl⟩:=get_some hjlt
    have hl':=get_map (g:=Bm) hl
    have hlm:=List.mem_of_getElem? hl
    have hlb:=AS hlm
    have htx:Pure Tryz.prog TB 98 [eI .i64 l] (eT [lb l]):=Kc l hlb.1 (by omega)
    have hrow:=Kb hT tab.cols (r++[lb l]) hz.cl (by simp;omega) hz.cb
    have hmm:marks A tab.cols (r++[lb l])∈Az A tab:=DU ho r hxm (lb l) (Lg hlm)
    have hix:Pure Tryz.prog TB 96 [Bl (Az A tab),eT (marks A tab.cols (r++[lb l]))] (eI .i64 (CD A tab (r++[lb l]):Nat)):=PZ (Az A tab) _ hmm (by omega)
    (repeat first|refine sN rfl ?_ |refine tX rfl ?_ |refine s2 rfl fun _ _hb=>?_ |refine aU rfl ?_ |refine Aa ?_)
    refine Av.cond rfl (fun hb=>?_) (fun hb=>?_)<;>cases hb
    rotate_left
    ·exfalso;(simp only[oZ] at *;omega)
    refine aK ?_
    refine aS (aB ?_)
    refine rG (J6 [19]) (by kernel_rfl) ?_
    (repeat first|(refine sA rfl ?_ ?_;first|exact tI|simp only[oZ] at *;omega) |(refine s4 rfl ‹_› rfl ?_ ?_;omega) |refine sP rfl (htx) rfl ?_|refine sP rfl (hrow) rfl ?_|refine sP rfl (hix) rfl ?_)
    (refine pW rfl ?_ rfl (by rfl);refine AY rfl rfl rfl (by first| (simp;done)|(simp;(omega))) rfl (by intro r hr;simp at hr;subst hr;rfl) (by rfl) (Nat.le_of_ble_eq_true rfl) (by simp;omega) ?_)
    (repeat first|(refine sA rfl ?_ ?_;first|exact tI|omega) |refine aU rfl ?_ |refine Aa ?_)
    refine⟨⟨j+1,by omega⟩,by dsimp only;(omega),[0,1,2,3,5],?_⟩
    (simp[cX,zC,hΓ,List.take_add_one,hl])
   ·obtain rfl:j=(Ac al).length:=by omega
    have hnx:(AT A al tab).nx.take (k+1)=(AT A al tab).nx.take k++[(Ac al).map fun l=>((CD A tab (r++[lb l]):Nat):Int)]:=by
     rw [List.take_add_one];simp [AT,hx]
    have hacs:(AT A al tab).ac.take (k+1)=(AT A al tab).ac.take k++[A r]:=by
     rw [List.take_add_one];simp [AT,hx]
    rw [List.take_length]
    (repeat first|refine sN rfl ?_ |refine tX rfl ?_ |refine s2 rfl fun _ _hb=>?_ |refine aU rfl ?_ |refine Aa ?_)
    refine Av.cond rfl (fun hb=>?_) (fun hb=>?_)<;>cases hb
    ·exfalso;(simp only[oZ] at *;omega)
    refine aE ?_
    refine Av.Jb [4] [2,3,4,6,7,8,9] rfl [(10,Ag ((Ac al).map fun l=>((CD A tab (r++[lb l]):Nat):Int)))] ⟨⟨_,rfl,.o (.full (by simp) rfl (by simp [Function.comp_def]) (by simp))⟩,trivial⟩ ?_;(try dsimp only[cA,cB])
    (repeat first|refine tA rfl ?_ |refine aU rfl ?_)
    (refine pW rfl ?_ rfl (by rfl);refine AY rfl rfl rfl (by first| (simp;done)|(simp;(omega))) rfl (by intro r hr;simp at hr;subst hr;rfl) (by rfl) (Nat.le_of_ble_eq_true rfl) (by simp;omega) ?_)
    (repeat first|refine tA rfl ?_ |refine Aa ?_)
    refine rG (J6 [9,11]) (by kernel_rfl) ?_
    (repeat first|refine tA rfl ?_ |(refine s4 rfl ‹_› rfl ?_ ?_;omega) |refine s2 rfl fun _ _hb=>?_)
    rename_i b
    have hbb:b=A r:=by
     cases hA:A r<;>cases b<;>simp [hA,OR] at _hb<;>rfl
    subst hbb
    (refine pW rfl ?_ rfl (by rfl);refine AY rfl rfl rfl (by first| (simp;done)|(simp;(omega))) rfl (by intro r hr;simp at hr;subst hr;rfl) (by rfl) (Nat.le_of_ble_eq_true rfl) (by simp;omega) ?_)
    (repeat first|(refine sA rfl ?_ ?_;first|exact tI|omega) |refine aU rfl ?_ |refine Aa ?_)
    refine⟨⟨k+1,by omega⟩,by dsimp only;(omega),[0,5,6,3],?_⟩
    (simp[cX,zC,hΓ,hnx,hacs])
  ·obtain rfl:k=tab.rows.length:=by omega
   have ht1:(AT A al tab).nx.take tab.rows.length=(AT A al tab).nx:=List.take_of_length_le (by simp [AT])
   have ht2:(AT A al tab).ac.take tab.rows.length=(AT A al tab).ac:=List.take_of_length_le (by simp [AT])
   rw [ht1,ht2]
   (repeat first|refine sN rfl ?_ |refine tX rfl ?_ |refine s2 rfl fun _ _hb=>?_ |refine aU rfl ?_ |refine Aa ?_)
   refine Av.cond rfl (fun hb=>?_) (fun hb=>?_)<;>cases hb
   ·exfalso;(simp only[oZ] at *;omega)
   refine aE ?_
   (repeat first|refine tX rfl ?_ |refine aU rfl ?_ |refine Aa ?_)
   refine Av.settle [(4,.o (.ip [iD al,Dx (AT A al tab).nx,GZ (AT A al tab).ac])),(5,eB true)] ⟨⟨_,rfl,.o (.box rfl (.cons .d (.cons (.full rfl (by simp [Function.comp_def]) (by simp [AT])) (.cons (.full rfl (by simp [Function.comp_def]) (by simp [AT])) .nil))))⟩,⟨_,rfl,.o .d⟩,trivial⟩ ?_
   refine aR ⟨_,rfl,rfl⟩
 ·have hv:A6 A al tab=false:=by simpa using hv
  rw [if_neg (by simp [hv])]
  rw [hv] at h1
  refine eG Tryz.func31 rfl (by kernel_rfl) rfl ?_;intro Γ hΓ
  (repeat first|refine tA rfl ?_ |refine s2 rfl fun _ _hb=>?_ |refine sP rfl (h1) rfl ?_ |refine aU rfl ?_ |refine Aa ?_)
  ((refine aC rfl ?_ ?_<;>rintro⟨⟩);all_goals try (simp at _hb;done))
  (repeat first|refine tA rfl ?_|(refine Ai rfl ?_;refine gA rfl ?_;first| refine gS (fun _ _=>AJ rfl rfl (by rfl) (by rfl)) ?_) |refine aU rfl ?_ |refine Aa ?_)
  refine Av.settle [(4,.o (.ip [iD 0,.l [],.l []])),(5,eB false)] ⟨⟨_,rfl,.o (.box rfl (.cons .d (.cons .d (.cons .d .nil))))⟩,⟨_,rfl,.o .d⟩,trivial⟩ ?_
  refine aR ⟨_,rfl,rfl⟩
theorem It{c:C}{L:W→Bool}{ok:W→Prop}(hc:En Tryz.prog TB c L ok)(al:Int)(t:AN)(ht:SG ok t)(hn:∀w∈t.rows,∀l∈AO al,∀x∈t.cols,ok (w++[l]++x)) :
 Pure Tryz.prog TB 88 [FF al c,B8 t] (eB (AM L (AO al) t).isNone):=by
 have hr:=BW c hc.AL
 have hfo:=Ja hc al t ht hn
 have hz:AM L (AO al) t=none∨∃w,AM L (AO al) t=some w:=by cases AM L (AO al) t<;>simp
 rcases hz with h|⟨w,h⟩<;>rw [h] at hfo ⊢ <;> (
  refine eG Tryz.func88 rfl (by kernel_rfl) rfl ?_;intro Γ hΓ
  (repeat first|refine aU rfl ?_)
  (refine pW rfl ?_ rfl (by rfl);refine CT rfl rfl ?_)
  (refine Ai rfl ?_;refine B5 (fun _ _=>CE rfl rfl rfl) rfl ?_)
  (repeat first|refine tA rfl ?_ |refine s2 rfl fun _ _hb=>?_|(refine Ai rfl ?_;refine gA rfl ?_;first| refine gS (fun _ _=>AD rfl rfl (by simp [E.AL,C.A5,C.AL,hc.AL,eC]) hfo rfl) ?_) |refine aU rfl ?_ |refine Aa ?_)
  (repeat' first| (refine aC rfl ?_ ?_<;>rintro⟨⟩));all_goals try contradiction
  (subst_vars;exact aR ⟨_,rfl,rfl⟩))
theorem BF(L:W→Bool)(al:Int)(t:AN):A6 L al t=(AF L al t && (AM L (AO al) t).isNone):=rfl
theorem DD{tabs:List (Nat×Obj)}[hT:Fo ⟨tabs,none⟩]{te:CL}{ok:W→Prop}(hok:Cg te=true)(hsub:∀w,ok w→bR (Al te) w)(hf:Pf te ok) :
 (∃c,Pure Tryz.prog ⟨tabs,none⟩ 75 [Cj te] (.t [(true,[.d (iD (Al te)),c]),(false,[.d (bD true)])])∧En Tryz.prog ⟨tabs,none⟩ c (Bd te) ok∧c.AL=true)∨
 (∃ (t:B1) (m:Fm),Kz t ok m∧A3 Tryz.prog ⟨tabs,none⟩ 75 0 [] 0 [Cj te] (fun x σ nx=>x=.t [(true,[.d (iD (Al te)),EY (.ptr 0 14 0 0)]),(false,[.d (bD true)])]∧σ=K0 t m∧nx=5)∧
  ∀r,En Tryz.prog ⟨tabs,some (Ig t ok,r)⟩ (EY (GP r)) (Bd te) ok∧Fo ⟨tabs,some (Ig t ok,r)⟩):=by
 obtain⟨kn,p,s,q,al⟩:=te
 cases kn with
 | true=>
  have hp:AK p=true:=hok
  exact .inl ⟨_,Ia hp s q al,(VF hp s q al true).sub hsub,rfl⟩
 | false=>
  have ht:A1 ⟨s,q,al⟩=true:=hok
  have hfew:ZC ⟨s,q,al⟩ ok:=hf rfl
  obtain⟨m,hm,hno⟩:=Nq (TB:=⟨tabs,none⟩) p ht ok
  exact .inr ⟨⟨s,q,al⟩,m,hm,hno,fun r=>⟨eK ht hsub hfew,bu hT⟩⟩
theorem FQ{te:CL}(hok:Cg te=false):Pure Tryz.prog TB 75 [Cj te] (.t [(true,[.d (iD 0),.d (.v .nilFunc)]),(false,[.d (bD false)])]):=by
 obtain⟨kn,p,s,q,al⟩:=te
 cases kn with
 | true=>exact H0 hok s q al
 | false=>exact Np p hok
theorem CJ{te:CL}(hok:Cg te=true):Bb (Al te)=true:=by
 obtain⟨kn,p,s,q,al⟩:=te
 cases kn with
 | true=>exact(Aj hok).1
 | false=>
  have ht:A1 ⟨s,q,al⟩=true:=hok
  unfold A1 at ht;simp only [Bool.and_eq_true] at ht;exact ht.2.2
theorem PD{L:W→Bool}{ok:W→Prop}{X:Be→Ctx→C→Prop}{Y:Prop}(h:∀(TB1:Be) (Γ1:Ctx) (c1:C),Γ1.V.nx=0→Fo TB1→En Tryz.prog TB1 c1 L ok→X TB1 Γ1 c1)
 (hk:(∀(TB1:Be) (Γ1:Ctx) (c1:C),Γ1.V.nx=0→Fo TB1→En Tryz.prog TB1 c1 L ok→X TB1 Γ1 c1)→Y):Y:=hk h
def JS(A:W→Bool)(al:Int)(t:AN)(w:W):Option AN:=if AF A al t && CN al w then Dr t w else none
theorem Nb{t:CL}{al:Int}{A:W→Bool}(hT:Ih Tryz.prog TB 93 85 t al A)(tab:AN)(hz:Na tab)(w:W)(hw:w.length≤1048576) :
 Pure Tryz.prog TB 18 [Cj t,B8 tab,eT w] (EP (JS A al tab w)):=by
 have h1:=Ec hT tab hz
 have h2:=LZ hT w (by omega)
 have h3:=Hj (TB:=TB) tab.cols w (by have:=hz.cl;omega)
 by_cases hv:(AF A al tab && CN al w)=true
 ·have ha:JS A al tab w=Dr tab w:=by unfold JS;rw [if_pos hv]
  rw [ha]
  rw [Bool.and_eq_true] at hv
  rw [hv.1] at h1
  rw [hv.2] at h2
  have hsh:Pl al tab:=(Bh hv.1).1
  have hr1:=hsh.r1
  have hc1:=hsh.c1
  have hrl:=hsh.rl
  have hcl:=hsh.cl
  by_cases hn:tab.cols.length=20∨w∈tab.cols
  ·have hx:Dr tab w=none:=by unfold Dr;rw [if_pos hn]
   rw [hx]
   refine eG Tryz.func18 rfl (by kernel_rfl) rfl ?_;intro Γ hΓ
   (repeat' first|refine sN rfl ?_ |refine tA rfl ?_ |(refine s2 rfl fun _ _hb=>?_;try (simp only[Bool.not_true,Bool.not_false] at _hb;subst _hb)) |refine sP rfl (h1) rfl ?_|refine sP rfl (h2) rfl ?_|(refine sC rfl (h3) ?_;intro _ _hb)|(refine Ai rfl ?_;refine gA rfl ?_;first| refine gS (fun _ _=>AJ rfl rfl (by rfl) (by rfl)) ?_) |refine s3 rfl ?_ ?_<;>rintro rfl |refine aU rfl ?_ |refine Aa ?_ |refine rE (by kernel_rfl) ?_|(refine aC rfl ?_ ?_<;>rintro⟨⟩)|refine aK ?_|refine aE ?_|refine aB ?_|refine aR ⟨_,rfl,?_⟩)
   all_goals first
    | rfl
    | (exfalso;clear h1 h2 h3 hT;simp at *;grind;done)
    | skip
  ·have hx:Dr tab w=some ⟨tab.rows,tab.cols++[w]⟩:=by unfold Dr;rw [if_neg hn]
   rw [hx]
   have hm:decide (w∈tab.cols)=false:=decide_eq_false fun h=>hn (.inr h)
   have h20:tab.cols.length≠20:=fun h=>hn (.inl h)
   rw [hm] at h3
   refine eG Tryz.func18 rfl (by kernel_rfl) rfl ?_;intro Γ hΓ
   (repeat first|refine sN rfl ?_ |refine tA rfl ?_ |(refine s2 rfl fun _ _hb=>?_;try (simp only[Bool.not_true,Bool.not_false] at _hb;subst _hb)) |refine sP rfl (h1) rfl ?_|refine sP rfl (h2) rfl ?_|refine sP rfl (h3) rfl ?_ |refine aU rfl ?_ |refine Aa ?_)
   refine Av.cond rfl (fun hb=>?_) (fun hb=>?_)<;>cases hb
   ·exfalso;(simp only[oZ] at *;omega)
   refine aK ?_
   (repeat first|refine aU rfl ?_)
   refine rG (fN [0,1,2,4,5,6,8,9,3,7,10,11,12,13] [3,7,10,12] [0,1,2,4,5,6,8,9]) (by kernel_rfl) ?_
   (repeat first|refine tX rfl ?_|(refine Ai rfl ?_;refine gA rfl ?_;first| refine gS (fun _ _=>O5 (by rfl) (by rfl)) ?_|refine gS (fun _ _=>Mu rfl rfl rfl rfl rfl (by rfl) (by rfl) (by rfl) (by rfl) (by rfl)) ?_))
   (refine pW rfl ?_ rfl (by rfl);refine HI rfl rfl rfl (by intro r hr;simp at hr;obtain⟨_,_,rfl⟩:=hr;rfl) (by rfl) (Nat.le_of_ble_eq_true rfl) (by simp;omega) (fun h=>?_) (fun _=>?_))
   ·exfalso;simp at h;rw [h] at hr1;simp at hr1
   (repeat first| (refine Ai rfl ?_;refine gA rfl ?_;first| refine gS (fun _ _=>O5 (by rfl) (by rfl)) ?_|refine gS (fun _ _=>Mu rfl rfl rfl rfl rfl (by rfl) (by rfl) (by rfl) (by rfl) (by rfl)) ?_))
   (refine pW rfl ?_ rfl (by rfl);refine HI rfl rfl rfl (by intro r hr;simp at hr;obtain⟨_,_,rfl⟩:=hr;rfl) (by rfl) (Nat.le_of_ble_eq_true rfl) (by simp;omega) (fun h=>?_) (fun _=>?_))
   ·exfalso;simp at h;rw [h] at hc1;simp at hc1
   (refine pW rfl ?_ rfl (by rfl);refine AY rfl rfl rfl (by first| (simp;done)|(simp;(omega))) rfl (by intro r hr;simp at hr;subst hr;rfl) (by rfl) (Nat.le_of_ble_eq_true rfl) (by simp;omega) ?_)
   (repeat first|refine tA rfl ?_|(refine Ai rfl ?_;refine gA rfl ?_;first| refine gS (fun _ _=>AJ rfl rfl (by rfl) (by rfl)) ?_) |refine Aa ?_)
   refine Av.settle [(6,.o (.ip [Ba tab.rows,Ba (tab.cols++[w])])),(7,eB true)] ⟨⟨_,rfl,.o (.box rfl (.cons (.full rfl (by simp [Function.comp_def]) (by simp)) (.cons (.full rfl (by simp [Function.comp_def]) (by simp)) .nil)))⟩,⟨_,rfl,.o .d⟩,trivial⟩ ?_
   refine aR ⟨_,rfl,rfl⟩
 ·have ha:JS A al tab w=none:=by unfold JS;rw [if_neg hv]
  rw [ha]
  refine eG Tryz.func18 rfl (by kernel_rfl) rfl ?_;intro Γ hΓ
  (repeat' first|refine sN rfl ?_ |refine tA rfl ?_ |(refine s2 rfl fun _ _hb=>?_;try (simp only[Bool.not_true,Bool.not_false] at _hb;subst _hb)) |(refine sC rfl (h1) ?_;intro _ _hb)|(refine sC rfl (h2) ?_;intro _ _hb)|(refine sC rfl (h3) ?_;intro _ _hb)|(refine Ai rfl ?_;refine gA rfl ?_;first| refine gS (fun _ _=>AJ rfl rfl (by rfl) (by rfl)) ?_) |refine s3 rfl ?_ ?_<;>rintro rfl |refine aU rfl ?_ |refine Aa ?_ |refine rE (by kernel_rfl) ?_|(refine aC rfl ?_ ?_<;>rintro⟨⟩)|refine aK ?_|refine aE ?_|refine aB ?_|refine aR ⟨_,rfl,?_⟩)
  all_goals first
   | rfl
   | (exfalso;clear h1 h2 h3 hT;simp at *;grind;done)
   | skip
def Dg(A:W→Bool)(al:Int)(t:AN)(w:W):Option W:=if A6 A al t && CN al w then Bt A t w else none
theorem IC{al:Int}{w:W}(h:CN al w=true):AB (AO al) w∧w.length≤4000∧within w al=true:=by
 unfold CN at h
 rw [Bool.and_eq_true,decide_eq_true_eq] at h
 exact⟨Dj h.1,h.2,h.1⟩
theorem Vw{A:W→Bool}{al:Int}{t:AN}{w:W}(ha:Bb al=true)(hcl:A7 A (AO al) t)(hr:t.rows.length≤12)(hw:CN al w=true):GL (AT A al t) w=IU A t w:=by
 obtain⟨h1,h2,h3⟩:=IC hw
 unfold GL
 rw [IX ha hcl hr,K5 hcl h1]
 show (true && (within w al && _))=_
 rw [h3];rfl
theorem QH{A:W→Bool}{t:AN}{w:W}{k q:Nat}{c:UInt8}{R:Option W}(hc:w[k]? = some c)(hR:R=splitAt A t (A w) q (w.drop k)) :
 (A (t.rows.getD (CD A t (t.rows.getD q []++[c])) []++w.drop (k+1))≠A w→R=some (w.drop (k+1)))∧(A (t.rows.getD (CD A t (t.rows.getD q []++[c])) []++w.drop (k+1))=A w→R=splitAt A t (A w) (CD A t (t.rows.getD q []++[c])) (w.drop (k+1))):=by
 have:=JB (L:=A) (t:=t) (b:=A w) (q:=q) hc
 rw [this] at hR
 exact⟨fun h=>by rw [hR,if_pos h],fun h=>by rw [hR,if_neg (by simpa using h)]⟩
theorem Nt{t:CL}{al:Int}{A:W→Bool}(hT:Ih Tryz.prog TB 93 85 t al A)(hal:0≤al→Bb al=true)(tab:AN)(hz:Na tab)(w:W)(hw:w.length≤1048576) :
 Pure Tryz.prog TB 27 [Cj t,B8 tab,eT w] (RA (Dg A al tab w)):=by
 have h1:=JH hT tab hz
 have h2:=LZ hT w (by omega)
 have h4:=hT.ask w (by omega)
 by_cases hv:A6 A al tab=true
 ·rw [if_pos hv] at h1
  obtain⟨hv1,ho,hcl⟩:=DO hv
  have hsh:=(Bh hv1).1
  have ha:=hal hsh.pos
  have hau:=IX ha hcl hsh.rl
  have h3:=GW (TB:=TB) (AT A al tab) w (by omega)
  by_cases hl:CN al w=true
  ·rw [hl] at h2
   rw [Vw ha hcl hsh.rl hl] at h3
   have hs:Dg A al tab w=Bt A tab w:=by unfold Dg;rw [hv,hl];rfl
   rw [hs]
   by_cases hd:IU A tab w=A w
   ·have hn:Bt A tab w=none:=by unfold Bt;rw [if_pos hd]
    rw [hn]
    rw [hd] at h3
    refine eG Tryz.func27 rfl (by kernel_rfl) rfl ?_;intro Γ hΓ
    (repeat' first|refine tA rfl ?_ |(refine s2 rfl fun _ _hb=>?_;try (simp only[Bool.not_true,Bool.not_false] at _hb;subst _hb)) |refine sP rfl (h1) rfl ?_|refine sP rfl (h2) rfl ?_|refine sP rfl (h3) rfl ?_|refine sP rfl (h4) rfl ?_ |refine aU rfl ?_ |refine Aa ?_ |refine rE (by kernel_rfl) ?_|(refine aC rfl ?_ ?_<;>rintro⟨⟩)|refine aK ?_|refine aE ?_|refine aB ?_|refine aR ⟨_,rfl,?_⟩)
    all_goals first
     | rfl
     | (exfalso;grind;done)
   ·obtain⟨R,hR⟩:∃R,R=Bt A tab w:=⟨_,rfl⟩
    rw [←hR]
    have hR:R=splitAt A tab (A w) 0 (w.drop 0):=by rw [hR];unfold Bt;rw [if_neg hd];rfl
    obtain⟨hon,hw4,_⟩:=IC hl
    have hrl:=hsh.rl
    have hr1:=hsh.r1
    refine eG Tryz.func27 rfl (by kernel_rfl) rfl ?_;intro Γ hΓ
    (repeat first|refine tA rfl ?_ |refine sP rfl (h1) rfl ?_|refine sP rfl (h2) rfl ?_|refine sP rfl (h3) rfl ?_|refine sP rfl (h4) rfl ?_ |refine aU rfl ?_ |refine Aa ?_)
    refine rG (J6 []) (by kernel_rfl) ?_
    (repeat first|refine tA rfl ?_ |(refine s2 rfl fun _ _hb=>?_;try (simp only[Bool.not_true,Bool.not_false] at _hb;subst _hb)) |refine sP rfl (h1) rfl ?_|refine sP rfl (h2) rfl ?_|refine sP rfl (h3) rfl ?_|refine sP rfl (h4) rfl ?_ |refine Aa ?_)
    refine Av.cond rfl (fun hb=>?_) (fun hb=>?_)<;>cases hb
    ·exfalso;exact hd (by simpa using _hb)
    refine aK ?_
    (repeat first|refine tA rfl ?_ |refine aU rfl ?_ |refine Aa ?_)
    have h0:0 < tab.rows.length:=hr1
    refine aB ?_
    refine aL (α:={k:Nat // k≤w.length∧R=splitAt A tab (A w) (runM A tab 0 (w.take k)) (w.drop k)∧A (tab.rows.getD (runM A tab 0 (w.take k)) []++w.drop k)=A w}) [2,3,4,8] [0] rfl rfl (fun ⟨k,hk,he,hA⟩=>[(10,eI .i64 (runM A tab 0 (w.take k):Nat)),(11,eI .i64 k)]) (fun ⟨k,hk,he,hA⟩=>[]) 1 (fun ⟨k,hk,he,hA⟩=>w.length - k) (⟨0,by omega,hR,by simp [hsh.r0,runM]⟩) hΓ rfl (by (simp[cX,zC,hΓ]<;>rfl)) ?_;rintro⟨k,hk,he,hA⟩;(try dsimp only[cA,cB])
    have hrn:=hcl.run (w.take k) 0 (Gx hon k) h0
    by_cases hlt:k < w.length
    ·obtain⟨c,hc⟩:=get_some hlt
     have hc':w[((k:Nat):Int).toNat]? = some c:=by simpa using hc
     have hcm:=hon c (List.mem_of_getElem? hc)
     have hcn:=Fc hcm
     have hla:=Jf (TB:=TB) w k c hc'
     have hnl:(AT A al tab).nx.length=tab.rows.length:=by simp [AT]
     have hgo:=HF (TB:=TB) (AT A al tab) hau (runM A tab 0 (w.take k)) (by omega) ((c.toNat:Int) - 97) hcn.1 hcn.2
     have hst:=Kp (L:=A) (t:=tab) hc 0
     have hrn2:=hcl.run (w.take (k+1)) 0 (Gx hon (k+1)) h0
     rw [Jd (L:=A) (al:=al) (t:=tab) hrn hcm,←hst] at hgo
     have hsp:=QH hc he
     rw [←hst] at hsp
     obtain⟨r1,hx1⟩:=get_some hrn
     have hx1':=get_map (g:=BD) hx1
     obtain⟨r2,hx2⟩:=get_some hrn2
     have hx2':=get_map (g:=BD) hx2
     have e1:tab.rows.getD (runM A tab 0 (w.take k)) []=r1:=by simp [hx1]
     have e2:tab.rows.getD (runM A tab 0 (w.take (k+1))) []=r2:=by simp [hx2]
     have hr1b:=hz.rb r1 (List.mem_of_getElem? hx1)
     have hr2b:=hz.rb r2 (List.mem_of_getElem? hx2)
     rw [e1] at hA
     rw [e2] at hsp
     have hq1:Pure Tryz.prog TB 85 [Cj t,eT (r1++w.drop ((k:Nat):Int).toNat)] (eB (A w)):=by
      rw [Int.toNat_natCast,←hA]
      exact hT.ask _ (by simp;omega)
     have ek:(((k:Nat):Int)+1).toNat=k+1:=by omega
     have hq2:Pure Tryz.prog TB 85 [Cj t,eT (r2++w.drop (((k:Nat):Int)+1).toNat)] (eB (A (r2++w.drop (k+1)))):=by
      rw [ek]
      exact hT.ask _ (by simp;omega)
     have hd1:(w.drop ((k:Nat):Int).toNat).length≤1048576:=by simp;omega
     have hd2:(w.drop (((k:Nat):Int)+1).toNat).length≤1048576:=by simp;omega
     (repeat first|refine tA rfl ?_ |refine s2 rfl fun _ _hb=>?_ |refine aU rfl ?_ |refine Aa ?_)
     refine Av.cond rfl (fun hb=>?_) (fun hb=>?_)<;>cases hb
     rotate_left
     ·exfalso;(simp only[oZ] at *;omega)
     (repeat' first|(refine sA rfl ?_ ?_;first|exact tI|omega) |(refine s4 rfl ‹_› rfl ?_ ?_;omega) |refine s2 rfl fun _ _hb=>?_ |refine sP rfl (hla) rfl ?_|refine sP rfl (hgo) rfl ?_|refine sP rfl (hq1) rfl ?_|refine sP rfl (hq2) rfl ?_|(refine Ai rfl ?_;refine gA rfl ?_;first| refine gS (fun _ _=>O4 rfl rfl (by omega) (by omega)) ?_) |refine aU rfl ?_ |refine Aa ?_ |refine rE (by kernel_rfl) ?_|(refine aC rfl ?_ ?_<;>rintro⟨⟩)|refine aK ?_|refine aE ?_|refine aB ?_|refine aR ⟨_,rfl,?_⟩)
     ·have hn:=hsp.1 (by intro h;rw [h] at _hb;simp at _hb)
      rw [hn]
      show E.t _=E.t _
      rw [ek]
     ·have hs2:=hsp.2 (by simpa using (by simpa using _hb:A w=A (r2++w.drop (k+1))).symm)
      have hA2:A (tab.rows.getD (runM A tab 0 (w.take (k+1))) []++w.drop (k+1))=A w:=by rw [e2];exact(by simpa using _hb:A w=A (r2++w.drop (k+1))).symm
      refine⟨⟨k+1,by omega,hs2,hA2⟩,by dsimp only;(omega),[0],?_⟩
      simp[cX,zC,hΓ]
    ·obtain rfl:k=w.length:=by omega
     rw [List.drop_length] at he
     have hn:R=none:=he
     rw [hn]
     (repeat first|refine tA rfl ?_ |refine s2 rfl fun _ _hb=>?_ |refine aU rfl ?_ |refine Aa ?_)
     refine Av.cond rfl (fun hb=>?_) (fun hb=>?_)<;>cases hb
     ·exfalso;(simp only[oZ] at *;omega)
     (repeat' first|refine tA rfl ?_ |refine aU rfl ?_ |refine Aa ?_|(refine aC rfl ?_ ?_<;>rintro⟨⟩)|refine aK ?_|refine aE ?_|refine aB ?_|refine aR ⟨_,rfl,?_⟩)
     rfl
  ·have hl:CN al w=false:=by simpa using hl
   rw [hl] at h2
   have hs:Dg A al tab w=none:=by unfold Dg;rw [hl];simp
   rw [hs]
   refine eG Tryz.func27 rfl (by kernel_rfl) rfl ?_;intro Γ hΓ
   (repeat' first|refine tA rfl ?_ |(refine s2 rfl fun _ _hb=>?_;try (simp only[Bool.not_true,Bool.not_false] at _hb;subst _hb)) |refine sP rfl (h1) rfl ?_|refine sP rfl (h2) rfl ?_ |refine aU rfl ?_ |refine Aa ?_ |refine rE (by kernel_rfl) ?_|(refine aC rfl ?_ ?_<;>rintro⟨⟩)|refine aK ?_|refine aE ?_|refine aB ?_|refine aR ⟨_,rfl,?_⟩)
   all_goals first
    | rfl
    | (exfalso;grind;done)
 ·have hs:Dg A al tab w=none:=by unfold Dg;simp [hv]
  rw [if_neg hv] at h1
  rw [hs]
  refine eG Tryz.func27 rfl (by kernel_rfl) rfl ?_;intro Γ hΓ
  (repeat' first|refine tA rfl ?_ |(refine s2 rfl fun _ _hb=>?_;try (simp only[Bool.not_true,Bool.not_false] at _hb;subst _hb)) |refine sP rfl (h1) rfl ?_ |refine aU rfl ?_ |refine Aa ?_ |refine rE (by kernel_rfl) ?_|(refine aC rfl ?_ ?_<;>rintro⟨⟩)|refine aK ?_|refine aE ?_|refine aB ?_|refine aR ⟨_,rfl,?_⟩)
  all_goals first
   | rfl
   | (exfalso;grind;done)
noncomputable def Dw(te:CL)(x:AN):Option AN:=if (Cg te && AF (Bd te) (Al te) x)=true then AZ (Bd te) (AO (Al te)) 13 x else none
noncomputable def Rr(te:CL)(x:AN):Option Bn:=if (Cg te && A6 (Bd te) (Al te) x)=true then some (AT (Bd te) (Al te) x) else none
section
variable {tabs:List (Nat×Obj)}[hTb:Fo ⟨tabs,none⟩]{te:CL}
include hTb
theorem Te(x:AN)(hz:Na x):Pure Tryz.prog ⟨tabs,none⟩ 30 [Cj te,B8 x] (EP (Dw te x)):=by
 unfold Dw
 by_cases hok:Cg te=true
 ·obtain⟨ok,hsub,hf,hgr⟩:=OD te x
  rw [hok,Bool.true_and]
  refine eG Tryz.func30 rfl (by kernel_rfl) rfl ?_;intro Γ hΓ
  apply PD (L:=Bd te) (ok:=ok);case hk=>(intro hk;rcases DD (tabs:=tabs) hok hsub hf with ⟨c,hno,hV,hcp⟩|⟨t,m,hm,hno,hV⟩;(focus (have hcr:=BW c hcp;(repeat first |refine sN rfl ?_ |((first|refine sA rfl ?_ ?_|refine s4 rfl ‹_› rfl ?_ ?_);first|exact tI|omega|simp only[oZ] at *;omega) |refine s2 rfl fun _ _hb=>?_ |refine s3 rfl ?_ ?_<;>rintro rfl |refine aU rfl ?_ |refine Aa ?_);(repeat first |refine sN rfl ?_ |((first|refine sA rfl ?_ ?_|refine s4 rfl ‹_› rfl ?_ ?_);first|exact tI|omega|simp only[oZ] at *;omega) |refine s2 rfl fun _ _hb=>?_|(refine Ai rfl ?_;refine gA rfl ?_;first|refine gS (fun _ _=>AD rfl rfl rfl hno (by simp [E.AL,C.A5,C.AL,hcp])) ?_) |refine s3 rfl ?_ ?_<;>rintro rfl);refine Aa ?_;refine Av.Cs [3,7] [] rfl rfl [(4,.o (.ptr 0 2 0 0)),(6,.o (.ptr 1 2 0 0))] [(0,.cells 38 2 [[.d (.l []),.d (.l [])]]),(1,.cells 100 2 [[.d (iD (Al te)),c]])] [0,1] (rl hΓ rfl) (by ((repeat' first|exact tI|rfl|refine And.intro ?_ ?_)<;>(simp[cX,zC,hΓ,hcr,hcp]<;>rfl))) ?_;(try dsimp only[cA,cB]);obtain⟨TB0,hTB0⟩:∃T,T=(⟨tabs,none⟩:Be):=⟨_,rfl⟩;obtain⟨Γ0,hΓ0⟩:∃T,T=Γ:=⟨_,rfl⟩;rw [←hTB0] at hV hTb ⊢;rw [←hΓ0] at hΓ ⊢;exact hk TB0 Γ0 c hΓ hTb hV));((repeat first |refine sN rfl ?_ |((first|refine sA rfl ?_ ?_|refine s4 rfl ‹_› rfl ?_ ?_);first|exact tI|omega|simp only[oZ] at *;omega) |refine s2 rfl fun _ _hb=>?_ |refine s3 rfl ?_ ?_<;>rintro rfl |refine aU rfl ?_ |refine Aa ?_);(refine pW rfl ?_ rfl (by rfl);refine Ez [] rfl rfl 0 (hno) (by decide) ⟨rfl,by decide,by decide⟩ rfl (by simp[cX,zC,hΓ,AH]) ?_;rintro x0 σ1 nx1 ⟨rfl,rfl,rfl⟩ _);(repeat first |refine sN rfl ?_ |((first|refine sA rfl ?_ ?_|refine s4 rfl ‹_› rfl ?_ ?_);first|exact tI|omega|simp only[oZ] at *;omega) |refine s2 rfl fun _ _hb=>?_ |refine s3 rfl ?_ ?_<;>rintro rfl);refine Aa ?_;refine Av.Wo (Ig t ok) ⟨m,hm⟩ 1 [2,3,4,5] (fun r=>[(3,.o (.ip [Ba x.rows,Ba x.cols])),(7,eB true),(4,.o (.ptr 0 2 0 0)),(6,.o (.ptr 6 2 0 0))]) (fun r=>[(0,.cells 38 2 [[.d (.l []),.d (.l [])]]),(6,.cells 100 2 [[.d (iD (Al te)),EY (GP r)]])]) (by decide) rfl (by ((repeat' first|exact tI|rfl|refine And.intro ?_ ?_)<;>(simp[cX,zC,hΓ,AH]<;>rfl))) ⟨_,_,_,_,rfl⟩ (fun r=>by repeat' first|exact tI|refine And.intro ⟨_,rfl,.AU⟩ ?_) (fun r=>by repeat' first|exact tI|refine And.intro ⟨by decide,.inl rfl⟩ ?_|refine And.intro ⟨by decide,.inr ⟨_,_,_,_,rfl,rfl,.cons .AU (.cons .mv .nil)⟩⟩ ?_) fun r Γ' hΓ'=>?_;have hΓ:Γ'.V.nx=0:=(by rw [hΓ'];exact hΓ);refine Av.Cs [3,7] [] rfl rfl [(4,.o (.ptr 0 2 0 0)),(6,.o (.ptr 1 2 0 0))] [(0,.cells 38 2 [[.d (.l []),.d (.l [])]]),(1,.cells 100 2 [[.d (iD (Al te)),EY (GP r)]])] [0,6] (rl hΓ rfl) (by ((repeat' first|exact tI|rfl|refine And.intro ?_ ?_)<;>(simp[cX,zC,hΓ]<;>rfl))) ?_;(try dsimp only[cA,cB]);exact hk _ Γ' _ hΓ (hV r).2 (hV r).1))
  case h =>
   intro TB1 Γ1 c1 hΓ hTb1 hV
   have htv:=CI hV (Al te) (CJ hok) x (fun h=>hgr h x BO) hz
   by_cases hv:AF (Bd te) (Al te) x=true
   ·have hb:=(Bh hv).1.bd
    have hct:=EO hV (Al te) x (hgr (Bh hv).1) (hb.mono (by omega))
    rw [hv] at htv ⊢
    rw [if_pos rfl]
    generalize AZ (Bd te) (AO (Al te)) 13 x=o at *
    cases o
    all_goals
     (repeat' first |refine sN rfl ?_ |((first|refine sA rfl ?_ ?_|refine s4 rfl ‹_› rfl ?_ ?_);first|exact tI|omega|simp only[oZ] at *;omega) |refine s2 rfl fun _ _hb=>?_|(refine Ai rfl ?_;refine gA rfl ?_;first|refine gS (fun _ _=>AD rfl rfl (by simp [E.AL,C.AL,C.A5,hV.AL]) (htv) rfl) ?_) |refine s3 rfl ?_ ?_<;>rintro rfl |refine aU rfl ?_ |refine Aa ?_|(refine aC rfl ?_ ?_<;>rintro⟨⟩));all_goals try contradiction
     refine aK ?_
     (repeat first |refine sN rfl ?_ |((first|refine sA rfl ?_ ?_|refine s4 rfl ‹_› rfl ?_ ?_);first|exact tI|omega|simp only[oZ] at *;omega) |refine s2 rfl fun _ _hb=>?_|(refine Ai rfl ?_;refine gA rfl ?_;first|refine gS (fun _ _=>AD rfl rfl (by simp [E.AL,C.AL,C.A5,hV.AL]) (hct) rfl) ?_) |refine s3 rfl ?_ ?_<;>rintro rfl |refine aU rfl ?_ |refine Aa ?_)
     (subst_vars;exact aR ⟨_,rfl,rfl⟩)
   ·rw [Bool.not_eq_true] at hv
    rw [hv] at htv ⊢
    (repeat' first |refine sN rfl ?_ |((first|refine sA rfl ?_ ?_|refine s4 rfl ‹_› rfl ?_ ?_);first|exact tI|omega|simp only[oZ] at *;omega) |refine s2 rfl fun _ _hb=>?_|(refine Ai rfl ?_;refine gA rfl ?_;first|refine gS (fun _ _=>AD rfl rfl (by simp [E.AL,C.AL,C.A5,hV.AL]) (htv) rfl) ?_|refine gS (fun _ _=>AJ rfl rfl (by rfl) (by rfl)) ?_) |refine s3 rfl ?_ ?_<;>rintro rfl |refine aU rfl ?_ |refine Aa ?_|(refine aC rfl ?_ ?_<;>rintro⟨⟩));all_goals try contradiction
    (subst_vars;exact aR ⟨_,rfl,rfl⟩)
 ·rw [Bool.not_eq_true] at hok
  have hno:=FQ (TB:=({ tabs:=tabs,hid:=none }:Be)) hok
  rw [hok,Bool.false_and]
  refine eG Tryz.func30 rfl (by kernel_rfl) rfl ?_;intro Γ hΓ
  (repeat first |refine sN rfl ?_ |((first|refine sA rfl ?_ ?_|refine s4 rfl ‹_› rfl ?_ ?_);first|exact tI|omega|simp only[oZ] at *;omega) |refine s2 rfl fun _ _hb=>?_ |refine sP rfl (hno) rfl ?_|(refine Ai rfl ?_;refine gA rfl ?_;first|refine gS (fun _ _=>AJ rfl rfl (by rfl) (by rfl)) ?_) |refine s3 rfl ?_ ?_<;>rintro rfl |refine aU rfl ?_ |refine Aa ?_)
  (repeat' first |refine sN rfl ?_ |((first|refine sA rfl ?_ ?_|refine s4 rfl ‹_› rfl ?_ ?_);first|exact tI|omega|simp only[oZ] at *;omega) |refine s2 rfl fun _ _hb=>?_|(refine Ai rfl ?_;refine gA rfl ?_;first|refine gS (fun _ _=>AJ rfl rfl (by rfl) (by rfl)) ?_) |refine s3 rfl ?_ ?_<;>rintro rfl |refine aU rfl ?_ |refine Aa ?_|(refine aC rfl ?_ ?_<;>rintro⟨⟩));all_goals try contradiction
  (subst_vars;exact aR ⟨_,rfl,rfl⟩)
theorem Pn(x:AN)(hz:Na x):Pure Tryz.prog ⟨tabs,none⟩ 32 [Cj te,B8 x] (Zs (Rr te x)):=by
 unfold Rr
 by_cases hok:Cg te=true
 ·obtain⟨ok,hsub,hf,hgr⟩:=OD te x
  rw [hok,Bool.true_and,BF]
  refine eG Tryz.func32 rfl (by kernel_rfl) rfl ?_;intro Γ hΓ
  apply PD (L:=Bd te) (ok:=ok);case hk=>(intro hk;rcases DD (tabs:=tabs) hok hsub hf with ⟨c,hno,hV,hcp⟩|⟨t,m,hm,hno,hV⟩;(focus (have hcr:=BW c hcp;(repeat first |refine sN rfl ?_ |((first|refine sA rfl ?_ ?_|refine s4 rfl ‹_› rfl ?_ ?_);first|exact tI|omega|simp only[oZ] at *;omega) |refine s2 rfl fun _ _hb=>?_ |refine s3 rfl ?_ ?_<;>rintro rfl |refine aU rfl ?_ |refine Aa ?_);(repeat first |refine sN rfl ?_ |((first|refine sA rfl ?_ ?_|refine s4 rfl ‹_› rfl ?_ ?_);first|exact tI|omega|simp only[oZ] at *;omega) |refine s2 rfl fun _ _hb=>?_|(refine Ai rfl ?_;refine gA rfl ?_;first|refine gS (fun _ _=>AD rfl rfl rfl hno (by simp [E.AL,C.A5,C.AL,hcp])) ?_) |refine s3 rfl ?_ ?_<;>rintro rfl);refine Aa ?_;refine Av.Cs [3,7] [] rfl rfl [(4,.o (.ptr 0 3 0 0)),(6,.o (.ptr 1 2 0 0))] [(0,.cells 41 3 [[.d (iD 0),.d (.l []),.d (.l [])]]),(1,.cells 100 2 [[.d (iD (Al te)),c]])] [0,1] (rl hΓ rfl) (by ((repeat' first|exact tI|rfl|refine And.intro ?_ ?_)<;>(simp[cX,zC,hΓ,hcr,hcp]<;>rfl))) ?_;(try dsimp only[cA,cB]);obtain⟨TB0,hTB0⟩:∃T,T=(⟨tabs,none⟩:Be):=⟨_,rfl⟩;obtain⟨Γ0,hΓ0⟩:∃T,T=Γ:=⟨_,rfl⟩;rw [←hTB0] at hV hTb ⊢;rw [←hΓ0] at hΓ ⊢;exact hk TB0 Γ0 c hΓ hTb hV));((repeat first |refine sN rfl ?_ |((first|refine sA rfl ?_ ?_|refine s4 rfl ‹_› rfl ?_ ?_);first|exact tI|omega|simp only[oZ] at *;omega) |refine s2 rfl fun _ _hb=>?_ |refine s3 rfl ?_ ?_<;>rintro rfl |refine aU rfl ?_ |refine Aa ?_);(refine pW rfl ?_ rfl (by rfl);refine Ez [] rfl rfl 0 (hno) (by decide) ⟨rfl,by decide,by decide⟩ rfl (by simp[cX,zC,hΓ,AH]) ?_;rintro x0 σ1 nx1 ⟨rfl,rfl,rfl⟩ _);(repeat first |refine sN rfl ?_ |((first|refine sA rfl ?_ ?_|refine s4 rfl ‹_› rfl ?_ ?_);first|exact tI|omega|simp only[oZ] at *;omega) |refine s2 rfl fun _ _hb=>?_ |refine s3 rfl ?_ ?_<;>rintro rfl);refine Aa ?_;refine Av.Wo (Ig t ok) ⟨m,hm⟩ 1 [2,3,4,5] (fun r=>[(3,.o (.ip [Ba x.rows,Ba x.cols])),(7,eB true),(4,.o (.ptr 0 3 0 0)),(6,.o (.ptr 6 2 0 0))]) (fun r=>[(0,.cells 41 3 [[.d (iD 0),.d (.l []),.d (.l [])]]),(6,.cells 100 2 [[.d (iD (Al te)),EY (GP r)]])]) (by decide) rfl (by ((repeat' first|exact tI|rfl|refine And.intro ?_ ?_)<;>(simp[cX,zC,hΓ,AH]<;>rfl))) ⟨_,_,_,_,rfl⟩ (fun r=>by repeat' first|exact tI|refine And.intro ⟨_,rfl,.AU⟩ ?_) (fun r=>by repeat' first|exact tI|refine And.intro ⟨by decide,.inl rfl⟩ ?_|refine And.intro ⟨by decide,.inr ⟨_,_,_,_,rfl,rfl,.cons .AU (.cons .mv .nil)⟩⟩ ?_) fun r Γ' hΓ'=>?_;have hΓ:Γ'.V.nx=0:=(by rw [hΓ'];exact hΓ);refine Av.Cs [3,7] [] rfl rfl [(4,.o (.ptr 0 3 0 0)),(6,.o (.ptr 1 2 0 0))] [(0,.cells 41 3 [[.d (iD 0),.d (.l []),.d (.l [])]]),(1,.cells 100 2 [[.d (iD (Al te)),EY (GP r)]])] [0,6] (rl hΓ rfl) (by ((repeat' first|exact tI|rfl|refine And.intro ?_ ?_)<;>(simp[cX,zC,hΓ]<;>rfl))) ?_;(try dsimp only[cA,cB]);exact hk _ Γ' _ hΓ (hV r).2 (hV r).1))
  case h =>
   intro TB1 Γ1 c1 hΓ hTb1 hV
   have htv:=CI hV (Al te) (CJ hok) x (fun h=>hgr h x BO) hz
   by_cases hv:AF (Bd te) (Al te) x=true
   ·have hb:=(Bh hv).1.bd
    have hask:=hb.Uf (hgr (Bh hv).1 x BO) (by omega)
    have hcl:=It hV (Al te) x hask.1 hask.2
    rw [hv] at htv ⊢
    by_cases ho:(AM (Bd te) (AO (Al te)) x).isNone=true
    ·have hau:=Fp hV (Al te) x (hgr (Bh hv).1 x BO) (hb.mono (by omega)) (by simpa using ho)
     rw [ho] at hcl ⊢
     (repeat' first |refine sN rfl ?_ |((first|refine sA rfl ?_ ?_|refine s4 rfl ‹_› rfl ?_ ?_);first|exact tI|omega|simp only[oZ] at *;omega) |refine s2 rfl fun _ _hb=>?_|(refine Ai rfl ?_;refine gA rfl ?_;first|refine gS (fun _ _=>AD rfl rfl (by simp [E.AL,C.AL,C.A5,hV.AL]) (htv) rfl) ?_|refine gS (fun _ _=>AD rfl rfl (by simp [E.AL,C.AL,C.A5,hV.AL]) (hcl) rfl) ?_) |refine s3 rfl ?_ ?_<;>rintro rfl |refine aU rfl ?_ |refine Aa ?_|(refine aC rfl ?_ ?_<;>rintro⟨⟩));all_goals try contradiction
     refine aK ?_
     (repeat first |refine sN rfl ?_ |((first|refine sA rfl ?_ ?_|refine s4 rfl ‹_› rfl ?_ ?_);first|exact tI|omega|simp only[oZ] at *;omega) |refine s2 rfl fun _ _hb=>?_|(refine Ai rfl ?_;refine gA rfl ?_;first|refine gS (fun _ _=>AD rfl rfl (by simp [E.AL,C.AL,C.A5,hV.AL]) (hau) rfl) ?_) |refine s3 rfl ?_ ?_<;>rintro rfl |refine aU rfl ?_ |refine Aa ?_)
     (subst_vars;exact aR ⟨_,rfl,rfl⟩)
    ·rw [Bool.not_eq_true] at ho
     rw [ho] at hcl ⊢
     (repeat' first |refine sN rfl ?_ |((first|refine sA rfl ?_ ?_|refine s4 rfl ‹_› rfl ?_ ?_);first|exact tI|omega|simp only[oZ] at *;omega) |refine s2 rfl fun _ _hb=>?_|(refine Ai rfl ?_;refine gA rfl ?_;first|refine gS (fun _ _=>AD rfl rfl (by simp [E.AL,C.AL,C.A5,hV.AL]) (htv) rfl) ?_|refine gS (fun _ _=>AD rfl rfl (by simp [E.AL,C.AL,C.A5,hV.AL]) (hcl) rfl) ?_|refine gS (fun _ _=>AJ rfl rfl (by rfl) (by rfl)) ?_) |refine s3 rfl ?_ ?_<;>rintro rfl |refine aU rfl ?_ |refine Aa ?_|(refine aC rfl ?_ ?_<;>rintro⟨⟩));all_goals try contradiction
     (subst_vars;exact aR ⟨_,rfl,rfl⟩)
   ·rw [Bool.not_eq_true] at hv
    rw [hv] at htv ⊢
    (repeat' first |refine sN rfl ?_ |((first|refine sA rfl ?_ ?_|refine s4 rfl ‹_› rfl ?_ ?_);first|exact tI|omega|simp only[oZ] at *;omega) |refine s2 rfl fun _ _hb=>?_|(refine Ai rfl ?_;refine gA rfl ?_;first|refine gS (fun _ _=>AD rfl rfl (by simp [E.AL,C.AL,C.A5,hV.AL]) (htv) rfl) ?_|refine gS (fun _ _=>AJ rfl rfl (by rfl) (by rfl)) ?_) |refine s3 rfl ?_ ?_<;>rintro rfl |refine aU rfl ?_ |refine Aa ?_|(refine aC rfl ?_ ?_<;>rintro⟨⟩));all_goals try contradiction
    (subst_vars;exact aR ⟨_,rfl,rfl⟩)
 ·rw [Bool.not_eq_true] at hok
  have hno:=FQ (TB:=({ tabs:=tabs,hid:=none }:Be)) hok
  rw [hok,Bool.false_and]
  refine eG Tryz.func32 rfl (by kernel_rfl) rfl ?_;intro Γ hΓ
  (repeat first |refine sN rfl ?_ |((first|refine sA rfl ?_ ?_|refine s4 rfl ‹_› rfl ?_ ?_);first|exact tI|omega|simp only[oZ] at *;omega) |refine s2 rfl fun _ _hb=>?_ |refine sP rfl (hno) rfl ?_|(refine Ai rfl ?_;refine gA rfl ?_;first|refine gS (fun _ _=>AJ rfl rfl (by rfl) (by rfl)) ?_) |refine s3 rfl ?_ ?_<;>rintro rfl |refine aU rfl ?_ |refine Aa ?_)
  (repeat' first |refine sN rfl ?_ |((first|refine sA rfl ?_ ?_|refine s4 rfl ‹_› rfl ?_ ?_);first|exact tI|omega|simp only[oZ] at *;omega) |refine s2 rfl fun _ _hb=>?_|(refine Ai rfl ?_;refine gA rfl ?_;first|refine gS (fun _ _=>AJ rfl rfl (by rfl) (by rfl)) ?_) |refine s3 rfl ?_ ?_<;>rintro rfl |refine aU rfl ?_ |refine Aa ?_|(refine aC rfl ?_ ?_<;>rintro⟨⟩));all_goals try contradiction
  (subst_vars;exact aR ⟨_,rfl,rfl⟩)
end
def Ir(A:W→Bool)(al:Int)(t:AN):Option AN:=if AF A al t then AZ A (AO al) 13 t else none
def Hv(A:W→Bool)(al:Int)(t:AN)(w:W):Option AN:=(Dg A al t w).bind fun v=>(JS A al t v).bind fun u=>Ir A al u
theorem Sm{A:W→Bool}{al:Int}{t:AN}{w v:W}(h:Dg A al t w=some v):v.length≤w.length:=by
 unfold Dg at h
 split at h
 ·obtain⟨p,_,rfl⟩:=E0 h
  simp
 ·cases h
theorem XX{A:W→Bool}{al:Int}{t u:AN}{w:W}(h:JS A al t w=some u):Na u:=by
 unfold JS at h
 split at h
 ·rename_i hv
  rw [Bool.and_eq_true] at hv
  have hsh:=(Bh hv.1).1
  have hw:=IC hv.2
  unfold Dr at h
  split at h
  ·cases h
  ·injection h with h
   subst h
   have hz:=hsh.sz
   have hcl:=hsh.cl
   refine⟨hz.rl,by simp;omega,hz.rb,fun x hx=>?_⟩
   rcases List.mem_append.1 hx with hx|hx
   ·exact hz.cb x hx
   ·simp at hx;subst hx;omega
 ·cases h
theorem XQ{t:CL}{al:Int}{A:W→Bool}(hT:Ih Tryz.prog TB 93 85 t al A)(hal:0≤al→Bb al=true)(tab:AN)(hz:Na tab)(w:W)(hw:w.length≤1048576) :
 Pure Tryz.prog TB 43 [Cj t,B8 tab,eT w] (EP (Hv A al tab w)):=by
 have h1:=Nt hT hal tab hz w hw
 rcases hs:Dg A al tab w with _|v
 ·have hn:Hv A al tab w=none:=by unfold Hv;rw [hs];rfl
  rw [hn]
  rw [hs] at h1
  refine eG Tryz.func43 rfl (by kernel_rfl) rfl ?_;intro Γ hΓ
  (repeat' first|refine tA rfl ?_ |(refine s2 rfl fun _ _hb=>?_;try (simp only[Bool.not_true,Bool.not_false] at _hb;subst _hb)) |refine sP rfl (h1) rfl ?_|(refine Ai rfl ?_;refine gA rfl ?_;first| refine gS (fun _ _=>AJ rfl rfl (by rfl) (by rfl)) ?_) |refine aU rfl ?_ |refine Aa ?_|(refine aC rfl ?_ ?_<;>rintro⟨⟩)|refine aK ?_|refine aE ?_|refine aB ?_|refine aR ⟨_,rfl,?_⟩)
  all_goals rfl
 ·rw [hs] at h1
  have hv:=Sm hs
  have h2:=Nb hT tab hz v (by omega)
  rcases ha:JS A al tab v with _|u
  ·have hn:Hv A al tab w=none:=by unfold Hv;rw [hs];simp [ha]
   rw [hn]
   rw [ha] at h2
   refine eG Tryz.func43 rfl (by kernel_rfl) rfl ?_;intro Γ hΓ
   (repeat' first|refine tA rfl ?_ |(refine s2 rfl fun _ _hb=>?_;try (simp only[Bool.not_true,Bool.not_false] at _hb;subst _hb)) |refine sP rfl (h1) rfl ?_|refine sP rfl (h2) rfl ?_|(refine Ai rfl ?_;refine gA rfl ?_;first| refine gS (fun _ _=>AJ rfl rfl (by rfl) (by rfl)) ?_) |refine aU rfl ?_ |refine Aa ?_|(refine aC rfl ?_ ?_<;>rintro⟨⟩)|refine aK ?_|refine aE ?_|refine aB ?_|refine aR ⟨_,rfl,?_⟩)
   all_goals rfl
  ·have hn:Hv A al tab w=Ir A al u:=by unfold Hv;rw [hs];simp [ha]
   rw [hn]
   rw [ha] at h2
   have h3:Pure Tryz.prog TB 29 [Cj t,B8 u] (EP (Ir A al u)):=LG hT u (XX ha)
   rcases hc:Ir A al u with _|x<;>rw [hc] at h3<;>(
    refine eG Tryz.func43 rfl (by kernel_rfl) rfl ?_;intro Γ hΓ
    (repeat' first|refine tA rfl ?_ |(refine s2 rfl fun _ _hb=>?_;try (simp only[Bool.not_true,Bool.not_false] at _hb;subst _hb)) |refine sP rfl (h1) rfl ?_|refine sP rfl (h2) rfl ?_|refine sP rfl (h3) rfl ?_|(refine Ai rfl ?_;refine gA rfl ?_;first| refine gS (fun _ _=>AJ rfl rfl (by rfl) (by rfl)) ?_) |refine aU rfl ?_ |refine Aa ?_|(refine aC rfl ?_ ?_<;>rintro⟨⟩)|refine aK ?_|refine aE ?_|refine aB ?_|refine aR ⟨_,rfl,?_⟩)
    all_goals rfl)
end Go.Am
namespace Go.Am
open Go
set_option linter.unusedVariables false
theorem GV{p:Bn}(hp:AK p=true):QX (GL p) (LA p) p.al:=fun w hw hl=>by
 unfold GL
 rw [hp,DS hw hl (Aj hp).1];rfl
theorem Vx{A L:W→Bool}{al:Int}{b:Nat}{t:AN}(h:QX A L al)(ht:ED al b t)(hb:b≤20100)(hk:A7 L (AO al) t){w:W}(hw:AB (AO al) w):IU A t w=IU L t w:=by
 rw [←K5 (hk.cm h ht hb) hw,←K5 hk hw,Lx h ht hb]
theorem ML{A L:W→Bool}{al:Int}{b:Nat}{t:AN}(h:QX A L al)(ht:ED al b t)(hb:b≤20100)(hk:A7 L (AO al) t){w:W}(hw:AB (AO al) w)(hl:w.length≤20000):Bt A t w=Bt L t w:=by
 have h0:0 < t.rows.length:=(List.getElem?_eq_some_iff.1 hk.r0).1
 unfold Bt
 rw [Vx h ht hb hk hw,h w hw (by omega),KK h ht hb hk (L w) w 0 h0 hw hl]
theorem GG{p:Bn}(hp:AK p=true){k:Nat}(hk:k≤Dn p):A6 (GL p) p.al (BK p k)=true:=by
 obtain⟨h1,h2,h3,h4,h5⟩:=Fi hp k hk
 have hbd:=Ls hp hk
 have hag:=GV hp
 have hph:=Aj hp
 have h12:=(ER hp).1
 have hA:=h1.cm hag hbd (by omega)
 have h0:0≤p.al:=by
  have:=hph.1
  unfold Bb at this
  simp at this;omega
 refine Rx (Gd hph.1 h0 hA.toTOk h3 (by omega) (fun w hw=>by have:=(hbd.onR w hw).2;omega) (fun w hw=>by have:=h5 w hw;omega)) hA.OZ
theorem XW{A:W→Bool}{al:Int}{t:AN}{v:W}(hv:AF A al t=true)(hl:CN al v=true)(hn:v∉t.cols)(hc:t.cols.length < 20):JS A al t v=some ⟨t.rows,t.cols++[v]⟩:=by
 unfold JS Dr
 rw [hv,hl,if_pos (by rfl:(true && true)=true),if_neg]
 intro h
 rcases h with h|h
 ·omega
 ·exact hn h
theorem Ti{al:Int}{w:W}(ha:Bb al=true)(hw:AB (AO al) w)(hl:w.length≤4000):CN al w=true:=by
 unfold CN
 rw [DS hw (by omega) ha,decide_eq_true hl];rfl
theorem bt{p:Bn}(hp:AK p=true){k:Nat}(hk:k < Dn p){w:W}(hw:Pj p (BK p k)=some w):Hv (GL p) p.al (BK p k) w=some (BK p (k+1)):=by
 obtain⟨w',v,hw',hN⟩:=Oq hp hk
 rw [hw] at hw'
 injection hw' with hw'
 subst hw'
 obtain⟨h1,h2,h3,h4,h5⟩:=Fi hp k (by omega)
 obtain⟨g1,g2,g3,g4,g5⟩:=Fi hp (k+1) (by omega)
 have hbd:=Ls hp (k:=k) (by omega)
 have hag:=GV hp
 have hph:=Aj hp
 have h12:=(ER hp).1
 have hcs:=GG hp (k:=k) (by omega)
 have hvs:=(DO hcs).1
 have hsh:=Kw hw
 obtain⟨hon,hne⟩:=(MX p).on _ w hw h1
 have hlw:=Ti hph.1 hon (by omega)
 have hs:Dg (GL p) p.al (BK p k) w=some v:=by
  unfold Dg
  rw [hcs,hlw]
  show Bt _ _ _=_
  rw [ML hag hbd (by omega) h1 hon (by omega)]
  unfold Bt
  rw [if_neg hne,hN.split]
 obtain⟨q,hq,hqw⟩:=hN.suf
 have hvon:AB (AO p.al) v:=fun c hc=>hon c (by rw [hqw];simp [hc])
 have hvl:v.length≤144:=by rw [hqw] at hsh;simp at hsh;omega
 have ha:=XW hvs (Ti hph.1 hvon (by omega)) hN.new (by omega)
 have hbu:ED p.al 20000 ⟨(BK p k).rows,(BK p k).cols++[v]⟩:=⟨hbd.onR,fun x hx=>by
  rcases List.mem_append.1 hx with hx|hx
  ·exact hbd.onC x hx
  ·simp at hx;subst hx;exact⟨hvon,by omega⟩,hbd.rl,by simp;omega⟩
 have hvu:AF (GL p) p.al ⟨(BK p k).rows,(BK p k).cols++[v]⟩=true:=by
  have h0:0≤p.al:=(Bh hvs).1.pos
  refine Gd hph.1 h0 ((h1.toTOk.Pm hvon hN.new).cm hag hbu (by omega)) h3 (by simp;omega) (fun w hw=>by have:=(hbd.onR w hw).2;omega) (fun x hx=>?_)
  rcases List.mem_append.1 hx with hx|hx
  ·have:=h5 x hx;omega
  ·simp at hx;subst hx;omega
 unfold Hv Ir
 rw [hs]
 simp only [Option.bind_some]
 rw [ha]
 simp only [Option.bind_some]
 rw [if_pos hvu,Gi hag 13 hbu (by omega),hN.close]
theorem XS{p:Bn}(hp:AK p=true):Ir (GL p) p.al BZ=some (BK p 0):=by
 have hag:=GV hp
 have hph:=Aj hp
 have h0:0≤p.al:=(Bh (DO (GG hp (k:=0) (by omega))).1).1.pos
 have hbd:=Kt p.al
 unfold Ir
 rw [if_pos (Gd hph.1 h0 (Ot _ _) (by decide) (by decide) (fun w hw=>by have:=(hbd.onR w hw).2;omega) (fun w hw=>by simp [BZ] at hw;subst hw;simp)),Gi hag 13 hbd (by omega)]
 exact(JG hp).1
theorem bT{p:Bn}(hp:AK p=true){k:Nat}(hk:k≤Dn p):AT (GL p) p.al (BK p k)=AT (LA p) p.al (BK p k):=Lx (GV hp) (Ls hp hk) (by omega)
theorem ei{p:Bn}(hp:AK p=true){k:Nat}(hk:k≤Dn p):Na (BK p k):=(Bh (DO (GG hp hk)).1).1.sz
end Go.Am
namespace Go.Am
open Go Go.Proofs
set_option maxHeartbeats 1000000
set_option maxRecDepth 4000
attribute [local irreducible] AV BX Lex Bf Av Spec
variable {TB:Be}
noncomputable def DK(te:CL)(w:W):Bool:=if te.kn then GL te.p w else Ib ⟨te.s,te.q,te.al⟩ w
def Dt(te:CL):Int:=if Cg te then Al te else -1
theorem eH(te:CL):Ih Tryz.prog TB 93 85 te (Dt te) (DK te):=by
 obtain⟨kn,p,s,q,al⟩:=te
 cases kn with
 | true=>exact eJ (t:=⟨true,p,s,q,al⟩) rfl
 | false=>exact ZK (t:=⟨false,p,s,q,al⟩) rfl
theorem UW{t:B1}(ht:A1 t=true):QX (Ib t) (LS t) t.al:=fun w hw hl=>by
 have hta:Bb t.al=true:=by unfold A1 at ht;simp only [Bool.and_eq_true] at ht;exact ht.2.2
 unfold Ib
 rw [ht,DS hw hl hta];rfl
theorem Gc{te:CL}(hok:Cg te=true):QX (DK te) (Bd te) (Al te):=by
 obtain⟨kn,p,s,q,al⟩:=te
 cases kn with
 | true=>exact GV hok
 | false=>exact UW (t:=⟨s,q,al⟩) hok
theorem Vk{A:W→Bool}{t:AN}:AF A (-1) t=false:=by
 cases h:AF A (-1) t
 ·rfl
 ·have:=(Bh h).1.pos;omega
theorem SA{A L:W→Bool}{al:Int}(h:QX A L al)(t:AN):AF A al t=AF L al t:=by
 unfold AF
 cases hs:Df al t
 ·rfl
 ·rw [FV h (MJ hs).bd (by omega)]
theorem Cp(te:CL)(x:AN):(Cg te && AF (Bd te) (Al te) x)=AF (DK te) (Dt te) x:=by
 unfold Dt
 cases hok:Cg te
 ·simp [Vk]
 ·rw [if_pos rfl,Bool.true_and,SA (Gc hok)]
theorem EC{te:CL}{x:AN}(h:AF (DK te) (Dt te) x=true):Cg te=true∧Dt te=Al te∧AF (Bd te) (Al te) x=true∧Pl (Al te) x∧(Az (Bd te) x).Nodup:=by
 rw [←Cp,Bool.and_eq_true] at h
 exact⟨h.1,by unfold Dt;rw [if_pos h.1],h.2,(Bh h.2).1,(Bh h.2).2⟩
theorem Yz{al:Int}(ha:Bb al=true){w:W}(h:AB (AO al) w)(hl:w.length≤4000):CN al w=true:=by
 unfold CN
 rw [DS h (by omega) ha,decide_eq_true hl];rfl
theorem PE{L:W→Bool}{ls:List UInt8}:∀ {n:Nat} {t u:AN},TOk L ls t→AZ L ls n t=some u→TOk L ls u∧AM L ls u=none∧t.rows <+: u.rows∧u.cols=t.cols∧(t.rows.length≤12→u.rows.length≤12)∧(AM L ls t≠none→t.rows.length < u.rows.length)∧(AM L ls t=none→u=t)
 | 0,t,u,_,h=>by simp [AZ] at h
 | n + 1,t,u,hk,h=>by
  unfold AZ at h
  cases ho:AM L ls t with
  | none=>
   rw [ho] at h
   injection h with h;subst h
   exact⟨hk,ho,List.prefix_refl _,rfl,id,fun h=>absurd rfl h,fun _=>rfl⟩
  | some w=>
   rw [ho] at h
   dsimp only at h
   split at h
   ·cases h
   ·rename_i hn
    obtain⟨h1,h2,h3,h4,h5,h6,h7⟩:=PE (hk.push ho) h
    have hp:=(List.prefix_append t.rows [w]).trans h3
    refine⟨h1,h2,hp,h4,fun h=>h5 (by simp;omega),fun _=>?_,fun h=>by cases h⟩
    have:=h3.length_le
    simp at this;omega
theorem X7{te:CL}{x u:AN}(h:AF (DK te) (Dt te) x=true)(hc:Dw te x=some u):AF (DK te) (Dt te) u=true∧AM (Bd te) (AO (Al te)) u=none∧x.rows <+: u.rows∧u.cols=x.cols∧(AM (Bd te) (AO (Al te)) x≠none→x.rows.length < u.rows.length)∧(AM (Bd te) (AO (Al te)) x=none→u=x):=by
 obtain⟨h1,h2,h3,h4,h5⟩:=EC h
 unfold Dw at hc
 rw [h1,h3,Bool.true_and,if_pos rfl] at hc
 obtain⟨k1,k2,k3,k4,k5,k6,k7⟩:=PE (E3 h3) hc
 refine⟨?_,k2,k3,k4,k6,k7⟩
 rw [←Cp,h1,Bool.true_and]
 have hl:=k5 h4.rl
 refine Gd (CJ h1) h4.pos k1 hl (by rw [k4];exact h4.cl) (fun w hw=>?_) (fun w hw=>by rw [k4] at hw;exact(h4.cw w hw).1)
 obtain⟨i,hi,he⟩:=List.getElem_of_mem hw
 have:=k1.short i w (by rw [List.getElem?_eq_getElem hi,he])
 omega
theorem VP(te:CL)(x:AN):(if AF (DK te) (Dt te) x then AZ (DK te) (AO (Dt te)) 13 x else none)=Dw te x:=by
 unfold Dw
 rw [Cp]
 by_cases hv:AF (DK te) (Dt te) x=true
 ·obtain⟨h1,h2,h3,h4,h5⟩:=EC hv
  rw [hv,h2,if_pos rfl,if_pos rfl]
  exact Gi (Gc h1) 13 h4.bd (by omega)
 ·rw [Bool.not_eq_true] at hv;rw [hv,if_neg Bool.false_ne_true,if_neg Bool.false_ne_true]
theorem Rw{te:CL}{x:AN}(h:AF (DK te) (Dt te) x=false):Dw te x=none:=by
 unfold Dw
 rw [Cp,h];rfl
theorem Zr{te:CL}{x u:AN}(hc:Dw te x=some u):AF (DK te) (Dt te) x=true:=by
 cases h:AF (DK te) (Dt te) x
 ·rw [Rw h] at hc;cases hc
 ·rfl
abbrev eP(al:Int)(i j:Nat)(n m:Nat):E:=.a [.d (iD al),.arr i 1 0 n,.arr j 1 0 m]
structure fF (m:Nat) (a:Bn):Prop where
 nx:a.nx.length≤m
 ac:a.ac.length≤m
 row:∀r∈a.nx,r.length≤m
def bW(a:Bn)(x:E)(σ:Ab)(nx:Nat):Prop:=∃l:Pr,l.map (·.2)=a.nx∧
 x=eP a.al 0 1 l.length a.ac.length∧σ=[(0,.cells 84 1 (CQ l)),(1,.cells 4 1 (a.ac.map BE)),(2,.sld 3 (sI l))]∧nx=3
end Go.Am
