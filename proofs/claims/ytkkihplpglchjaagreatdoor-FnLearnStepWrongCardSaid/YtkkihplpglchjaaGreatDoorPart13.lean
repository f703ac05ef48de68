/-
  The numbers of rows; the first word by which a table is open.
-/
import Derived.Test.YtkkihplpglchjaaGreatDoorPart12
import Derived.Test.YtkkihplpglchjaaGreatDoorPart9
set_option linter.constructorNameAsVariable false
set_option linter.unusedSimpArgs false
set_option linter.unusedVariables false
namespace Go.Am
open Go Go.Proofs
set_option maxHeartbeats 1000000
attribute [local irreducible] A1 BZ Lex Bj Ai Spec
variable {TB:Bh}
def Bn(L:W→Bool)(t:AT):Nat→List (W×Int)
 | 0=>[]
 | k+1=>if (Ch (Bn L t k) (marks L t.cols (t.rows.getD k []))).isSome then Bn L t k else Bn L t k++[(marks L t.cols (t.rows.getD k []),(k:Int))]
structure Sp (ok:W→Prop) (t:AT):Prop where
 ok:∀w∈t.rows,∀x∈t.cols,ok (w++x)
 rb:∀w∈t.rows,w.length≤65536
 cb:∀x∈t.cols,x.length≤65536
 rl:t.rows.length≤4096
 cl:t.cols.length≤4096
theorem FN{c:C}{L:W→Bool}{ok:W→Prop}(hc:FD Tryz.prog TB c L ok)(al:Int)(t:AT)(ht:Sp ok t) :
 Spec Tryz.prog TB 110 [] 0 [Ji al c,BV t] (fun x σ nx=>x=.o (.mp 0)∧nx=1∧σ=[(0,.mp (Gj (Bn L t t.rows.length)))]):=by
 have hr:=Cm c hc.AS
 have hrl:=ht.rl
 refine eN Tryz.func110 rfl (by kernel_rfl) rfl ?_;intro Γ hΓ
 (repeat first|refine aU rfl ?_)
 (refine pW rfl ?_ rfl (by rfl);refine Dm rfl rfl ?_)
 (refine Af rfl ?_;refine Ci (fun _ _=>C0 rfl rfl rfl) rfl ?_)
 (repeat first|refine tM rfl ?_ |refine aU rfl ?_ |refine Aa ?_)
 (refine pW rfl ?_ rfl (by rfl);refine Oh ?_)
 (repeat first|refine sN rfl ?_ |refine tM rfl ?_ |refine aU rfl ?_ |refine Aa ?_)
 refine aB ?_
 refine Ai.Bm (α:={k:Nat // k≤t.rows.length}) (fun ⟨k,hkl⟩=>[(2,.o (.ptr 0 2 0 0)),(3,.o (.ip (QT t))),(5,.o (.mp 1)),(13,.o (.d (AM t.rows))),(14,eI .i64 t.rows.length),(15,eI .i64 k)]) (fun ⟨k,hkl⟩=>[(1,.mp (Gj (Bn L t k))),(0,.cells 71 2 [[.d (iD al),c]])]) 2 (fun ⟨k,hkl⟩=>t.rows.length - k) (⟨0,by omega⟩) [0,1] (Fq hΓ rfl rfl) (by (simp[cX,zC,hΓ,hr,eC,Bn,Gj])) ?_;rintro⟨k,hkl⟩;(try dsimp only)
 (repeat first|refine s2 rfl fun _ _hb=>?_ |refine aU rfl ?_ |refine Aa ?_)
 (refine aC rfl ?_ ?_<;>rintro⟨⟩)
 ·have hlt:k < t.rows.length:=by (simp only[oZ] at *;omega)
  obtain⟨x,hx⟩:=get_some (l:=t.rows) (k:=k) hlt
  have hx':=get_map (g:=BD) hx
  have hxm:=List.mem_of_getElem? hx
  have hxb:=ht.rb x hxm
  have hm:=Mo hc al t x (by have:=ht.cl;omega) (ht.ok x hxm) (fun y hy=>by have:=ht.cb y hy;omega)
  have hgd:t.rows.getD k []=x:=by simp [hx]
  have hstep:Bn L t (k+1)=if (Ch (Bn L t k) (marks L t.cols x)).isSome then Bn L t k else Bn L t k++[(marks L t.cols x,(k:Int))]:=by
   rw [Bn,hgd]
  refine aK ?_
  refine aS (aB ?_)
  (repeat first|refine tM rfl ?_ |(refine s4 rfl ‹_› rfl ?_ ?_;omega) |refine s2 rfl fun _ _hb=>?_|(refine Af rfl ?_;refine gA rfl ?_;first| refine gS (fun _ _=>AJ rfl rfl (by simp [E.AS,C.Be,C.AS,hc.AS]) hm rfl) ?_|refine gQ (WZ rfl rfl rfl) (by rfl) ?_) |refine aU rfl ?_ |refine Aa ?_)
  (refine aC rfl ?_ ?_<;>rintro⟨⟩)
  ·have hn:Ch (Bn L t k) (marks L t.cols x)=none:=by simpa using _hb
   rw [hn] at hstep
   (repeat first|refine tM rfl ?_ |refine aU rfl ?_)
   (refine Af rfl ?_;refine Gm ?_ rfl (by rfl);refine bh rfl rfl rfl rfl hn ?_)
   (repeat first|(refine sM rfl ?_ ?_;first|exact tI|omega) |refine aU rfl ?_ |refine Aa ?_)
   refine⟨⟨k+1,by omega⟩,by dsimp only;(omega),[0,1],?_⟩
   simp[cX,zC,hΓ,hr,hstep]
  ·have hn:(Ch (Bn L t k) (marks L t.cols x)).isSome=true:=by simpa using _hb
   rw [if_pos hn] at hstep
   refine aK ?_
   (repeat first|(refine sM rfl ?_ ?_;first|exact tI|omega) |refine aU rfl ?_ |refine Aa ?_)
   refine⟨⟨k+1,by omega⟩,by dsimp only;(omega),[0,1],?_⟩
   simp[cX,zC,hΓ,hr,hstep]
 ·obtain rfl:k=t.rows.length:=by (simp only[oZ] at *;omega)
  refine aE ?_
  (repeat first|refine tM rfl ?_ |refine aU rfl ?_ |refine Aa ?_)
  refine Ai.names [1] [(4,.o (.mp 0))] [(0,.mp (Gj (Bn L t t.rows.length)))] (by intro i hi;rw [hΓ] at hi;omega) (by simp) (by simp[cX,zC,hΓ]) (by simp[cX,zC,hΓ]) ?_
  refine aR ⟨_,rfl,rfl,rfl,rfl⟩
theorem T6(l:List (W×Int))(p:W×Int)(s:W):Ch (l++[p]) s=(Ch l s).or (if p.1=s then some p.2 else none):=by
 unfold Ch
 rw [List.find?_append]
 cases h:l.find? (fun p=>decide (p.1=s)) with
 | some q=>simp
 | none=>by_cases hp:p.1=s<;>simp [hp]
theorem IS{L:W→Bool}{t:AT}{k:Nat}(h:k < t.rows.length):(AA L t)[k]? = some (marks L t.cols (t.rows.getD k [])):=by
 simp [AA,h]
theorem Ko(L:W→Bool)(t:AT):∀k,k≤t.rows.length→∀s,Ch (Bn L t k) s=if s∈(AA L t).take k then some (((AA L t).idxOf s:Nat):Int) else none
 | 0,_,s=>by simp [Bn,Ch]
 | k + 1, hk, s=>by
  have ih:=Ko L t k (by omega)
  have hx:=IS (L:=L) (t:=t) (k:=k) (by omega)
  generalize marks L t.cols (t.rows.getD k [])=x at *
  have hst:Bn L t (k+1)=if (Ch (Bn L t k) x).isSome then Bn L t k else Bn L t k++[(x,(k:Int))]:=by
   have hx2:=IS (L:=L) (t:=t) (k:=k) (by omega)
   rw [hx] at hx2
   injection hx2 with hx2
   rw [Bn,←hx2]
  have htk:∀s,s∈(AA L t).take (k+1)↔s∈(AA L t).take k∨s=x:=fun s=>by
   rw [List.take_add_one,hx];simp
  rw [hst]
  by_cases hm:x∈(AA L t).take k
  ·rw [if_pos (by rw [ih x,if_pos hm];rfl),ih s]
   by_cases hs:s∈(AA L t).take k
   ·rw [if_pos hs,if_pos ((htk s).2 (.inl hs))]
   ·rw [if_neg hs,if_neg]
    intro h
    rcases(htk s).1 h with h|h
    ·exact hs h
    ·subst h;exact hs hm
  ·rw [if_neg (by rw [ih x,if_neg hm];simp),T6,ih s]
   by_cases hs:s∈(AA L t).take k
   ·rw [if_pos hs,if_pos ((htk s).2 (.inl hs))];rfl
   ·rw [if_neg hs]
    by_cases he:x=s
    ·subst he
     rw [if_pos ((htk x).2 (.inr rfl))]
     have hix:(AA L t).idxOf x=k:=by
      have hl:k < (AA L t).length:=(List.getElem?_eq_some_iff.1 hx).1
      have e:AA L t=(AA L t).take k++x::(AA L t).drop (k+1):=by
       rw [←Cz hx,List.take_append_drop]
      rw [e,List.idxOf_append,if_neg hm,List.idxOf_cons_self]
      simp;omega
     simp [hix]
    ·have hns:s∉(AA L t).take (k+1):=fun h=>by
      rcases(htk s).1 h with h|h
      ·exact hs h
      ·exact he h.symm
     rw [if_neg hns]
     simp [he]
theorem Qs{L:W→Bool}{t:AT}{s:W}:Ch (Bn L t t.rows.length) s=if s∈AA L t then some (((AA L t).idxOf s:Nat):Int) else none:=by
 have h:=Ko L t t.rows.length (Nat.le_refl _) s
 have e:(AA L t).take t.rows.length=AA L t:=List.take_of_length_le (by simp [AA])
 rwa [e] at h
theorem Tp{L:W→Bool}{ls:List UInt8}{t:AT}{k j:Nat}{r:W}{l:UInt8}(hr:t.rows[k]? = some r)(hl:ls[j]? = some l)(h1:∀w∈Cd ls (t.rows.take k),marks L t.cols w∈AA L t)(h2:∀x∈ls.take j,marks L t.cols (r++[x])∈AA L t)
 (h3:marks L t.cols (r++[l])∉AA L t):AO L ls t=some (r++[l]):=by
 have e1:t.rows=t.rows.take k++r::t.rows.drop (k+1):=by
  rw [←Cz hr,List.take_append_drop]
 have e2:ls=ls.take j++l::ls.drop (j+1):=by
  rw [←Cz hl,List.take_append_drop]
 have e3:Cd ls t.rows=Cd ls (t.rows.take k)++((ls.take j).map (fun x=>r++[x])++(r++[l])::((ls.drop (j+1)).map (fun x=>r++[x])++Cd ls (t.rows.drop (k+1)))):=by
  have h4:Cd ls t.rows=Cd ls (t.rows.take k++r::t.rows.drop (k+1)):=congrArg _ e1
  rw [h4]
  unfold Cd
  rw [List.flatMap_append,List.flatMap_cons]
  have h5:ls.map (fun x=>r++[x])=(ls.take j++l::ls.drop (j+1)).map (fun x=>r++[x]):=congrArg _ e2
  rw [h5]
  simp
 unfold AO
 rw [e3,List.find?_append,List.find?_append]
 have n1:(Cd ls (t.rows.take k)).find? (fun w=>!(AA L t).contains (marks L t.cols w))=none:=List.find?_eq_none.2 fun w hw=>by simpa using h1 w hw
 have n2:((ls.take j).map (fun x=>r++[x])).find? (fun w=>!(AA L t).contains (marks L t.cols w))=none:=List.find?_eq_none.2 fun w hw=>by
  obtain⟨x,hx,rfl⟩:=List.mem_map.1 hw
  simpa using h2 x hx
 rw [n1,n2]
 simp [h3]
def lb(l:Int):UInt8:=UInt8.ofNat (97+l.toNat)
def AY(al:Int):List UInt8:=(Ac al).map lb
def OS(o:Option W):E:=match o with
 | some w=>.t [(false,[.d (tD w)]),(false,[.d (bD true)])]
 | none=>.t [(false,[.d (tD [])]),(false,[.d (bD false)])]
theorem YT{l:Int}(h0:0≤l):UInt8.ofNat (97+l).toNat=lb l:=by
 unfold lb
 congr 1
 omega
theorem PR{L:W→Bool}{t:AT}{s:W}:(Ch (Bn L t t.rows.length) s).isSome=true↔s∈AA L t:=by
 rw [Qs]
 by_cases h:s∈AA L t<;>simp [h]
theorem Mr{ls:List UInt8}{t:AT}{k:Nat}{r:W}(h:t.rows[k]? = some r):Cd ls (t.rows.take (k+1))=Cd ls (t.rows.take k)++ls.map fun l=>r++[l]:=by
 unfold Cd
 rw [List.take_add_one,h]
 simp
theorem GF{c:C}{L:W→Bool}{ok:W→Prop}(hc:FD Tryz.prog TB c L ok)(al:Int)(t:AT)(ht:Sp ok t)(hn:∀w∈t.rows,∀l∈AY al,∀x∈t.cols,ok (w++[l]++x)) :
 Pure Tryz.prog TB 63 [Ji al c,BV t] (OS (AO L (AY al) t)):=by
 have hr:=Cm c hc.AS
 have hrl:=ht.rl
 have hla:(Ac al).length≤6:=AR al 6
 refine eN Tryz.func63 rfl (by kernel_rfl) rfl ?_;intro Γ hΓ
 (repeat first|refine aU rfl ?_)
 (refine pW rfl ?_ rfl (by rfl);refine Dm rfl rfl ?_)
 (refine Af rfl ?_;refine Ci (fun _ _=>C0 rfl rfl rfl) rfl ?_)
 (repeat first|refine tM rfl ?_ |refine aU rfl ?_ |refine Aa ?_)
 (refine pW rfl ?_ rfl (by rfl);refine Ae [] rfl rfl (FN hc al t ht) ⟨rfl,by simp,by simp⟩ (by simp [Ha,E.A4,C.Ce,C.A4,hr,eC]) trivial ?_;rintro x0 σ1 nx1 ⟨rfl,rfl,rfl⟩ _)
 (repeat first|refine sN rfl ?_ |refine tM rfl ?_ |refine aU rfl ?_ |refine Aa ?_)
 refine aB ?_
 refine Ai.Bm (α:={k:Nat // k≤t.rows.length∧∀w∈Cd (AY al) (t.rows.take k),marks L t.cols w∈AA L t}) (fun ⟨k,hkl,hkd⟩=>[(2,.o (.ptr 0 2 0 0)),(3,.o (.ip (QT t))),(6,.o (.mp 1)),(18,.o (.d (AM t.rows))),(19,eI .i64 t.rows.length),(20,eI .i64 k)]) (fun ⟨k,hkl,hkd⟩=>[(1,.mp (Gj (Bn L t t.rows.length))),(0,.cells 71 2 [[.d (iD al),c]])]) 2 (fun ⟨k,hkl,hkd⟩=>t.rows.length - k) (⟨0,by omega,by simp [Cd]⟩) [0,1] (Fq hΓ rfl rfl) (by (simp[cX,zC,hΓ,hr,eC,Ab.A4,CL,HW])) ?_;rintro⟨k,hkl,hkd⟩;(try dsimp only)
 (repeat first|refine s2 rfl fun _ _hb=>?_ |refine aU rfl ?_ |refine Aa ?_)
 (refine aC rfl ?_ ?_<;>rintro⟨⟩)
 ·have hlt:k < t.rows.length:=by (simp only[oZ] at *;omega)
  obtain⟨r,hx⟩:=get_some (l:=t.rows) (k:=k) hlt
  have hx':=get_map (g:=BD) hx
  have hxm:=List.mem_of_getElem? hx
  have hxb:=ht.rb r hxm
  refine aK ?_
  refine aS (aB ?_)
  (repeat first|refine sN rfl ?_ |refine tM rfl ?_ |(refine s4 rfl ‹_› rfl ?_ ?_;omega) |refine sP rfl (DV al) rfl ?_ |refine aU rfl ?_ |refine Aa ?_)
  refine aB ?_
  refine Ai.Bm (α:={j:Nat // j≤(Ac al).length∧∀x∈(AY al).take j,marks L t.cols (r++[x])∈AA L t}) (fun ⟨j,hjl,hjd⟩=>[(2,.o (.ptr 0 2 0 0)),(3,.o (.ip (QT t))),(6,.o (.mp 1)),(18,.o (.d (AM t.rows))),(19,eI .i64 t.rows.length),(20,eI .i64 k),(8,eT r),(26,Ay (Ac al)),(27,eI .i64 (Ac al).length),(28,eI .i64 j)]) (fun ⟨j,hjl,hjd⟩=>[(1,.mp (Gj (Bn L t t.rows.length))),(0,.cells 71 2 [[.d (iD al),c]])]) 2 (fun ⟨j,hjl,hjd⟩=>(Ac al).length - j) (⟨0,by omega,by simp⟩) [0,1] (Fq hΓ rfl rfl) (by (simp[cX,zC,hΓ,hr])) ?_;rintro⟨j,hjl,hjd⟩;(try dsimp only)
  (repeat first|refine s2 rfl fun _ _hb=>?_ |refine aU rfl ?_ |refine Aa ?_)
  (refine aC rfl ?_ ?_<;>rintro⟨⟩)
  ·have hjlt:j < (Ac al).length:=by (simp only[oZ] at *;omega)
   obtain⟨l,hl⟩:=get_some (l:=Ac al) (k:=j) hjlt
   have hl':=get_map (g:=Bv) hl
   have hlb:=A2 (List.mem_of_getElem? hl)
   have hll:(AY al)[j]? = some (lb l):=by simp [AY,hl]
   have hlm:=List.mem_of_getElem? hll
   have hm:=Mo hc al t (r++[lb l]) (by have:=ht.cl;omega) (fun x hx=>hn r hxm _ hlm x hx) (fun y hy=>by have:=ht.cb y hy;simp;omega)
   refine aK ?_
   refine aS (aB ?_)
   (repeat first|(refine sM rfl ?_ ?_;first|exact tI|omega|simp only[oZ] at *;omega) |(refine s4 rfl ‹_› rfl ?_ ?_;omega) |refine sP rfl (Iq l hlb.1 (by omega)) rfl ?_|(refine Af rfl ?_;refine gA rfl ?_;first| refine gS (fun _ _=>W7 rfl (by omega) (by omega)) ?_) |refine aU rfl ?_ |refine Aa ?_)
   rw [YT hlb.1]
   (repeat first|refine tM rfl ?_ |refine s2 rfl fun _ _hb=>?_|(refine Af rfl ?_;refine gA rfl ?_;first| refine gS (fun _ _=>AJ rfl rfl (by simp [E.AS,C.Be,C.AS,hc.AS]) hm rfl) ?_|refine gQ (WZ rfl rfl rfl) (by rfl) ?_) |refine aU rfl ?_ |refine Aa ?_)
   (refine aC rfl ?_ ?_<;>rintro⟨⟩)
   ·have hno:marks L t.cols (r++[lb l])∉AA L t:=fun h=>by
     rw [PR.2 h] at _hb
     cases _hb
    (repeat first|refine tM rfl ?_ |refine aU rfl ?_ |refine Aa ?_)
    refine aR ⟨_,rfl,?_⟩
    rw [Tp hx hll hkd hjd hno]
    rfl
   ·have hyes:marks L t.cols (r++[lb l])∈AA L t:=PR.1 (by simpa using _hb)
    have hjd2:∀x∈(AY al).take (j+1),marks L t.cols (r++[x])∈AA L t:=fun x hx=>by
     rw [List.take_add_one,hll] at hx
     rcases List.mem_append.1 hx with hx|hx
     ·exact hjd x hx
     ·simp at hx;subst hx;exact hyes
    refine aK ?_
    (repeat first|(refine sM rfl ?_ ?_;first|exact tI|omega) |refine aU rfl ?_ |refine Aa ?_)
    refine⟨⟨j+1,by omega,hjd2⟩,by dsimp only;(omega),[0,1],?_⟩
    simp[cX,zC,hΓ,hr]
  ·obtain rfl:j=(Ac al).length:=by (simp only[oZ] at *;omega)
   have hkd2:∀w∈Cd (AY al) (t.rows.take (k+1)),marks L t.cols w∈AA L t:=fun w hw=>by
    rw [Mr hx] at hw
    rcases List.mem_append.1 hw with hw|hw
    ·exact hkd w hw
    ·obtain⟨x,hx2,rfl⟩:=List.mem_map.1 hw
     exact hjd x (by rw [List.take_of_length_le (by simp [AY])];exact hx2)
   refine aE ?_
   (repeat first|(refine sM rfl ?_ ?_;first|exact tI|omega) |refine aU rfl ?_ |refine Aa ?_)
   refine⟨⟨k+1,by omega,hkd2⟩,by dsimp only;(omega),[0,1],?_⟩
   simp[cX,zC,hΓ,hr]
 ·obtain rfl:k=t.rows.length:=by (simp only[oZ] at *;omega)
  have hno:AO L (AY al) t=none:=List.find?_eq_none.2 fun w hw=>by
   have:=hkd w (by rw [List.take_length];exact hw)
   simpa using this
  refine aE ?_
  (repeat first|refine tM rfl ?_ |refine aU rfl ?_ |refine Aa ?_)
  refine aR ⟨_,rfl,?_⟩
  rw [hno]
  rfl
theorem Jf(l:List W)(h:l.length≤1048576):Spec Tryz.prog TB 122 [] 0 [Bp l] (fun x σ nx=>x=.o (.arr 0 1 0 l.length)∧nx=1∧σ=[(0,.cells 9 1 (l.map AP))]):=by
 refine eN Tryz.func122 rfl (by kernel_rfl) rfl ?_;intro Γ hΓ
 (repeat first|refine aU rfl ?_)
 (refine Af rfl ?_;refine Ci (fun _ _=>DA rfl) rfl ?_)
 (repeat first|refine tM rfl ?_ |refine aU rfl ?_ |refine Aa ?_)
 (refine pW rfl ?_ rfl (by rfl);refine Ww rfl ?_;intro b0 hb0)
 (repeat first|refine Aa ?_)
 (refine aC rfl ?_ ?_<;>rintro⟨⟩)
 ·obtain rfl:l=[]:=by simpa using hb0 rfl
  (repeat first|refine aU rfl ?_)
  (refine pW rfl ?_ rfl (by rfl);refine Wx 1 9 ?_)
  (repeat first|refine Aa ?_)
  refine aR ⟨_,rfl,rfl,rfl,rfl⟩
 ·refine aK ?_
  (repeat first|refine aU rfl ?_)
  (refine pW rfl ?_ rfl (by rfl);refine Ba rfl rfl rfl rfl (by simp) (by rfl) (by rfl) (by rfl) (by rfl) ?_)
  (repeat first|refine tM rfl ?_)
  (refine pW rfl ?_ rfl (by rfl);refine Ax rfl rfl rfl (by first| (simp;done)|(simp;(omega))) rfl (by intro r hr;simp at hr;obtain⟨a,_,rfl⟩:=hr;rfl) (by rfl) (Nat.le_of_ble_eq_true rfl) (by simp;omega) ?_)
  (repeat first|refine tM rfl ?_ |refine Aa ?_)
  refine Ai.names [1] [(2,.o (.arr 0 1 0 l.length))] [(0,.cells 9 1 (l.map AP))] (by intro i hi;rw [hΓ] at hi;omega) (by simp) (by simp[cX,zC,hΓ]) (by simp[cX,zC,hΓ]) ?_
  refine aR ⟨_,rfl,rfl,rfl,rfl⟩
theorem Wb(l:List W)(s:W):Pure Tryz.prog TB 139 [Bp l,eT s] (eI .i64 (if s∈l then (l.idxOf s:Int) else -1)):=by
 refine eN Tryz.func139 rfl (by kernel_rfl) rfl ?_;intro Γ hΓ
 refine Ai.bound 0 rfl fun hB0=>?_
 have hB:=hB0 (l.map BD) .refl
 (repeat first|refine sN rfl ?_ |refine tM rfl ?_ |refine aU rfl ?_ |refine Aa ?_)
 refine aB ?_
 refine Ai.Bm (α:={k:Nat // k≤l.length∧s∉l.take k}) (fun ⟨k,hk,hs⟩=>[(0,Bp l),(1,eT s),(7,eI .i64 l.length),(8,eI .i64 k)]) (fun ⟨k,hk,hs⟩=>[]) 0 (fun ⟨k,hk,hs⟩=>l.length - k) (⟨0,by omega,by simp⟩) [] (Fq hΓ rfl rfl) (by (simp[cX,zC,hΓ])) ?_;rintro⟨k,hk,hs⟩;(try dsimp only)
 (repeat first|refine s2 rfl fun _ _hb=>?_ |refine aU rfl ?_ |refine Aa ?_)
 (refine aC rfl ?_ ?_<;>rintro⟨⟩)
 ·have hlt:k < l.length:=by (simp only[oZ] at *;omega)
  obtain⟨x,hx⟩:=get_some (l:=l) (k:=k) hlt
  have hx':=get_map (g:=BD) hx
  refine aK ?_
  refine aS (aB ?_)
  (repeat first|refine tM rfl ?_ |(refine s4 rfl ‹_› rfl ?_ ?_;omega) |refine s2 rfl fun _ _hb=>?_ |refine aU rfl ?_ |refine Aa ?_)
  (refine aC rfl ?_ ?_<;>rintro⟨⟩)
  ·have he:s=x:=by (simp only[oZ] at *;omega)
   subst he
   (repeat first|refine tM rfl ?_ |refine aU rfl ?_ |refine Aa ?_)
   refine aR ⟨_,rfl,?_⟩
   have hm:s∈l:=List.mem_of_getElem? hx
   have hi:l.idxOf s=k:=by
    have e:l=l.take k++s::l.drop (k+1):=by rw [←Cz hx,List.take_append_drop]
    rw [e,List.idxOf_append,if_neg hs,List.idxOf_cons_self]
    simp;omega
   rw [if_pos hm,hi]
  ·have he:¬s=x:=by simpa using _hb
   have hs2:s∉l.take (k+1):=by
    rw [List.take_add_one,hx]
    simp [hs,he]
   refine aK ?_
   (repeat first|(refine sM rfl ?_ ?_;first|exact tI|simp only[oZ] at *;omega) |refine aU rfl ?_ |refine Aa ?_)
   refine⟨⟨k+1,by omega,hs2⟩,by dsimp only;(omega),[],?_⟩
   simp[cX,zC,hΓ]
 ·obtain rfl:k=l.length:=by (simp only[oZ] at *;omega)
  rw [List.take_length] at hs
  refine aE ?_
  (repeat first|refine tM rfl ?_ |refine aU rfl ?_ |refine Aa ?_)
  refine aR ⟨_,rfl,?_⟩
  rw [if_neg hs]
theorem Fv(l:List W)(s:W):Pure Tryz.prog TB 109 [Bp l,eT s] (eB (decide (s∈l))):=by
 refine eN Tryz.func109 rfl (by kernel_rfl) rfl ?_;intro Γ hΓ
 (repeat' first|refine tA rfl ?_ |refine s2 rfl fun _ _hb=>?_ |refine sP rfl (Wb l s) rfl ?_ |refine aU rfl ?_ |refine Aa ?_|(refine aC rfl ?_ ?_<;>rintro⟨⟩)|refine aK ?_|refine aE ?_|refine aB ?_|refine aR ⟨_,rfl,?_⟩)
 all_goals (show E.o _=E.o _;congr;subst _hb;by_cases h:s∈l<;>simp [h])
def Db(t:AT)(Pq:W):Option AT:=if t.cols.length=20∨Pq∈t.cols then none else some ⟨t.rows,t.cols++[Pq]⟩
def Ex(o:Option AT):E:=match o with
 | some t=>.t [(true,[.d (AM t.rows),.d (AM t.cols)]),(false,[.d (bD true)])]
 | none=>.t [(true,[.d (.l []),.d (.l [])]),(false,[.d (bD false)])]
theorem I6(t:AT)(Pq:W)(hr:t.rows.length≤4096)(hcl:t.cols.length≤4096):Pure Tryz.prog TB 79 [BV t,eT Pq] (Ex (Db t Pq)):=by
 have hc1:=Jf (TB:=TB) t.rows (by omega)
 have hc2:=Jf (TB:=TB) t.cols (by omega)
 refine AU.GW (AU.ofM 2 (Nat.le_refl _) Tryz.func79 rfl rfl (by kernel_rfl) (Nat.le_of_ble_eq_true rfl) ?_);intro Γ hΓ
 (repeat first|refine aU rfl ?_)
 (refine Af rfl ?_;refine Ci (fun _ _=>C0 rfl rfl rfl) rfl ?_)
 (repeat first|refine sN rfl ?_ |refine tM rfl ?_ |refine s2 rfl fun _ _hb=>?_ |(refine sC rfl (Fv t.cols Pq) ?_;intro _ _hb) |refine s3 rfl ?_ ?_<;>rintro rfl |refine aU rfl ?_ |refine Aa ?_)
 ·(refine aC rfl ?_ ?_<;>rintro⟨⟩)
  have hn:Db t Pq=none:=by unfold Db;rw [if_pos (.inl (by (simp only[oZ] at *;omega)))]
  (repeat first|refine tM rfl ?_|(refine Af rfl ?_;refine gA rfl ?_;first| refine gS (fun _ _=>Av rfl rfl (by rfl) (by rfl)) ?_) |refine aU rfl ?_ |refine Aa ?_)
  refine Ai.freeze [0] [(4,.o (.ip [.l [],.l []])),(5,eB false)] ⟨⟨_,rfl,.o (.ptr (by simp) rfl rfl rfl)⟩,⟨_,rfl,.Bb⟩,trivial⟩ ?_
  refine aR ⟨_,rfl,?_⟩
  rw [hn];rfl
 (repeat first|refine tM rfl ?_ |(refine sC rfl (Fv t.cols Pq) ?_;intro _ _hb) |refine Aa ?_)
 (refine aC rfl ?_ ?_<;>rintro⟨⟩)
 ·have hn:Db t Pq=none:=by unfold Db;rw [if_pos (.inr (by (simp only[oZ] at *;omega)))]
  (repeat first|refine tM rfl ?_|(refine Af rfl ?_;refine gA rfl ?_;first| refine gS (fun _ _=>Av rfl rfl (by rfl) (by rfl)) ?_) |refine aU rfl ?_ |refine Aa ?_)
  refine Ai.freeze [0] [(4,.o (.ip [.l [],.l []])),(5,eB false)] ⟨⟨_,rfl,.o (.ptr (by simp) rfl rfl rfl)⟩,⟨_,rfl,.Bb⟩,trivial⟩ ?_
  refine aR ⟨_,rfl,?_⟩
  rw [hn];rfl
 ·refine aK ?_
  refine aS ?_
  refine rG (cU [0,1,3,4,6,7,2,5,8,9,10,11] [2,5,8,10] [0,1,3,4,6,7]) (by kernel_rfl) ?_
  (repeat first|refine tA rfl ?_)
  (refine pW rfl ?_ rfl (by rfl);refine Ae [] rfl rfl hc1 ⟨rfl,by simp,by simp⟩ rfl trivial ?_;rintro x0 σ1 nx1 ⟨rfl,rfl,rfl⟩ _)
  (refine pW rfl ?_ rfl (by rfl);refine Ae [] rfl rfl hc2 ⟨rfl,by simp,by simp⟩ rfl trivial ?_;rintro x0 σ1 nx1 ⟨rfl,rfl,rfl⟩ _)
  (refine pW rfl ?_ rfl (by rfl);refine Ax rfl rfl rfl (by first| (simp;done)|(simp;(omega))) rfl (by intro r hr;simp at hr;subst hr;rfl) (by rfl) (Nat.le_of_ble_eq_true rfl) (by simp;omega) ?_)
  (repeat first|refine tA rfl ?_|(refine Af rfl ?_;refine gA rfl ?_;first| refine gS (fun _ _=>Av rfl rfl (by rfl) (by rfl)) ?_) |refine Aa ?_)
  have hnm:Pq∉t.cols:=by simpa using _hb
  have hn:Db t Pq=some ⟨t.rows,t.cols++[Pq]⟩:=by
   unfold Db
   rw [if_neg]
   rintro(h|h)
   ·(simp only[oZ] at *;omega)
   ·exact hnm h
  refine Ai.names [0,1,3] [(4,.o (.ptr 0 2 0 0)),(5,eB true)] [(0,.cells 36 2 [[.arr 1 1 0 t.rows.length,.arr 2 1 0 (t.cols.length+1)]]),(1,.cells 9 1 (t.rows.map AP)),(2,.cells 9 1 ((t.cols++[Pq]).map AP))] (by intro i hi;rw [hΓ] at hi;omega) (by simp) (by simp[cX,zC,hΓ,HW]) (by simp[cX,zC,hΓ,HW,Ab.A4,CL,B2,eC,Ag]) ?_
  refine Ai.Jl [1,2] [(4,.o (.ptr 0 2 0 0)),(5,eB true)] [(0,.cells 36 2 [[.d (AM t.rows),.d (AM (t.cols++[Pq]))]])] ⟨⟨_,rfl,.Bb⟩,⟨_,rfl,.Bb⟩,trivial⟩ ⟨⟨_,rfl,by simp,.cons (.full (by simp) rfl (by simp [Function.comp_def]) (by simp)) (.cons (.full (by simp) rfl (by simp [Function.comp_def]) (by simp)) .nil)⟩,trivial⟩ ?_
  refine Ai.freeze [0] [(4,.o (.ip [AM t.rows,AM (t.cols++[Pq])])),(5,eB true)] ⟨⟨_,rfl,.o (.ptr (by simp) rfl rfl rfl)⟩,⟨_,rfl,.Bb⟩,trivial⟩ ?_
  refine aR ⟨_,rfl,?_⟩
  rw [hn];rfl
end Go.Am
namespace Go.Am.R
open Go
section
variable {P:Program}{TB:Bh}{ops:Array Oper}{i c:Nat}{r:List (Nat×Nat)}{L:List (Nat×E)}{σ:Ab}{nx:Nat}{pl:List (Nat×(TypeId×List Value))}{K:BJ→Prop}{d:Tmp}{ty:TypeId}{pos:String}{af:Array Edge}{g:Option (Nat×Bool)}{op:Op}
theorem yQ{md:Bool}[hT:CN P]{q:Prop}{x:E}(hg:Br ops ⟨some d,op,ty,pos,af,g⟩ (look L)=some true)(hc:(Nat.beq c 0 || Nat.beq c 2)=true)(h:Xa hT.T md (look L) op=some (q,x))(hq:q)(hk:FG P TB ops r K ((d,x)::L) σ nx (Dv d pl)):Bj P TB ops ⟨some d,op,ty,pos,af,g⟩ i c r K L σ nx pl:=
 Ci (fun _ _ _=>TA h hq) hg hc hk
theorem yB[hT:CN P]{b0:Bool}(hg:Br ops ⟨some d,op,ty,pos,af,g⟩ (look L)=some true)(hc:(Nat.beq c 0 || Nat.beq c 2)=true)(h:QE hT.T (look L) op=some b0)(hk:∀b,b0=b→FG P TB ops r K ((d,eB b)::L) σ nx (Dv d pl)):Bj P TB ops ⟨some d,op,ty,pos,af,g⟩ i c r K L σ nx pl:=
 Uw (fun _ _ _=>QF h) hg hc hk
theorem yS[hT:CN P]{x:E}(hg:Br ops ⟨some d,op,ty,pos,af,g⟩ (look L)=some true)(hc:Nat.beq c 0=true)(h:KR hT.T σ (look L) op=some x)(hk:FG P TB ops r K ((d,x)::L) σ nx (Dv d pl)):Bj P TB ops ⟨some d,op,ty,pos,af,g⟩ i c r K L σ nx pl:=
 Ym (fun _=>MG h) hg hc hk
theorem yW[hT:CN P]{t:TypeId}{x y:Operand}{σ':Ab}(hg:Br ops ⟨none,.store t x y,ty,pos,af,g⟩ (look L)=some true)(hc:c=1)(h:Ot hT.T σ (look L) t x y=some σ')(hk:FG P TB ops r K L σ' nx pl):Bj P TB ops ⟨none,.store t x y,ty,pos,af,g⟩ i c r K L σ nx pl:=
 Gm (fun _=>MH h hk) hg hc
theorem yA[hT:CN P]{t:Tmp}{ts:TypeId}{y:Operand}{T:TypeId}{z:List Value}{σ':Ab}(hp:look pl t=some (T,z))(hg:Br ops ⟨none,.store ts (.tmp t) y,ty,pos,af,g⟩ (look ((t,.o (.ptr nx z.length 0 0))::L))=some true)(hc:c=5)
 (h:Ot hT.T ((nx,.cells T z.length [z.map zC])::σ) (look ((t,.o (.ptr nx z.length 0 0))::L)) ts (.tmp t) y=some σ') (hk:FG P TB ops r K ((t,.o (.ptr nx z.length 0 0))::L) σ' (nx+1) (Dv t pl)):Bj P TB ops ⟨none,.store ts (.tmp t) y,ty,pos,af,g⟩ i c r K L σ nx pl:=
 bn hp hg hc fun _=>MH h hk
theorem yP[hT:CN P]{T:TypeId}{z:List Value}(hz:(Ii hT.T T).ze=some z)(hok:z.all Ng=true)(hf:look L d=none)(hc:c=3)(h:FG P TB ops r K L σ nx ((d,(T,z))::pl)):Bj P TB ops ⟨some d,.alloc T,ty,pos,af,none⟩ i c r K L σ nx pl:=
 haveI:=(Ds (P:=P) T hT.ok).VY hz
 da hok hf hc h
end
end Go.Am.R
namespace Go.Am
open Go Go.Proofs
set_option maxHeartbeats 1000000
attribute [local irreducible] A1 BZ Lex Bj Ai Spec
variable {TB:Bh}
structure Fp (al:Int) (b:Nat) (t:AT):Prop where
 onR:∀w∈t.rows,AN (AY al) w∧w.length≤b
 onC:∀x∈t.cols,AN (AY al) x∧x.length≤20000
 rl:t.rows.length≤12
 cl:t.cols.length≤20
def OJ(ok:W→Prop)(al:Int):Prop:=∀w,AN (AY al) w→w.length≤50000→ok w
def LF(ls:List UInt8)(t:AT)(v:W):Prop:=∃r∈t.rows,∃m:W,(m=[]∨∃l∈ls,m=[l])∧∃x:W,(x=[]∨x∈t.cols)∧v=r++m++x
def Ij(ok:W→Prop)(ls:List UInt8)(t:AT):Prop:=∀v,LF ls t v→ok v
def Du(L:W→Bool)(ls:List UInt8):Nat→AT→List AT
 | 0,t=>[t]
 | n+1,t=>t::match AO L ls t with
  | none=>[]
  | some w=>if t.rows.length=12 then [] else Du L ls n ⟨t.rows++[w],t.cols⟩
theorem BA{L:W→Bool}{ls:List UInt8}{n:Nat}{t:AT}:t∈Du L ls n t:=by cases n<;>simp [Du]
theorem Fp.PG{ok:W→Prop}{al:Int}{b:Nat}{t:AT}(h:Fp al b t)(hf:Ij ok (AY al) t)(hb:b≤20100):Sp ok t∧∀w∈t.rows,∀l∈AY al,∀x∈t.cols,ok (w++[l]++x):=
  ⟨⟨fun w hw x hx=>hf _ ⟨w,hw,[],.inl rfl,x,.inr hx,by simp⟩,fun w hw=>by have:=(h.onR w hw).2;omega,fun x hx=>by have:=(h.onC x hx).2;omega,by have:=h.rl;omega,by have:=h.cl;omega⟩,
   fun w hw l hl x hx=>hf _ ⟨w,hw,[l],.inr ⟨l,hl,rfl⟩,x,.inr hx,rfl⟩⟩
theorem Fp.on{ok:W→Prop}{al:Int}{b:Nat}{t:AT}(h:Fp al b t)(hf:OJ ok al)(hb:b≤20100):Ij ok (AY al) t:=by
 rintro v ⟨r,hr,m,hm,x,hx,rfl⟩
 have h1:=h.onR r hr
 have h2:AN (AY al) m∧m.length≤1:=by
  rcases hm with rfl|⟨l,hl,rfl⟩
  ·exact⟨fun c hc=>by simp at hc,by simp⟩
  ·exact⟨fun c hc=>by simp at hc;subst hc;exact hl,by simp⟩
 have h3:AN (AY al) x∧x.length≤20000:=by
  rcases hx with rfl|hx
  ·exact⟨fun c hc=>by simp at hc,by simp⟩
  ·exact h.onC x hx
 refine hf _ (fun c hc=>?_) (by simp;omega)
 simp only [List.mem_append] at hc
 rcases hc with (hc|hc)|hc
 ·exact h1.1 c hc
 ·exact h2.1 c hc
 ·exact h3.1 c hc
theorem Fp.push{L:W→Bool}{al:Int}{b:Nat}{t:AT}{w:W}(h:Fp al b t)(ho:AO L (AY al) t=some w)(hl:t.rows.length < 12):Fp al (b+1) ⟨t.rows++[w],t.cols⟩:=by
 obtain⟨⟨r,hr,l,hl2,rfl⟩,_⟩:=Ff ho
 refine⟨fun u hu=>?_,h.onC,by simp;omega,h.cl⟩
 rcases List.mem_append.1 hu with hu|hu
 ·have:=h.onR u hu;exact⟨this.1,by omega⟩
 ·simp at hu
  subst hu
  have:=h.onR r hr
  refine⟨fun c hc=>?_,by simp;omega⟩
  rcases List.mem_append.1 hc with hc|hc
  ·exact this.1 c hc
  ·simp at hc;subst hc;exact hl2
theorem Fp.grow{L:W→Bool}{al:Int}:∀ {n b:Nat} {t y:AT},Fp al b t→y∈Du L (AY al) n t→Fp al (b+n) y
 | 0,b,t,y,h,hy=>by simp [Du] at hy;subst hy;exact h
 | n + 1, b,t,y,h,hy=>by
  have hm:∀ {b':Nat} {z:AT},b'≤b+(n+1)→Fp al b' z→Fp al (b+(n+1)) z:=fun hb hz=>⟨fun w hw=>⟨(hz.onR w hw).1,Nat.le_trans (hz.onR w hw).2 hb⟩,hz.onC,hz.rl,hz.cl⟩
  unfold Du at hy
  rcases List.mem_cons.1 hy with rfl|hy
  ·exact hm (by omega) h
  ·cases ho:AO L (AY al) t with
   | none=>rw [ho] at hy;simp at hy
   | some w=>
    rw [ho] at hy
    dsimp only at hy
    split at hy
    ·simp at hy
    ·have:=h.rl
     exact hm (by omega) (Fp.grow (h.push ho (by omega)) hy)
theorem Fp.dJ{L:W→Bool}{ok:W→Prop}{al:Int}{b:Nat}{t:AT}(h:Fp al b t)(hf:OJ ok al)(hb:b≤20000):∀y∈Du L (AY al) 13 t,Ij ok (AY al) y:=fun y hy=>(h.grow hy).on hf (by omega)
theorem LO{c:C}{L:W→Bool}{ok:W→Prop}(hc:FD Tryz.prog TB c L ok)(al:Int)(t:AT)(hf:∀y∈Du L (AY al) 13 t,Ij ok (AY al) y)(ht:Fp al 20000 t) :
 Pure Tryz.prog TB 120 [Ji al c,BV t] (Ex (A3 L (AY al) 13 t)):=by
 have hr:=Cm c hc.AS
 have hrl:=ht.rl
 have hcl:=ht.cl
 have hc1:=Jf (TB:=TB) t.rows (by omega)
 have hc2:=Jf (TB:=TB) t.cols (by omega)
 refine AU.GW (AU.ofM 2 (Nat.le_refl _) Tryz.func120 rfl rfl (by kernel_rfl) (Nat.le_of_ble_eq_true rfl) ?_);intro Γ hΓ
 (repeat first|refine aU rfl ?_)
 (refine pW rfl ?_ rfl (by rfl);refine Dm rfl rfl ?_)
 (refine Af rfl ?_;refine Ci (fun _ _=>C0 rfl rfl rfl) rfl ?_)
 (repeat first|refine tM rfl ?_ |refine aU rfl ?_ |refine Aa ?_)
 refine R.UC [(7,3),(0,2),(1,2),(3,2),(4,2),(2,1),(5,1),(6,0),(8,5)] mixed (by kernel_rfl) rfl (by kernel_rfl) ?_
 (repeat ((refine R.Af rfl ?_;first|(refine R.yQ (md:=false) rfl rfl rfl ?_ ?_;exact tI) |refine R.yP rfl rfl rfl rfl ?_ )))
 (refine R.Af rfl ?_;refine R.Ih (fun _=>?_) rfl rfl;refine Ae [] rfl rfl hc1 ⟨rfl,by simp,by simp⟩ rfl trivial ?_;rintro x0 σ1 nx1 ⟨rfl,rfl,rfl⟩ _)
 (refine R.Af rfl ?_;refine R.Ih (fun _=>?_) rfl rfl;refine Ae [] rfl rfl hc2 ⟨rfl,by simp,by simp⟩ rfl trivial ?_;rintro x0 σ1 nx1 ⟨rfl,rfl,rfl⟩ _)
 (repeat ((refine R.Af rfl ?_;first|refine R.yA rfl rfl rfl rfl ?_|refine R.Ci (fun _ _ _=>Av rfl rfl (by rfl) (by rfl)) rfl rfl ?_ )))
 refine R.Nu ?_
 refine aB ?_
 have hz:∀x:AT,AO L (AY al) x=none∨∃w,AO L (AY al) x=some w:=fun x=>by cases AO L (AY al) x<;>simp
 refine Ai.Bm (α:={p:Nat×AT // p.1≤13∧13≤p.1+p.2.rows.length∧Fp al (20000+p.2.rows.length) p.2∧A3 L (AY al) 13 t=A3 L (AY al) p.1 p.2∧∀y∈Du L (AY al) p.1 p.2,Ij ok (AY al) y}) (fun ⟨⟨m,u⟩,hm,hmu,hu,he,hgr⟩=>[(2,.o (.ptr 0 2 0 0)),(4,.o (.ptr 1 2 0 0)),(6,.o (.ptr 4 2 0 0))]) (fun ⟨⟨m,u⟩,hm,hmu,hu,he,hgr⟩=>[(0,.cells 71 2 [[.d (iD al),c]]),(1,.cells 36 2 [[.d (.l []),.d (.l [])]]),(2,.cells 9 1 (u.rows.map AP)),(3,.cells 9 1 (u.cols.map AP)),(4,.cells 36 2 [[.arr 2 1 0 u.rows.length,.arr 3 1 0 u.cols.length]])]) 5 (fun ⟨⟨m,u⟩,hm,hmu,hu,he,hgr⟩=>m) (⟨(13,t),by simp,by simp,⟨fun w hw=>⟨(ht.onR w hw).1,by have:=(ht.onR w hw).2;omega⟩,ht.onC,ht.rl,ht.cl⟩,rfl,hf⟩) [0,1,2,3,4] (Fq hΓ rfl rfl) (by (simp[cX,zC,hΓ,hr,eC,Ab.A4,CL,HW,B2,Ag])) ?_;rintro⟨⟨m,u⟩,hm,hmu,hu,he,hgr⟩;(try dsimp only)
 dsimp only at hm hmu hu he hgr
 have htk:∀l:List W,((l.map AP).drop 0).take l.length=(l.map BD).map (fun r=>r.map C.d):=fun l=>by rw [List.drop_zero,List.take_of_length_le (by simp)];simp [Function.comp_def]
 have hur:=hu.rl
 have huc:=hu.cl
 have hask:=hu.PG (hgr u BA) (by omega)
 have hfo:=GF (TB:=TB) hc al u hask.1 hask.2
 have hev:YX [(0,.cells 71 2 [[.d (iD al),c]]),(1,.cells 36 2 [[.d (.l []),.d (.l [])]]),(2,.cells 9 1 (u.rows.map AP)),(3,.cells 9 1 (u.cols.map AP)),(4,.cells 36 2 [[.arr 2 1 0 u.rows.length,.arr 3 1 0 u.cols.length]])] [.a [.d (iD al),c],.a [.arr 2 1 0 u.rows.length,.arr 3 1 0 u.cols.length]] [Ji al c,BV u]:=
  .cons (.cons (.pure rfl) (.cons (.pure hc.AS) .nil)) (.cons (.cons (.arr rfl (by simp) (htk _)) (.cons (.arr rfl (by simp) (htk _)) .nil)) .nil)
 refine aB ?_
 rcases hz u with ho|⟨w,ho⟩
 ·rw [ho] at hfo
  (repeat first|refine tM rfl ?_ |refine s2 rfl fun _ _hb=>?_|(refine Af rfl ?_;refine gA rfl ?_;first| refine gQ (HY rfl rfl (hev) (hfo) rfl) rfl ?_) |refine aU rfl ?_ |refine Aa ?_)
  (refine aC rfl ?_ ?_<;>rintro⟨⟩)
  ·(repeat first|refine tM rfl ?_ |refine aU rfl ?_ |refine Aa ?_)
   have hn:A3 L (AY al) 13 t=some u:=by
    rw [he]
    obtain⟨m',rfl⟩:∃m',m=m'+1:=⟨m - 1,by omega⟩
    simp [A3,ho]
   refine Ai.names [1,2,3] [(4,.o (.ptr 0 2 0 0)),(5,eB true)] [(0,.cells 36 2 [[.arr 1 1 0 u.rows.length,.arr 2 1 0 u.cols.length]]),(1,.cells 9 1 (u.rows.map AP)),(2,.cells 9 1 (u.cols.map AP))] (by intro i hi;rw [hΓ] at hi;omega) (by simp) (by simp[cX,zC,hΓ,HW]) (by simp[cX,zC,hΓ,HW,Ab.A4,CL,B2,eC,Ag]) ?_
   refine Ai.Jl [1,2] [(4,.o (.ptr 0 2 0 0)),(5,eB true)] [(0,.cells 36 2 [[.d (AM u.rows),.d (AM u.cols)]])] ⟨⟨_,rfl,.Bb⟩,⟨_,rfl,.Bb⟩,trivial⟩ ⟨⟨_,rfl,by simp,.cons (.full (by simp) rfl (by simp [Function.comp_def]) (by simp)) (.cons (.full (by simp) rfl (by simp [Function.comp_def]) (by simp)) .nil)⟩,trivial⟩ ?_
   refine Ai.freeze [0] [(4,.o (.ip [AM u.rows,AM u.cols])),(5,eB true)] ⟨⟨_,rfl,.o (.ptr (by simp) rfl rfl rfl)⟩,⟨_,rfl,.Bb⟩,trivial⟩ ?_
   refine aR ⟨_,rfl,?_⟩
   rw [hn];rfl
  ·simp at _hb
 ·rw [ho] at hfo
  (repeat first|refine tM rfl ?_ |refine s2 rfl fun _ _hb=>?_|(refine Af rfl ?_;refine gA rfl ?_;first| refine gQ (HY rfl rfl (hev) (hfo) rfl) rfl ?_) |refine aU rfl ?_ |refine Aa ?_)
  (refine aC rfl ?_ ?_<;>rintro⟨⟩)
  ·simp at _hb
  ·refine aK ?_
   (repeat first|refine tM rfl ?_ |refine s2 rfl fun _ _hb=>?_ |refine aU rfl ?_ |refine Aa ?_)
   (refine aC rfl ?_ ?_<;>rintro⟨⟩)
   ·(repeat first|refine tM rfl ?_|(refine Af rfl ?_;refine gA rfl ?_;first| refine gS (fun _ _=>Av rfl rfl (by rfl) (by rfl)) ?_) |refine aU rfl ?_ |refine Aa ?_)
    have hn:A3 L (AY al) 13 t=none:=by
     have h12:u.rows.length=12:=by (simp only[oZ] at *;omega)
     rw [he]
     obtain⟨m',rfl⟩:∃m',m=m'+1:=⟨m - 1,by omega⟩
     simp [A3,ho,h12]
    refine Ai.freeze [1] [(4,.o (.ip [.l [],.l []])),(5,eB false)] ⟨⟨_,rfl,.o (.ptr (by simp) rfl rfl rfl)⟩,⟨_,rfl,.Bb⟩,trivial⟩ ?_
    refine aR ⟨_,rfl,?_⟩
    rw [hn];rfl
   ·refine aK ?_
    have hlt:u.rows.length < 12:=by (simp only[oZ] at *;omega)
    obtain⟨m',rfl⟩:∃m',m=m'+1:=⟨m - 1,by omega⟩
    have hn:A3 L (AY al) 13 t=A3 L (AY al) m' ⟨u.rows++[w],u.cols⟩:=by
     rw [he]
     conv=>lhs;unfold A3
     rw [ho]
     dsimp only
     rw [if_neg (by omega)]
    have hp:=hu.push ho hlt
    (repeat first|refine tA rfl ?_ |refine aU rfl ?_)
    (refine pW rfl ?_ rfl (by rfl);refine Ax rfl rfl rfl (by first| (simp;done)|(simp;(omega))) rfl (by intro r hr;simp at hr;subst hr;rfl) (by rfl) (Nat.le_of_ble_eq_true rfl) (by simp;omega) ?_)
    (repeat first|refine tM rfl ?_ |refine Aa ?_)
    refine⟨⟨⟨m',⟨u.rows++[w],u.cols⟩⟩,by dsimp only;omega,by simp;omega,by simpa [Nat.add_assoc] using hp,hn,fun y hy=>hgr y (by unfold Du;rw [ho];dsimp only;rw [if_neg (by omega)];exact List.mem_cons_of_mem _ hy)⟩,by dsimp only;(omega),[0,1,5,3,4],?_⟩
    simp[cX,zC,hΓ,hr,eC,Ab.A4,CL,HW,B2,Ag]
def BS:AT:=⟨[[]],[[]]⟩
theorem UN(al:Int):Fp al 20000 BS:=by
 refine⟨fun w hw=>?_,fun w hw=>?_,by decide,by decide⟩<;>(simp [BS] at hw;subst hw;exact⟨fun c hc=>by simp at hc,by simp⟩)
def A9(L:W→Bool)(al:Int)(t:AT):BT:=⟨al,t.rows.map fun r=>(Ac al).map fun l=>((De L t (r++[lb l]):Nat):Int),t.rows.map L⟩
theorem Wm{L:W→Bool}{al:Int}{t:AT}(ho:AO L (AY al) t=none){r:W}(hr:r∈t.rows){l:Int}(hl:l∈Ac al) :
 (Ch (Bn L t t.rows.length) (marks L t.cols (r++[lb l]))).getD 0=((De L t (r++[lb l]):Nat):Int):=by
 have hm:marks L t.cols (r++[lb l])∈AA L t:=by
  have:=List.find?_eq_none.1 ho (r++[lb l]) (by
   unfold Cd
   exact List.mem_flatMap.2 ⟨r,hr,List.mem_map.2 ⟨lb l,List.mem_map.2 ⟨l,hl,rfl⟩,rfl⟩⟩)
  simpa using this
 rw [Qs,if_pos hm]
 rfl
end Go.Am
namespace Go.Am
set_option linter.unusedVariables false
theorem Uq(L:W→Bool)(cols:List W)(v w:W):marks L (cols++[v]) w=marks L cols w++[Oe (L (w++v))]:=by simp [marks]
theorem BN.row{L:W→Bool}{ls:List UInt8}{t:AT}(h:BN L ls t){i j:Nat}{r s:W}(hi:t.rows[i]? = some r)(hj:t.rows[j]? = some s)(he:marks L t.cols r=marks L t.cols s):i=j:=by
 have h1:(AA L t)[i]? = some (marks L t.cols r):=by simp [AA,hi]
 have h2:(AA L t)[j]? = some (marks L t.cols r):=by simp [AA,hj,he]
 have l1:=(List.getElem?_eq_some_iff.1 h1).1
 have l2:=(List.getElem?_eq_some_iff.1 h2).1
 have e1:=(List.getElem?_eq_some_iff.1 h1).2
 have e2:=(List.getElem?_eq_some_iff.1 h2).2
 have hp:=List.pairwise_iff_getElem.1 h.nd
 rcases Nat.lt_trichotomy i j with h3|h3|h3
 ·exact absurd (e1.trans e2.symm) (hp i j l1 l2 h3)
 ·exact h3
 ·exact absurd (e2.trans e1.symm) (hp j i l2 l1 h3)
structure Split (L:W→Bool) (ls:List UInt8) (t:AT) (u v:W):Prop where
 suf:∃p,p≠[]∧u=p++v
 new:v∉t.cols
 opens:∃r∈t.rows,∃c∈ls,marks L (t.cols++[v]) (r++[c])∉AA L ⟨t.rows,t.cols++[v]⟩
theorem MT{L:W→Bool}{ls:List UInt8}{t:AT}(h:BN L ls t)(b:Bool):∀(u:W) (i:Nat) (r:W),AN ls u→t.rows[i]? = some r→L (r++u)=b→L (t.rows.getD (runM L t i u) [])≠b→∃v,splitAt L t b i u=some v∧Split L ls t u v
 | [],i,r,_,hi,hb,hn=>by
  have h1:t.rows.getD i []=r:=by simp [hi]
  rw [List.append_nil] at hb
  exact absurd (by show L (t.rows.getD i [])=b;rw [h1];exact hb) hn
 | c :: v,i,r,hu,hi,hb,hn=>by
  have hc:c∈ls:=hu c (by simp)
  have hgd:t.rows.getD i []=r:=by simp [hi]
  obtain⟨r',h1,h2⟩:=h.idx hi hc
  have hgd':t.rows.getD (De L t (r++[c])) []=r':=by simp [h1]
  unfold splitAt
  rw [hgd,hgd']
  by_cases hv:L (r'++v)≠b
  ·rw [if_pos hv]
   have hrc:r++c::v=(r++[c])++v:=by simp
   have hne:L ((r++[c])++v)≠L (r'++v):=by rw [←hrc,hb];exact fun e=>hv e.symm
   refine⟨v,rfl,⟨[c],by simp,rfl⟩,fun hm=>hne ((Qk.1 h2 v hm).symm),r,List.mem_of_getElem? hi,c,hc,fun hm=>?_⟩
   unfold AA at hm
   obtain⟨s,hs,he⟩:=List.mem_map.1 hm
   simp only [Uq] at he
   obtain⟨e1,e2⟩:=List.append_inj' he rfl
   obtain⟨q,hq,hqe⟩:=List.getElem_of_mem hs
   have hsq:t.rows[q]? = some s:=by rw [List.getElem?_eq_getElem hq,hqe]
   have:=h.row hsq h1 (e1.trans h2.symm)
   subst this
   rw [hsq] at h1
   injection h1 with h1
   subst h1
   have e3:Oe (L (s++v))=Oe (L (r++[c]++v)):=by simpa using e2
   exact hne (Te e3).symm
  ·rw [if_neg hv]
   have hv':L (r'++v)=b:=by simpa using hv
   have hn':L (t.rows.getD (runM L t (De L t (r++[c])) v) [])≠b:=by
    have:runM L t i (c::v)=runM L t (De L t (r++[c])) v:=by show runM L t (De L t (t.rows.getD i []++[c])) v=_;rw [hgd]
    rwa [this] at hn
   obtain⟨w,h3,⟨p,hp,h4⟩,h5,h6⟩:=MT h b v _ r' (fun x hx=>hu x (by simp [hx])) h1 hv' hn'
   exact⟨w,h3,⟨c::p,by simp,by rw [h4];rfl⟩,h5,h6⟩
theorem Yh{L:W→Bool}{ls:List UInt8}{t:AT}{r:W}{c:UInt8}(hr:r∈t.rows)(hc:c∈ls)(hm:marks L t.cols (r++[c])∉AA L t):AO L ls t≠none:=fun h=>hm (Em h r hr c hc)
def I0(L:W→Bool)(t:AT)(w:W):Bool:=L (t.rows.getD (runM L t 0 w) [])
def bk(L:W→Bool)(ls:List UInt8)(t:AT)(w:W):Option AT:=(splitAt L t (L w) 0 w).bind fun v=>A3 L ls 13 ⟨t.rows,t.cols++[v]⟩
structure Next (L:W→Bool) (ls:List UInt8) (t:AT) (w v:W) (t':AT):Prop where
 split:splitAt L t (L w) 0 w=some v
 close:A3 L ls 13 ⟨t.rows,t.cols++[v]⟩=some t'
 next:bk L ls t w=some t'
 ok:BN L ls t'
 cols:t'.cols=t.cols++[v]
 new:v∉t.cols
 suf:∃p,p≠[]∧w=p++v
 more:t.rows.length < t'.rows.length
 pre:t.rows <+: t'.rows
structure Wr (L:W→Bool) (ls:List UInt8) (wr:AT→Option W):Prop where
 on:∀t w,wr t=some w→BN L ls t→AN ls w∧I0 L t w≠L w
def Cv(a:BT):Int→W→Int
 | q,[]=>q
 | q,c::w=>Cv a (CW a q.toNat ((c.toNat:Int) - 97)) w
def LA(a:BT)(w:W):Bool:=a.ac.getD (Cv a 0 w).toNat false
theorem JE(a:BT):∀(u w:W) (q:Int),Cv a q (u++w)=Cv a (Cv a q u) w
 | [],_,_=>rfl
 | c::u,w,q=>JE a u w _
theorem OW{l:Int}(h0:0≤l)(h1:l < 6):((lb l).toNat:Int) - 97=l:=by
 unfold lb
 have:(97+l.toNat) % 256=97+l.toNat:=by omega
 simp [this]
 omega
theorem ER{al:Int}{c:UInt8}(h:c∈AY al):0≤(c.toNat:Int) - 97∧(c.toNat:Int) - 97 < 6:=by
 obtain⟨l,hl,rfl⟩:=List.mem_map.1 h
 have h1:=A2 hl
 rw [OW h1.1 (by omega)]
 omega
theorem Ea{a:BT}(ha:A5 a=true){al:Int}:∀(w:W) (q:Int),AN (AY al) w→0≤q∧q < a.nx.length→0≤Cv a q w∧Cv a q w < a.nx.length
 | [],q,_,hq=>hq
 | c::w,q,hw,hq=>by
  have h1:=ER (hw c (by simp))
  have h2:=Ej ha (q:=q.toNat) (by omega) h1.1 h1.2
  exact Ea ha w _ (fun x hx=>hw x (by simp [hx])) h2
def cT{a:BT}(ha:A5 a=true)(al:Int):Fin (LA a) (AY al) a.nx.length where
 st w:=(Cv a 0 w).toNat
 lt w hw:=by
  have h1:=AI ha
  have:=Ea ha w 0 hw (by omega)
  omega
 same u w v hu hw hv h:=by
  have h1:=AI ha
  have h2:=Ea ha u 0 hu (by omega)
  have h3:=Ea ha w 0 hw (by omega)
  have h4:Cv a 0 u=Cv a 0 w:=by omega
  unfold LA
  rw [JE,JE,h4]
theorem Ll{al:Int}{l:Int}(h:l∈Ac al):lb l∈AY al:=List.mem_map.2 ⟨l,h,rfl⟩
theorem Lg{L:W→Bool}{al:Int}{t:AT}(hal:Bo al=true)(h:BN L (AY al) t)(hr:t.rows.length≤12):A5 (A9 L al t)=true:=by
 have h0:0 < t.rows.length:=(List.getElem?_eq_some_iff.1 h.r0).1
 unfold A5
 simp only [Bool.and_eq_true,decide_eq_true_eq,List.all_eq_true]
 refine⟨⟨⟨hal,by simp [A9];omega⟩,by simp [A9]⟩,fun row hrow=>?_⟩
 simp only [A9,List.mem_map] at hrow
 obtain⟨r,hr,rfl⟩:=hrow
 unfold EN
 simp only [Bool.and_eq_true,decide_eq_true_eq,List.all_eq_true]
 refine⟨by simp [A9],fun y hy=>?_⟩
 obtain⟨l,hl,rfl⟩:=List.mem_map.1 hy
 obtain⟨i,hi,he⟩:=List.getElem_of_mem hr
 obtain⟨r',h2,_⟩:=h.idx (i:=i) (r:=r) (by rw [List.getElem?_eq_getElem hi,he]) (Ll hl)
 have h3:=(List.getElem?_eq_some_iff.1 h2).1
 unfold Pk
 simp [A9]
 exact h3
theorem Jm{L:W→Bool}{al:Int}{t:AT}{q:Nat}{c:UInt8}(hq:q < t.rows.length)(hc:c∈AY al):CW (A9 L al t) q ((c.toNat:Int) - 97)=((De L t (t.rows.getD q []++[c]):Nat):Int):=by
 obtain⟨l,hl,rfl⟩:=List.mem_map.1 hc
 have h1:=A2 hl
 rw [OW h1.1 (by omega)]
 obtain⟨k,hk,he⟩:=List.getElem_of_mem hl
 have h2:(AG al 6)[k]? = some l:=by rw [List.getElem?_eq_getElem hk,he]
 have h3:=It h2
 unfold CW
 have h4:Ei (A9 L al t).al l.toNat=true:=h1.2.2
 rw [if_pos h4]
 have h5:(AG (A9 L al t).al l.toNat).length=k:=h3
 rw [h5]
 have h6:(A9 L al t).nx.getD q []=(Ac al).map fun l=>((De L t (t.rows.getD q []++[lb l]):Nat):Int):=by
  simp [A9,List.getD,hq]
 rw [h6]
 simp [List.getD,h2]
theorem Kw{L:W→Bool}{al:Int}{t:AT}(h:BN L (AY al) t):∀(w:W) (q:Nat),AN (AY al) w→q < t.rows.length→Cv (A9 L al t) q w=((runM L t q w:Nat):Int)
 | [],q,_,_=>rfl
 | c::w,q,hw,hq=>by
  have h1:t.rows[q]? = some t.rows[q]:=List.getElem?_eq_getElem hq
  have hc:=hw c (by simp)
  obtain⟨_,h2,_⟩:=h.idx h1 hc
  have h3:t.rows.getD q []=t.rows[q]:=by simp [h1]
  have h4:=(List.getElem?_eq_some_iff.1 h2).1
  show Cv (A9 L al t) (CW (A9 L al t) ((q:Int)).toNat ((c.toNat:Int) - 97)) w=_
  rw [Int.toNat_natCast,Jm hq hc]
  rw [←h3] at h4
  exact Kw h w _ (fun x hx=>hw x (by simp [hx])) h4
theorem OI{L:W→Bool}{al:Int}{t:AT}(h:BN L (AY al) t){w:W}(hw:AN (AY al) w):LA (A9 L al t) w=I0 L t w:=by
 have h0:0 < t.rows.length:=(List.getElem?_eq_some_iff.1 h.r0).1
 have h1:=h.run w 0 hw h0
 unfold LA I0
 have h2:=Kw h w 0 hw h0
 rw [show ((0:Nat):Int)=0 from rfl] at h2
 rw [h2,Int.toNat_natCast]
 simp [A9,List.getD,h1]
end Go.Am
namespace Go.Am
open Go
set_option linter.unusedVariables false
def UW(a b:BT)(s0:Int)(op:Bool→Bool→Bool):Gr:=
 ⟨a.nx.length*b.nx.length,fun x l=>[CW a (x / b.nx.length).toNat l*b.nx.length+CW b (x % b.nx.length).toNat l],fun x=>op (a.ac.getD (x / b.nx.length).toNat false) (b.ac.getD (x % b.nx.length).toNat false),Ac a.al,s0⟩
def DM(a b:BT)(kd:Int):Net:=⟨[],[a,b],[0,0],a.al,kd,0⟩
theorem LY{a b:BT}(hb:A5 b=true){x:Int}(hx:0≤x∧x < (UW a b 0 bne).N):0≤x / b.nx.length∧x / b.nx.length < a.nx.length∧0≤x % b.nx.length∧x % b.nx.length < b.nx.length:=by
 have h1:=AI hb
 have h2:x < ((a.nx.length*b.nx.length:Nat):Int):=hx.2
 rw [Int.natCast_mul] at h2
 exact⟨Int.ediv_nonneg hx.1 (by omega),Int.ediv_lt_of_lt_mul (by omega) h2,Int.emod_nonneg _ (by omega),Int.emod_lt_of_pos _ (by omega)⟩
theorem Zm{a b:BT}(ha:A5 a=true)(hb:A5 b=true){s0:Int}{op:Bool→Bool→Bool}(hs:0≤s0∧s0 < a.nx.length*b.nx.length):Lw (UW a b s0 op):=by
 refine⟨⟨hs.1,by show s0 < ((a.nx.length*b.nx.length:Nat):Int);rw [Int.natCast_mul];exact hs.2⟩,fun x hx l hl y hy=>?_,DW _ _⟩
 have hl:=A2 (show l∈AG a.al 6 from hl)
 have h1:=LY hb hx
 have h2:=Ej ha (q:=(x / b.nx.length).toNat) (by omega) hl.1 (by omega)
 have h3:=Ej hb (q:=(x % b.nx.length).toNat) (by omega) hl.1 (by omega)
 have hy:y=CW a (x / b.nx.length).toNat l*b.nx.length+CW b (x % b.nx.length).toNat l:=by simpa [UW] using hy
 subst hy
 generalize CW a (x / b.nx.length).toNat l=u at *
 generalize CW b (x % b.nx.length).toNat l=v at *
 show 0≤u*(b.nx.length:Int)+v∧u*(b.nx.length:Int)+v < ((a.nx.length*b.nx.length:Nat):Int)
 rw [Int.natCast_mul]
 have h4:0≤u*(b.nx.length:Int):=Int.mul_nonneg h2.1 (by omega)
 have h5:(u+1)*(b.nx.length:Int)≤a.nx.length*b.nx.length:=Int.mul_le_mul_of_nonneg_right (by omega) (by omega)
 rw [Int.add_mul] at h5
 omega
theorem Tj{a b:BT}{kd:Int}(ha:A5 a=true)(hb:A5 b=true):Ee (DM a b kd)∧YY (DM a b kd)∧Fits (Aj (DM a b kd)) (DM a b kd).st:=by
 have h1:=AI ha
 have h2:=AI hb
 refine⟨⟨fun s hs=>(by cases hs),fun x hx=>?_,by simp [DM],by simp [DM]⟩,⟨fun _=>by simp [DM],fun _=>by simp [DM]⟩,?_⟩
 ·simp [DM] at hx;rcases hx with rfl|rfl<;>assumption
 ·refine NZ (zs:=Aj (DM a b kd)) fun z hz=>?_
  simp [Aj,DM] at hz
  rcases hz with rfl|rfl<;>omega
theorem Wz{a b:BT}{kd:Int}{op:Bool→Bool→Bool}(ha:A5 a=true)(hb:A5 b=true)(ho:∀x y,op x y=if kd=1 then x != y else (x && !y))(hk:kd=1∨kd=2):Lz (UW a b 0 op)=Lz (FP (DM a b kd)):=by
 obtain⟨hn,_,hst⟩:=Tj (kd:=kd) ha hb
 have han:=AI ha
 have hbn:=AI hb
 have hg:=VU hn hst
 refine Vt (Ed.congr hg ?_ ?_ (fun x hx l hl=>?_) (fun x hx=>?_) (I8 _))
 ·rfl
 ·exact NV (Aj (DM a b kd)) 2
 ·have hl:=A2 (show l∈AG a.al 6 from hl)
  show Fc (DM a b kd) (Aj (DM a b kd)) (BU (Aj (DM a b kd)) x) l=_
  have e:=O3 (l:=[]) (aus:=[a,b]) (st:=[0,0]) (ls:=a.al) (kd:=kd) (gl:=0) hn (node:=x) hl.1 (by omega)
  refine Eq.trans e ?_
  have hxN:x / b.nx.length % a.nx.length=x / b.nx.length:=by
   have h2:(FP (DM a b kd)).N=a.nx.length*b.nx.length:=by
    show (AL (Aj (DM a b kd))).toNat=_
    simp only [Aj,DM,List.map_nil,List.nil_append,List.map_cons,AL,Int.mul_one]
    rw [←Int.natCast_mul,Int.toNat_natCast]
   rw [h2] at hx
   have:=LY (a:=a) hb (x:=x) hx
   exact Int.emod_eq_of_lt this.1 this.2.1
  simp only [List.map_cons,List.map_nil,AL,Int.mul_one,BU,Z2,List.zipWith_nil_left,List.zipWith_cons_cons,Ki,List.flatMap_cons,List.flatMap_nil,List.append_nil,Int.ediv_one,Int.add_zero,Int.zero_mul,Int.zero_add,hxN,UW]
 ·show CA (DM a b kd) (BU (Aj (DM a b kd)) x) (EE (DM a b kd) x.toNat)=_
  have hxN:x / b.nx.length % a.nx.length=x / b.nx.length:=by
   have h2:(FP (DM a b kd)).N=a.nx.length*b.nx.length:=by
    show (AL (Aj (DM a b kd))).toNat=_
    simp only [Aj,DM,List.map_nil,List.nil_append,List.map_cons,AL,Int.mul_one]
    rw [←Int.natCast_mul,Int.toNat_natCast]
   rw [h2] at hx
   have:=LY (a:=a) hb (x:=x) hx
   exact Int.emod_eq_of_lt this.1 this.2.1
  show _=op (a.ac.getD (x / b.nx.length).toNat false) (b.ac.getD (x % b.nx.length).toNat false)
  rw [ho]
  unfold CA XC
  rcases hk with rfl|rfl
  ·simp [DM,Aj,BU,AL,List.getD,hxN]
  ·simp [DM,Aj,BU,AL,List.getD,hxN]
def HF(a b:BT):Bool:=A5 a && A5 b && decide (a.al=b.al)
noncomputable def OQ(a b:BT):Option (List Int):=if HF a b then Lz (FP (DM a b 1)) else none
theorem H0{g:Gr}:∀ {u v:List Int} {a x:Int},reach g (u++v) a x↔∃y,reach g u a y∧reach g v y x
 | [],v,a,x=>⟨fun h=>⟨a,rfl,h⟩,fun ⟨y,h1,h2⟩=>by cases h1;exact h2⟩
 | l :: u,v,a,x=>by
  simp only [List.cons_append,reach]
  constructor
  ·rintro⟨y,hy,h⟩
   obtain⟨z,h1,h2⟩:=H0.1 h
   exact⟨z,⟨y,hy,h1⟩,h2⟩
  ·rintro⟨z,⟨y,hy,h1⟩,h2⟩
   exact⟨y,hy,H0.2 ⟨z,h1,h2⟩⟩
theorem ZI(n:Nat)(f:Nat→Int)(h:∀i,i≤n→0≤f i∧f i < n):∃i j,i < j∧j≤n∧f i=f j:=by
 apply Classical.byContradiction
 intro hno
 have h1:((List.range (n+1)).map fun i=>(f i).toNat).Nodup:=by
  unfold List.Nodup
  rw [List.pairwise_map]
  refine List.pairwise_lt_range.imp_of_mem fun {a b} ha hb hab he=>hno ⟨a,b,hab,?_,?_⟩
  ·have:=List.mem_range.1 hb;omega
  ·have h2:=h a (by have:=List.mem_range.1 ha;omega)
   have h3:=h b (by have:=List.mem_range.1 hb;omega)
   omega
 have h2:=Ms n _ h1 fun x hx=>by
  obtain⟨i,hi,rfl⟩:=List.mem_map.1 hx
  have:=h i (by have:=List.mem_range.1 hi;omega)
  omega
 simp at h2
 omega
theorem Ed.short{g:Gr}(hg:Lw g){w:List Int}(h:Ed g (some w)):w.length < g.N:=by
 obtain⟨h1,⟨x,hx,hgx⟩,h3⟩:=h
 apply Classical.byContradiction
 intro hlen
 have hsp:∀k,∃y,reach g (w.take k) g.s0 y∧reach g (w.drop k) y x:=fun k=>H0.1 (by rw [List.take_append_drop];exact hx)
 obtain⟨f,hf⟩:=Classical.axiomOfChoice hsp
 obtain⟨i,j,hij,hj,he⟩:=ZI g.N f fun i _=>Fg hg (fun l hl=>h1 l (List.mem_of_mem_take hl)) hg.s0 (hf i).1
 refine h3 (w.take i++w.drop j) (fun l hl=>?_) ⟨x,H0.2 ⟨f i,(hf i).1,he ▸ (hf j).2⟩,hgx⟩ (.inl ?_)
 ·rcases List.mem_append.1 hl with hl|hl
  ·exact h1 l (List.mem_of_mem_take hl)
  ·exact h1 l (List.mem_of_mem_drop hl)
 ·simp;omega
theorem ZY{al:Int}:∀ {w:List Int},(∀l∈w,l∈Ac al)→AN (AY al) (JO w):=fun {w} h c hc=>by
 obtain⟨l,hl,rfl⟩:=List.mem_map.1 hc
 exact Ll (h l hl)
theorem QD{a b:BT}(ha:A5 a=true)(hb:A5 b=true){op:Bool→Bool→Bool}{s0:Int}:∀ {w:List Int} {i j x:Int},(∀l∈w,l∈Ac a.al)→(0≤i∧i < a.nx.length)→(0≤j∧j < b.nx.length)→
 (reach (UW a b s0 op) w (i*b.nx.length+j) x↔x=Cv a i (JO w)*b.nx.length+Cv b j (JO w))
 | [],i,j,x,_,_,_=>⟨fun h=>h.symm,fun h=>h.symm⟩
 | l :: w,i,j,x,hw,hi,hj=>by
  have hl:=A2 (hw l (by simp))
  have h1:(i*b.nx.length+j) / b.nx.length=i:=by
   rw [Int.add_comm,Int.add_mul_ediv_right _ _ (by omega),Int.ediv_eq_zero_of_lt hj.1 hj.2,Int.zero_add]
  have h2:(i*b.nx.length+j) % b.nx.length=j:=by
   rw [Int.add_comm,Int.add_mul_emod_self_right,Int.emod_eq_of_lt hj.1 hj.2]
  have h3:=Ej ha (q:=i.toNat) (by omega) hl.1 (by omega)
  have h4:=Ej hb (q:=j.toNat) (by omega) hl.1 (by omega)
  have ih:=QD ha hb (op:=op) (s0:=s0) (w:=w) (x:=x) (fun m hm=>hw m (by simp [hm])) h3 h4
  have e:∀(c:BT) (q:Int),Cv c q (JO (l::w))=Cv c (CW c q.toNat l) (JO w):=fun c q=>by
   show Cv c (CW c q.toNat (((lb l).toNat:Int) - 97)) (JO w)=_
   rw [OW hl.1 (by omega)]
  rw [e,e,←ih]
  simp only [reach,UW,h1,h2,List.mem_singleton,exists_eq_left]
theorem T3{a b:BT}{w:List Int}(h:OQ a b=some w):HF a b=true∧AN (AY a.al) (JO w)∧LA a (JO w)≠LA b (JO w)∧(JO w).length≤144:=by
 unfold OQ at h
 by_cases hv:HF a b=true
 ·rw [if_pos hv] at h
  refine⟨hv,?_⟩
  unfold HF at hv
  simp only [Bool.and_eq_true,decide_eq_true_eq] at hv
  obtain⟨⟨ha,hb⟩,hal⟩:=hv
  have han:=AI ha
  have hbn:=AI hb
  rw [←Wz (op:=bne) ha hb (fun x y=>by simp) (.inl rfl)] at h
  have hg:=Zm (op:=bne) (s0:=0) ha hb ⟨by omega,by rw [←Int.natCast_mul];have:=Nat.mul_pos (show 0 < a.nx.length by omega) (show 0 < b.nx.length by omega);omega⟩
  have hi:=I8 (UW a b 0 bne)
  rw [h] at hi
  have hs:=hi.short hg
  obtain⟨h1,⟨x,hx,hgx⟩,h3⟩:=hi
  have hon:=ZY (al:=a.al) h1
  refine⟨hon,fun he=>?_,?_⟩
  ·have h4:=(QD ha hb (op:=bne) (s0:=0) (i:=0) (j:=0) (x:=x) h1 ⟨by omega,by omega⟩ ⟨by omega,by omega⟩).1 (by simpa [UW] using hx)
   have hra:=Ea ha (JO w) 0 hon (by omega)
   have hrb:=Ea hb (JO w) 0 (al:=a.al) hon (by omega)
   have h5:x / b.nx.length=Cv a 0 (JO w):=by
    rw [h4,Int.add_comm,Int.add_mul_ediv_right _ _ (by omega),Int.ediv_eq_zero_of_lt hrb.1 hrb.2,Int.zero_add]
   have h6:x % b.nx.length=Cv b 0 (JO w):=by
    rw [h4,Int.add_comm,Int.add_mul_emod_self_right,Int.emod_eq_of_lt hrb.1 hrb.2]
   have h7:(UW a b 0 bne).goal x=(LA a (JO w) != LA b (JO w)):=by simp only [UW,h5,h6,LA]
   rw [h7,he] at hgx
   simp at hgx
  ·have h8:a.nx.length*b.nx.length≤12*12:=Nat.mul_le_mul (by omega) (by omega)
   have h9:(UW a b 0 bne).N=a.nx.length*b.nx.length:=rfl
   have h10:(JO w).length=w.length:=by simp [JO]
   omega
 ·rw [if_neg hv] at h;cases h
theorem KB(L:W→Bool)(ls:List UInt8):TOk L ls BS:=by
 refine⟨rfl,rfl,fun i w hi h0=>?_,fun w hw=>?_,fun w hw=>?_,by simp [AA,BS],by simp [BS]⟩
 ·have:=(List.getElem?_eq_some_iff.1 hi).1
  simp [BS] at this;omega
 ·simp [BS] at hw;subst hw;exact fun c hc=>(by cases hc)
 ·simp [BS] at hw;subst hw;exact fun c hc=>(by cases hc)
open Classical in
theorem TOk.short{L:W→Bool}{ls:List UInt8}{t:AT}(h:TOk L ls t):∀(i:Nat) w,t.rows[i]? = some w→w.length≤i:=by
 intro i
 induction i using Nat.strongRecOn with
 | _ i ih=>
  intro w hw
  rcases Nat.eq_zero_or_pos i with h0|h0
  ·subst h0
   rw [h.r0] at hw
   injection hw with hw
   subst hw;simp
  ·obtain⟨h1,j,hj,h2⟩:=h.pre i w hw h0
   have:=ih j hj _ h2
   simp at this
   omega
def aX:Option TypeDesc→Bool
 | some (.func ..)=>true
 | _=>false
class dy (P:Program) (t:TypeId):Prop where
 out:aX (P.underlying t)=true
section
variable {P:Program}{TB:Bh}{Γ:Ctx}{d:Option Tmp}{ty:TypeId}{pos:String}{af:Array Edge}{g:Option (Nat×Bool)}{f:Env}{σ:Ab}{nx:Nat}
end
def Mg(L:List (Nat×E)):List Nat→Option (List (Nat×E))
 | []=>some []
 | k::r=>match look L k,Mg L r with
  | some e,some l=>some ((k,e)::l)
  | _,_=>none
def SV(σ:Ab):List Nat→Option Ab
 | []=>some []
 | k::r=>match look σ k,SV σ r with
  | some e,some l=>some ((k,e)::l)
  | _,_=>none
section
variable {P:Program}{TB:Bh}{Γ:Ctx}{N:Nat}
theorem Ai.bf{c:Code}{Q:Exit→Env→Ab→Nat→Prop}{L0 Lk:List (Nat×E)}{σ Sk:Ab}{nx:Nat}{α:Type}(ks is:List Nat)(hk:Mg L0 ks=some Lk)(hi:SV σ is=some Sk)(v:α→List (Nat×E))(s:α→Ab)(n:Nat)(μ:α→Nat)
 (x:α) (l0:List Nat) (hl0:(∀i,i < Γ.V.nx→l0[i]? = some i)∧l0.Nodup∧l0.length=n) (h0:Dn (nm l0 nx) (look L0) (v x++Lk)∧A0 (nm l0 nx) σ (s x++Sk))
 (round:∀x,Ai P TB Γ N c (JL (fun f σ nx=>∃y,μ y < μ x∧∃l:List Nat,(∀i,i < Γ.V.nx→l[i]? = some i)∧l.Nodup∧l.length=n∧Dn (nm l nx) f (v y++Lk)∧A0 (nm l nx) σ (s y++Sk)) Q) (look (v x++Lk)) (s x++Sk) n) :
 Ai P TB Γ N (.loop c) Q (look L0) σ nx:=Ai.Bm (fun x=>v x++Lk) (fun x=>s x++Sk) n μ x l0 hl0 h0 round
theorem aL{c:Code}{Q:Exit→Env→Ab→Nat→Prop}{L0 Lk:List (Nat×E)}{σ Sk:Ab}{nx:Nat}{α:Type}(ks is:List Nat)(hk:Mg L0 ks=some Lk)(hi:SV σ is=some Sk)(v:α→List (Nat×E))(s:α→Ab)(n:Nat)(μ:α→Nat)
 (x:α) {m:Nat} (hΓ:Γ.V.nx=m) (hn:Nat.ble m n=true) (h0:Dn (nm (List.range n) nx) (look L0) (v x++Lk)∧A0 (nm (List.range n) nx) σ (s x++Sk))
 (round:∀x,Ai P TB Γ N c (JL (fun f σ nx=>∃y,μ y < μ x∧∃l:List Nat,(∀i,i < Γ.V.nx→l[i]? = some i)∧l.Nodup∧l.length=n∧Dn (nm l nx) f (v y++Lk)∧A0 (nm l nx) σ (s y++Sk)) Q) (look (v x++Lk)) (s x++Sk) n) :
 Ai P TB Γ N (.loop c) Q (look L0) σ nx:=Ai.bf ks is hk hi v s n μ x (List.range n) (rg hΓ hn) h0 round
end
end Go.Am
