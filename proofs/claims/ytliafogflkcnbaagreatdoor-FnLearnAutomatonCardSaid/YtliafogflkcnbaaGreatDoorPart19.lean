/-
  Valid and closed tables, plainly; two teachers that agree where they are asked.
-/
import Derived.Test.YtliafogflkcnbaaGreatDoorPart18
import Derived.Test.YtliafogflkcnbaaGreatDoorPart17
import Derived.Test.YtliafogflkcnbaaGreatDoorPart16
import Derived.Test.YtliafogflkcnbaaGreatDoorPart15
import Derived.Test.YtliafogflkcnbaaGreatDoorPart14
import Derived.Test.YtliafogflkcnbaaGreatDoorPart13
import Derived.Test.YtliafogflkcnbaaGreatDoorPart9
set_option linter.constructorNameAsVariable false
set_option linter.unusedSectionVars false
set_option linter.unusedSimpArgs false
set_option linter.unusedVariables false
namespace Go.Am
open Go
set_option linter.unusedVariables false
theorem OQ{f:Nat→Bool}{n k:Nat}(h:En f n=true)(h0:0 < k)(hk:k < n):f k=true:=by
 unfold En at h
 have:=(List.all_eq_true.1 h) k (List.mem_range.2 hk)
 simp at this
 rcases this with h|h
 ·omega
 ·exact h
theorem OR{f:Nat→Bool}{n:Nat}(h:∀k,0 < k→k < n→f k=true):En f n=true:=by
 unfold En
 refine List.all_eq_true.2 fun k hk=>?_
 have hk:=List.mem_range.1 hk
 rcases Nat.eq_zero_or_pos k with h0|h0
 ·subst h0;rfl
 ·simp [h k h0 hk]
structure ZY (al:Int) (t:A2):Prop where
 pos:0≤al
 r1:1≤t.rows.length
 rl:t.rows.length≤12
 c1:1≤t.cols.length
 cl:t.cols.length≤20
 r0:t.rows[0]? = some []
 c0:t.cols[0]? = some []
 rw:∀w∈t.rows,w.length≤50000∧Al (AP al) w
 cw:∀w∈t.cols,w.length≤4000∧Al (AP al) w
 pre:∀(i:Nat) w,t.rows[i]? = some w→0 < i→w≠[]∧∃j,j < i∧t.rows[j]? = some w.dropLast
 ndC:t.cols.Nodup
theorem JX{α:Type}{l:List α}{k:Nat}{x:α}(h:x∈l.take k):∃j,j < k∧l[j]? = some x:=by
 obtain⟨j,hj,he⟩:=List.getElem_of_mem h
 have h1:j < k:=by simp at hj;omega
 refine⟨j,h1,?_⟩
 rw [←he,List.getElem_take,List.getElem?_eq_getElem]
theorem JL{α:Type}{l:List α}{j k:Nat}{x:α}(h:l[j]? = some x)(hj:j < k):x∈l.take k:=by
 have:(l.take k)[j]? = some x:=by rw [List.getElem?_take,if_pos hj];exact h
 exact List.mem_of_getElem? this
theorem RC{w:W}{al:Int}(h:within w al=true):w.length≤50000:=by
 unfold within at h
 simp only [Bool.and_eq_true,decide_eq_true_eq] at h
 exact h.1
theorem WD{al:Int}{t:A2}(h:Ex al t=true):ZY al t:=by
 unfold Ex Jy at h
 simp only [Bool.and_eq_true,decide_eq_true_eq] at h
 obtain⟨⟨h1,h2,h3,h4,h5⟩,h6,h7⟩:=h
 have hrow:∀(i:Nat) w,t.rows[i]? = some w→0 < i→w≠[]∧within w al=true∧w.dropLast∈t.rows.take i:=fun i w hi h0=>by
  have:=OQ h6 h0 (List.getElem?_eq_some_iff.1 hi).1
  unfold rowAt at this
  rw [hi] at this
  simp only [Bool.and_eq_true,decide_eq_true_eq,Bool.not_eq_true',decide_eq_false_iff_not] at this
  exact⟨fun e=>this.1 (by rw [e];rfl),this.2.1,this.2.2⟩
 have hcol:∀(i:Nat) w,t.cols[i]? = some w→0 < i→w.length≤4000∧within w al=true∧w∉t.cols.take i:=fun i w hi h0=>by
  have:=OQ h7 h0 (List.getElem?_eq_some_iff.1 hi).1
  unfold KR at this
  rw [hi] at this
  simp only [Bool.and_eq_true,decide_eq_true_eq,Bool.not_eq_true',decide_eq_false_iff_not] at this
  exact this
 refine⟨h1,h2.1,h2.2,h3.1,h3.2,h4,h5,fun w hw=>?_,fun w hw=>?_,fun i w hi h0=>?_,?_⟩
 ·obtain⟨i,hi,he⟩:=List.getElem_of_mem hw
  have hi':t.rows[i]? = some w:=by rw [List.getElem?_eq_getElem hi,he]
  rcases Nat.eq_zero_or_pos i with h0|h0
  ·subst h0
   rw [h4] at hi';injection hi' with hi';subst hi'
   exact⟨by simp,fun c hc=>by cases hc⟩
  ·have:=hrow i w hi' h0
   exact⟨RC this.2.1,Ez this.2.1⟩
 ·obtain⟨i,hi,he⟩:=List.getElem_of_mem hw
  have hi':t.cols[i]? = some w:=by rw [List.getElem?_eq_getElem hi,he]
  rcases Nat.eq_zero_or_pos i with h0|h0
  ·subst h0
   rw [h5] at hi';injection hi' with hi';subst hi'
   exact⟨by simp,fun c hc=>by cases hc⟩
  ·have:=hcol i w hi' h0
   exact⟨this.1,Ez this.2.1⟩
 ·have:=hrow i w hi h0
  exact⟨this.1,JX this.2.2⟩
 ·unfold List.Nodup
  rw [List.pairwise_iff_getElem]
  intro i j hi hj hij he
  have:=hcol j t.cols[j] (List.getElem?_eq_getElem hj) (by omega)
  exact this.2.2 (JL (by rw [List.getElem?_eq_getElem hi,he]) hij)
theorem Ua{al:Int}{t:A2}(ha:BW al=true)(h0:0≤al)(hr:1≤t.rows.length∧t.rows.length≤12)(hc:1≤t.cols.length∧t.cols.length≤20)(r0:t.rows[0]? = some [])(c0:t.cols[0]? = some [])
 (rw':∀w∈t.rows,w.length≤50000∧Al (AP al) w) (cw:∀w∈t.cols,w.length≤4000∧Al (AP al) w) (pre:∀(i:Nat) w,t.rows[i]? = some w→0 < i→w≠[]∧∃j,j < i∧t.rows[j]? = some w.dropLast) (ndC:t.cols.Nodup):Ex al t=true:=by
 unfold Ex Jy
 simp only [Bool.and_eq_true,decide_eq_true_eq]
 refine⟨⟨h0,hr,hc,r0,c0⟩,OR fun k hk hkn=>?_,OR fun k hk hkn=>?_⟩
 ·have hx:=List.getElem?_eq_getElem hkn
  obtain⟨h1,j,hj,h2⟩:=pre k _ hx hk
  have h3:=rw' _ (List.getElem_mem hkn)
  unfold rowAt
  rw [hx]
  simp only [Bool.and_eq_true,decide_eq_true_eq,Bool.not_eq_true',decide_eq_false_iff_not]
  exact⟨fun e=>h1 (List.length_eq_zero_iff.1 e),FM h3.2 h3.1 ha,JL h2 hj⟩
 ·have hx:=List.getElem?_eq_getElem hkn
  have h3:=cw _ (List.getElem_mem hkn)
  unfold KR
  rw [hx]
  simp only [Bool.and_eq_true,decide_eq_true_eq,Bool.not_eq_true',decide_eq_false_iff_not]
  refine⟨h3.1,FM h3.2 (by omega) ha,fun hm=>?_⟩
  obtain⟨j,hj,he⟩:=JX hm
  obtain⟨hj2,he⟩:=List.getElem?_eq_some_iff.1 he
  exact(List.pairwise_iff_getElem.1 ndC) j k hj2 hkn hj he
theorem Dl{A:W→Bool}{al:Int}{t:A2}(h:BE A al t=true):ZY al t∧(AH A t).Nodup:=by
 unfold BE at h
 rw [Bool.and_eq_true,decide_eq_true_eq] at h
 exact⟨WD h.1,h.2⟩
theorem Rz{A:W→Bool}{al:Int}{t:A2}(h:BE A al t=true):TOk A (AP al) t:=by
 obtain⟨h1,h2⟩:=Dl h
 exact⟨h1.r0,h1.c0,h1.pre,fun w hw=>(h1.rw w hw).2,fun w hw=>(h1.cw w hw).2,h2,h1.ndC⟩
theorem JC{A:W→Bool}{al:Int}{t:A2}(ha:BW al=true)(h0:0≤al)(h:TOk A (AP al) t)(hr:t.rows.length≤12)(hc:t.cols.length≤20)(hrw:∀w∈t.rows,w.length≤50000)(hcw:∀w∈t.cols,w.length≤4000):BE A al t=true:=by
 unfold BE
 rw [Bool.and_eq_true,decide_eq_true_eq]
 have h1:=(List.getElem?_eq_some_iff.1 h.r0).1
 have h2:=(List.getElem?_eq_some_iff.1 h.c0).1
 exact⟨Ua ha h0 ⟨h1,hr⟩ ⟨h2,hc⟩ h.r0 h.c0 (fun w hw=>⟨hrw w hw,h.onR w hw⟩) (fun w hw=>⟨hcw w hw,h.onC w hw⟩) h.pre h.ndC,h.nd⟩
theorem Fe{A:W→Bool}{al:Int}{t:A2}(h:Cb A al t=true):BE A al t=true∧A5 A (AP al) t=none∧A3 A (AP al) t:=by
 unfold Cb at h
 rw [Bool.and_eq_true] at h
 have h2:A5 A (AP al) t=none:=by simpa using h.2
 exact⟨h.1,h2,⟨Rz h.1,FT h2⟩⟩
theorem Qh{A:W→Bool}{al:Int}{t:A2}(h:BE A al t=true)(ho:A5 A (AP al) t=none):Cb A al t=true:=by
 unfold Cb;rw [h,ho];rfl
theorem ZY.sz{al:Int}{t:A2}(h:ZY al t):RI t:=⟨by have:=h.rl;omega,by have:=h.cl;omega,fun w hw=>by have:=(h.rw w hw).1;omega,fun w hw=>by have:=(h.cw w hw).1;omega⟩
def Tb(A L:W→Bool)(al:Int):Prop:=∀w,Al (AP al) w→w.length≤50000→A w=L w
theorem QN{ls:List UInt8}{u w:W}(hu:Al ls u)(hw:Al ls w):Al ls (u++w):=fun c hc=>by
 rcases List.mem_append.1 hc with h|h
 ·exact hu c h
 ·exact hw c h
theorem MZ{A L:W→Bool}{al:Int}(h:Tb A L al){cols:List W}{w:W}(hw:Al (AP al) w)(hc:∀x∈cols,Al (AP al) x∧w.length+x.length≤50000):marks A cols w=marks L cols w:=by
 rw [marks,marks,List.map_inj_left]
 intro x hx
 rw [h _ (QN hw (hc x hx).1) (by simp;exact(hc x hx).2)]
theorem He{A L:W→Bool}{al:Int}{b:Nat}{t:A2}(h:Tb A L al)(ht:ER al b t)(hb:b≤20100):AH A t=AH L t:=by
 rw [AH,AH,List.map_inj_left]
 intro r hr
 have:=ht.onR r hr
 exact MZ h this.1 fun x hx=>⟨(ht.onC x hx).1,by have:=(ht.onC x hx).2;omega⟩
theorem Ll{A L:W→Bool}{al:Int}{b:Nat}{t:A2}(h:Tb A L al)(ht:ER al b t)(hb:b≤20100){r:W}{l:UInt8}(hr:r∈t.rows)(hl:l∈AP al):marks A t.cols (r++[l])=marks L t.cols (r++[l]):=by
 have:=ht.onR r hr
 refine MZ h (QN this.1 (fun c hc=>by simp at hc;subst hc;exact hl)) fun x hx=>⟨(ht.onC x hx).1,by have:=(ht.onC x hx).2;simp;omega⟩
theorem ON{α:Type}{p q:α→Bool}:∀ {l:List α},(∀x∈l,p x=q x)→l.find? p=l.find? q
 | [],_=>rfl
 | x::l,h=>by
  rw [List.find?_cons,List.find?_cons,h x (by simp),ON (l:=l) fun y hy=>h y (by simp [hy])]
theorem TN{A L:W→Bool}{al:Int}{b:Nat}{t:A2}(h:Tb A L al)(ht:ER al b t)(hb:b≤20100):A5 A (AP al) t=A5 L (AP al) t:=by
 unfold A5
 refine ON fun w hw=>?_
 unfold BK at hw
 simp only [List.mem_flatMap,List.mem_map] at hw
 obtain⟨r,hr,l,hl,rfl⟩:=hw
 rw [He h ht hb,Ll h ht hb hr hl]
theorem HD{A L:W→Bool}{al:Int}(h:Tb A L al):∀(n:Nat) {b:Nat} {t:A2},ER al b t→b+n≤20100→A9 A (AP al) n t=A9 L (AP al) n t
 | 0,_,_,_,_=>rfl
 | n + 1,b,t,ht,hb=>by
  unfold A9
  rw [TN h ht (by omega)]
  cases ho:A5 L (AP al) t with
  | none=>rfl
  | some w=>
   dsimp only
   by_cases h12:t.rows.length=12
   ·rw [if_pos h12,if_pos h12]
   ·rw [if_neg h12,if_neg h12]
    have hrl:=ht.rl
    exact HD h n (ht.push ho (by omega)) (by omega)
theorem OW{A L:W→Bool}{al:Int}{b:Nat}{t:A2}(h:Tb A L al)(ht:ER al b t)(hb:b≤20100){r:W}{l:UInt8}(hr:r∈t.rows)(hl:l∈AP al):Cv A t (r++[l])=Cv L t (r++[l]):=by
 unfold Cv
 rw [He h ht hb,Ll h ht hb hr hl]
theorem OE{A L:W→Bool}{al:Int}{b:Nat}{t:A2}(h:Tb A L al)(ht:ER al b t)(hb:b≤20100):AK A al t=AK L al t:=by
 unfold AK
 congr 1
 ·refine List.map_inj_left.2 fun r hr=>List.map_inj_left.2 fun l hl=>?_
  rw [OW h ht hb hr (Kw hl)]
 ·refine List.map_inj_left.2 fun r hr=>?_
  have:=ht.onR r hr
  rw [h r this.1 (by omega)]
theorem TOk.aF{A L:W→Bool}{al:Int}{b:Nat}{t:A2}(h:Tb A L al)(ht:ER al b t)(hb:b≤20100)(hk:TOk L (AP al) t):TOk A (AP al) t:=⟨hk.r0,hk.c0,hk.pre,hk.onR,hk.onC,by rw [He h ht hb];exact hk.nd,hk.ndC⟩
theorem A3.aF{A L:W→Bool}{al:Int}{b:Nat}{t:A2}(h:Tb A L al)(ht:ER al b t)(hb:b≤20100)(hk:A3 L (AP al) t):A3 A (AP al) t:=⟨hk.toTOk.aF h ht hb,fun r hr l hl=>by
 rw [Ll h ht hb hr hl,He h ht hb];exact hk.cl r hr l hl⟩
theorem WA{A:W→Bool}{al:Int}{t:A2}(h:A3 A (AP al) t){q:Nat}(hq:q < t.rows.length):t.rows.getD q []∈t.rows:=by
 rw [List.getD,List.getElem?_eq_getElem hq];exact List.getElem_mem hq
theorem J7{A L:W→Bool}{al:Int}{b0:Nat}{t:A2}(h:Tb A L al)(ht:ER al b0 t)(hb:b0≤20100)(hk:A3 L (AP al) t)(b:Bool):∀(w:W) (q:Nat),q < t.rows.length→Al (AP al) w→w.length≤20000→splitAt A t b q w=splitAt L t b q w
 | [],_,_,_,_=>rfl
 | c :: w,q,hq,hw,hl=>by
  have hr:=WA hk hq
  have hc:=hw c (by simp)
  have he:=OW h ht hb hr hc
  obtain⟨r',h2,_⟩:=hk.idx (i:=q) (List.getElem?_eq_getElem hq) hc
  have hg:t.rows.getD q []=t.rows[q]:=by rw [List.getD,List.getElem?_eq_getElem hq];rfl
  rw [←hg] at h2
  have hq2:=(List.getElem?_eq_some_iff.1 h2).1
  have hr2:=WA hk hq2
  have hww:Al (AP al) w:=fun x hx=>hw x (by simp [hx])
  simp at hl
  have hA:A (t.rows.getD (Cv L t (t.rows.getD q []++[c])) []++w)=L (t.rows.getD (Cv L t (t.rows.getD q []++[c])) []++w):=
   h _ (QN (ht.onR _ hr2).1 hww) (by have:=(ht.onR _ hr2).2;simp only [List.length_append];omega)
  unfold splitAt
  rw [he,hA]
  split
  ·rfl
  ·exact J7 h ht hb hk b w _ hq2 hww (by omega)
end Go.Am
namespace Go.Am
open Go Go.Proofs
set_option maxHeartbeats 1000000
attribute [local irreducible] AY B2 Lex Bq Ak Spec
variable {TB:Bu}
theorem OH{A:W→Bool}{ls:List UInt8}{m:Nat}{u:A2}{w:W}{R:Option A2}(he:R=A9 A ls (m+1) u)(ho:A5 A ls u=some w)(hl:u.rows.length < 12):R=A9 A ls m ⟨u.rows++[w],u.cols⟩:=by
 rw [he]
 conv=>lhs;unfold A9
 rw [ho]
 dsimp only
 rw [if_neg (by omega)]
theorem Gt{t:NA}{al:Int}{A:W→Bool}(hT:Hx Tryz.prog TB 89 81 t al A)(tab:A2)(hz:RI tab) :
 Pure Tryz.prog TB 29 [Dn t,CY tab] (Ge (if BE A al tab then A9 A (AP al) 13 tab else none)):=by
 have h1:=DC hT tab hz
 by_cases hv:BE A al tab=true
 ·rw [if_pos hv]
  rw [hv] at h1
  have hsh:ZY al tab:=(Dl hv).1
  have hr1:=hsh.r1
  have hc1:=hsh.c1
  have hrl:=hsh.rl
  have hcl:=hsh.cl
  refine eG Tryz.func29 rfl (by kernel_rfl) rfl ?_;intro Γ hΓ
  (repeat first|refine tA rfl ?_ |refine s2 rfl fun _ _hb=>?_ |refine sP rfl (h1) rfl ?_ |refine aU rfl ?_ |refine Aa ?_)
  ((refine aC rfl ?_ ?_<;>rintro⟨⟩);all_goals try (simp at _hb;done))
  refine aK ?_
  (repeat first|refine aU rfl ?_)
  refine R.XV [(0,2),(1,2),(2,2),(4,2),(5,2),(6,2),(9,3),(3,1),(7,1),(8,2),(10,5)] mixed (by kernel_rfl) rfl (by kernel_rfl) ?_
  (repeat ((refine R.Ag rfl ?_;first|(refine R.yQ (md:=false) rfl rfl rfl ?_ ?_;exact tI) |refine R.yP rfl rfl rfl rfl ?_|refine R.CK (fun _ _ _=>N6 (by rfl) (by rfl)) rfl rfl ?_ )))
  (refine R.Ag rfl ?_;refine R.Mw (fun _=>?_) rfl rfl;refine Ea rfl rfl rfl (by intro r hr;simp at hr;obtain⟨_,_,rfl⟩:=hr;rfl) (by rfl) (Nat.le_of_ble_eq_true rfl) (by simp;omega) (fun h=>?_) (fun _=>?_))
  ·exfalso;simp at h;rw [h] at hr1;simp at hr1
  (refine R.Ag rfl ?_;refine R.Mw (fun _=>?_) rfl rfl;refine Ea rfl rfl rfl (by intro r hr;simp at hr;obtain⟨_,_,rfl⟩:=hr;rfl) (by rfl) (Nat.le_of_ble_eq_true rfl) (by simp;omega) (fun h=>?_) (fun _=>?_))
  ·exfalso;simp at h;rw [h] at hc1;simp at hc1
  (repeat ((refine R.Ag rfl ?_;first|refine R.yA rfl rfl rfl rfl ?_|refine R.CK (fun _ _ _=>AI rfl rfl (by rfl) (by rfl)) rfl rfl ?_ )))
  refine R.XC ?_
  refine aS ?_
  refine Ak.AU [2] [] rfl rfl [(4,.o (.ptr 0 2 0 0)),(6,.o (.ptr 3 2 0 0))] [(0,.cells 38 2 [[.d (.l []),.d (.l [])]]),(1,.cells 9 1 (tab.rows.map CW)),(2,.cells 9 1 (tab.cols.map CW)),(3,.cells 38 2 [[.arr 1 1 0 tab.rows.length,.arr 2 1 0 tab.cols.length]])] [0,1,2,3] (rl hΓ rfl) (by (simp[cX,zC,hΓ])) ?_;(try dsimp only[cA,cB])
  have hfo0:=HI hT tab hz
  have htk:∀l:List W,((l.map CW).drop 0).take l.length=(l.map Cm).map (fun r=>r.map C.d):=fun l=>by rw [List.drop_zero,List.take_of_length_le (by simp)];simp [Function.comp_def]
  have hev:∀u:A2,YD [(0,.cells 38 2 [[.d (.l []),.d (.l [])]]),(1,.cells 9 1 (u.rows.map CW)),(2,.cells 9 1 (u.cols.map CW)),(3,.cells 38 2 [[.arr 1 1 0 u.rows.length,.arr 2 1 0 u.cols.length]])] [Dn t,.a [.arr 1 1 0 u.rows.length,.arr 2 1 0 u.cols.length]] [Dn t,CY u]:=fun u=>
   .cons (.cons (.pure rfl) (.cons (.pure rfl) (.cons (.pure rfl) (.cons (.pure rfl) (.cons (.pure rfl) (.cons (.pure rfl) (.cons (.pure rfl) (.cons (.pure rfl) (.cons (.pure rfl) (.cons (.pure rfl) (.cons (.pure rfl) .nil))))))))))) (.cons (.cons (.arr rfl (by simp) (htk _)) (.cons (.arr rfl (by simp) (htk _)) .nil)) .nil)
  have hop:∀x:A2,Tj (A5 A (AP al) x)=.t [(false,[.d (tD ((A5 A (AP al) x).getD []))]),(false,[.d (bD (A5 A (AP al) x).isSome)])]:=fun x=>by cases A5 A (AP al) x<;>rfl
  rw [hop] at hfo0
  (repeat first|refine tA rfl ?_|(refine Ag rfl ?_;refine gA rfl ?_;first| refine gQ (FV rfl rfl ((hev tab)) (hfo0) rfl) rfl ?_) |refine aU rfl ?_ |refine Aa ?_)
  obtain⟨R,hR⟩:∃R,R=A9 A (AP al) 13 tab:=⟨_,rfl⟩
  rw [←hR]
  refine aB ?_
  refine aL (α:={p:Nat×A2 // p.1≤13∧13≤p.1+p.2.rows.length∧p.2.rows.length≤12∧p.2.cols.length≤20∧(∀w∈p.2.rows,w.length≤50000+p.2.rows.length)∧(∀w∈p.2.cols,w.length≤4000)∧R=A9 A (AP al) p.1 p.2}) [2,4,6] [0] rfl rfl (fun ⟨⟨m,u⟩,hm,hmu,hur,huc,hurb,hucb,he⟩=>[(7,eT ((A5 A (AP al) u).getD [])),(8,eB (A5 A (AP al) u).isSome)]) (fun ⟨⟨m,u⟩,hm,hmu,hur,huc,hurb,hucb,he⟩=>[(1,.cells 9 1 (u.rows.map CW)),(2,.cells 9 1 (u.cols.map CW)),(3,.cells 38 2 [[.arr 1 1 0 u.rows.length,.arr 2 1 0 u.cols.length]])]) 4 (fun ⟨⟨m,u⟩,hm,hmu,hur,huc,hurb,hucb,he⟩=>m) (⟨(13,tab),by simp,by simp,hrl,hcl,fun w hw=>by have:=(hsh.rw w hw).1;show w.length≤50000+tab.rows.length;omega,fun w hw=>(hsh.cw w hw).1,hR⟩) hΓ rfl (by (simp[cX,zC,hΓ])) ?_;rintro⟨⟨m,u⟩,hm,hmu,hur,huc,hurb,hucb,he⟩;(try dsimp only[cA,cB])
  dsimp only at hm hmu hur huc hurb hucb he
  have hz0:A5 A (AP al) u=none∨∃w,A5 A (AP al) u=some w:=by cases A5 A (AP al) u<;>simp
  rcases hz0 with ho|⟨w,ho⟩
  ·rw [ho]
   have hn:R=some u:=by
    rw [he]
    obtain⟨m',rfl⟩:∃m',m=m'+1:=⟨m - 1,by omega⟩
    simp [A9,ho]
   (repeat first|refine tA rfl ?_ |refine aU rfl ?_ |refine Aa ?_)
   ((refine aC rfl ?_ ?_<;>rintro⟨⟩);all_goals try (simp at _hb;done))
   refine aE ?_
   (repeat first|refine tA rfl ?_ |refine aU rfl ?_ |refine Aa ?_)
   refine Ak.settle [(4,.o (.ip [A7 u.rows,A7 u.cols])),(5,eB true)] ⟨⟨_,rfl,.o (.box rfl (.cons (.full rfl (by simp [Function.comp_def]) (by simp)) (.cons (.full rfl (by simp [Function.comp_def]) (by simp)) .nil)))⟩,⟨_,rfl,.o .d⟩,trivial⟩ ?_
   refine aR ⟨_,rfl,?_⟩
   rw [hn];rfl
  ·rw [ho]
   obtain⟨m',rfl⟩:∃m',m=m'+1:=⟨m - 1,by omega⟩
   obtain⟨⟨r,hr,l,hl,hw⟩,_⟩:=HO ho
   have hwl:w.length≤50000+(u.rows++[w]).length:=by
    have:=hurb r hr
    rw [hw];simp;omega
   (repeat first|refine tA rfl ?_ |refine aU rfl ?_ |refine Aa ?_)
   ((refine aC rfl ?_ ?_<;>rintro⟨⟩);all_goals try (simp at _hb;done))
   refine aK ?_
   refine aB ?_
   (repeat first|refine tA rfl ?_ |refine s2 rfl fun _ _hb=>?_ |refine aU rfl ?_ |refine Aa ?_)
   (refine aC rfl ?_ ?_<;>rintro⟨⟩)
   ·have h12:u.rows.length=12:=by (simp only[oZ] at *;omega)
    have hn:R=none:=by
     rw [he]
     simp [A9,ho,h12]
    (repeat first|refine tA rfl ?_|(refine Ag rfl ?_;refine gA rfl ?_;first| refine gS (fun _ _=>AI rfl rfl (by rfl) (by rfl)) ?_) |refine aU rfl ?_ |refine Aa ?_)
    refine Ak.settle [(4,.o (.ip [.l [],.l []])),(5,eB false)] ⟨⟨_,rfl,.o (.box rfl (.cons .d (.cons .d .nil)))⟩,⟨_,rfl,.o .d⟩,trivial⟩ ?_
    refine aR ⟨_,rfl,?_⟩
    rw [hn];rfl
   ·have hlt:u.rows.length < 12:=by (simp only[oZ] at *;omega)
    have hst:=OH he ho hlt
    have hzu:RI ⟨u.rows++[w],u.cols⟩:=⟨by simp;omega,by dsimp only;omega,fun x hx=>by
     rcases List.mem_append.1 hx with hx|hx
     ·have:=hurb x hx;omega
     ·simp at hx;subst hx;simp at hwl;omega,fun x hx=>by have:=hucb x hx;omega⟩
    have hfo:=HI hT ⟨u.rows++[w],u.cols⟩ hzu
    rw [hop] at hfo
    refine aK ?_
    (repeat first|refine tA rfl ?_ |refine aU rfl ?_)
    (refine pW rfl ?_ rfl (by rfl);refine Aw rfl rfl rfl (by first| (simp;done)|(simp;(omega))) rfl (by intro r hr;simp at hr;subst hr;rfl) (by rfl) (Nat.le_of_ble_eq_true rfl) (by simp;omega) ?_)
    (repeat first|refine tA rfl ?_)
    refine Aa ?_
    have hn1:∀x∈u.rows++[w],x.length≤50000+(u.rows++[w]).length:=fun x hx=>by
     rcases List.mem_append.1 hx with hx|hx
     ·have:=hurb x hx;simp;omega
     ·simp at hx;subst hx;exact hwl
    refine Ak.AU [2,4,6] [] rfl rfl [] [(0,.cells 38 2 [[.d (.l []),.d (.l [])]]),(1,.cells 9 1 ((u.rows++[w]).map CW)),(2,.cells 9 1 (u.cols.map CW)),(3,.cells 38 2 [[.arr 1 1 0 (u.rows++[w]).length,.arr 2 1 0 u.cols.length]])] [0,4,2,3] (rl hΓ rfl) (by (simp[cX,zC,hΓ])) ?_;(try dsimp only[cA,cB])
    (repeat first|refine tA rfl ?_|(refine Ag rfl ?_;refine gA rfl ?_;first| refine gQ (FV rfl rfl ((hev ⟨u.rows++[w],u.cols⟩)) (hfo) rfl) rfl ?_) |refine aU rfl ?_ |refine Aa ?_)
    refine⟨⟨⟨m',⟨u.rows++[w],u.cols⟩⟩,by dsimp only;omega,by simp;omega,by simp;omega,huc,hn1,hucb,hst⟩,by dsimp only;(omega),[0,1,2,3],?_⟩
    simp[cX,zC,hΓ]
 ·have hv:BE A al tab=false:=by simpa using hv
  rw [if_neg (by simp [hv])]
  rw [hv] at h1
  refine eG Tryz.func29 rfl (by kernel_rfl) rfl ?_;intro Γ hΓ
  (repeat first|refine tA rfl ?_ |refine s2 rfl fun _ _hb=>?_ |refine sP rfl (h1) rfl ?_ |refine aU rfl ?_ |refine Aa ?_)
  ((refine aC rfl ?_ ?_<;>rintro⟨⟩);all_goals try (simp at _hb;done))
  (repeat first|refine tA rfl ?_|(refine Ag rfl ?_;refine gA rfl ?_;first| refine gS (fun _ _=>AI rfl rfl (by rfl) (by rfl)) ?_) |refine aU rfl ?_ |refine Aa ?_)
  refine Ak.settle [(4,.o (.ip [.l [],.l []])),(5,eB false)] ⟨⟨_,rfl,.o (.box rfl (.cons .d (.cons .d .nil)))⟩,⟨_,rfl,.o .d⟩,trivial⟩ ?_
  refine aR ⟨_,rfl,rfl⟩
def KX(o:Option AN):E:=match o with
 | some p=>.t [(true,[.d (iD p.al),.d (Cf p.nx),.d (EK p.ac)]),(false,[.d (bD true)])]
 | none=>.t [(true,[.d (iD 0),.d (.l []),.d (.l [])]),(false,[.d (bD false)])]
theorem Dk{t:NA}{al:Int}{A:W→Bool}(hT:Hx Tryz.prog TB 89 81 t al A)(tab:A2)(hz:RI tab) :
 Pure Tryz.prog TB 31 [Dn t,CY tab] (KX (if Cb A al tab then some (AK A al tab) else none)):=by
 have h1:=LW hT tab hz
 by_cases hv:Cb A al tab=true
 ·rw [if_pos hv]
  rw [hv] at h1
  obtain⟨hv1,ho,hcl⟩:=Fe hv
  have hsh:=(Dl hv1).1
  have hr1:=hsh.r1
  have hrl:=hsh.rl
  have hcl:=hsh.cl
  have h2:=hT.alph
  have h3:=Cg (TB:=TB) al
  have h4:Pure Tryz.prog TB 91 [Dn t,Bf tab.cols,Bf tab.rows] (Bf (AH A tab)):=HJ hT tab.cols tab.rows hz.cl (fun w hw=>by have:=hz.rb w hw;omega) hz.cb hz.rl
  have hla:(Ac al).length≤6:=AM al 6
  have hml:(AH A tab).length=tab.rows.length:=by simp [AH]
  refine eG Tryz.func31 rfl (by kernel_rfl) rfl ?_;intro Γ hΓ
  (repeat first|refine tA rfl ?_ |refine s2 rfl fun _ _hb=>?_ |refine sP rfl (h1) rfl ?_ |refine aU rfl ?_ |refine Aa ?_)
  ((refine aC rfl ?_ ?_<;>rintro⟨⟩);all_goals try (simp at _hb;done))
  refine aK ?_
  (repeat first|refine tX rfl ?_ |refine sP rfl (h2) rfl ?_ |refine aU rfl ?_)
  (refine pW rfl ?_ rfl (by rfl);refine Fk 1 1 75 2 1 4 rfl rfl (by decide) rfl rfl (by rfl) (by rfl) ?_)
  (repeat first|refine tX rfl ?_ |refine sP rfl (h3) rfl ?_|refine sP rfl (h4) rfl ?_ |refine aU rfl ?_ |refine Aa ?_)
  refine aB ?_
  refine aL (α:={k:Nat // k≤tab.rows.length}) [2,3,4,6,7,8] [0] rfl rfl (fun ⟨k,hk⟩=>[(9,eI .i64 k)]) (fun ⟨k,hk⟩=>[(1,.cells 75 1 (((AK A al tab).nx.take k).map fun r=>[.d (CO r)])),(2,.cells 4 1 (((AK A al tab).ac.take k).map fun b=>[.d (bD b)])),(3,.cells 41 3 [[.d (iD al),.arr 1 1 0 k,.arr 2 1 0 k]])]) 4 (fun ⟨k,hk⟩=>tab.rows.length - k) (⟨0,by omega⟩) hΓ rfl (by (simp[cX,zC,hΓ])) ?_;rintro⟨k,hk⟩;(try dsimp only[cA,cB])
  have hnl:(AK A al tab).nx.length=tab.rows.length:=by simp [AK]
  have hac:(AK A al tab).ac.length=tab.rows.length:=by simp [AK]
  by_cases hlt:k < tab.rows.length
  ·obtain⟨r,hx⟩:=get_some hlt
   have hx':=get_map (g:=Cm) hx
   have hxm:=List.mem_of_getElem? hx
   have hrb:=hz.rb r hxm
   have hm:(AH A tab)[k]? = some (marks A tab.cols r):=by simp [AH,hx]
   have hm':=get_map (g:=Cm) hm
   have hm0:(marks A tab.cols r)[(0:Int).toNat]? = some (Ou (A r)):=by
    have:=hsh.c0
    simp [marks,this]
   (repeat first|refine sN rfl ?_ |refine tX rfl ?_ |refine s2 rfl fun _ _hb=>?_ |refine aU rfl ?_ |refine Aa ?_)
   refine Ak.cond rfl (fun hb=>?_) (fun hb=>?_)<;>cases hb
   rotate_left
   ·exfalso;(simp only[oZ] at *;omega)
   refine aK ?_
   refine aS (aB ?_)
   (repeat first|refine aU rfl ?_)
   (refine pW rfl ?_ rfl (by rfl);refine A1 rfl rfl rfl rfl (by simp) (by rfl) (by rfl) (by rfl) (by rfl) ?_)
   (repeat first|refine tX rfl ?_ |refine aU rfl ?_ |refine Aa ?_)
   refine aB ?_
   refine aL (α:={j:Nat // j≤(Ac al).length}) [2,3,4,6,7,8,9] [0,1,2,3] rfl rfl (fun ⟨j,hj⟩=>[(10,.o (.arr 4 1 0 j)),(11,eI .i64 j)]) (fun ⟨j,hj⟩=>[(4,.cells 3 1 (((Ac al).take j).map fun l=>[.d (iD ((Cv A tab (r++[lb l]):Nat):Int))]))]) 5 (fun ⟨j,hj⟩=>(Ac al).length - j) (⟨0,by omega⟩) hΓ rfl (by (simp[cX,zC,hΓ])) ?_;rintro⟨j,hj⟩;(try dsimp only[cA,cB])
   by_cases hjlt:j < (Ac al).length
   ·obtain⟨l,hl⟩:=get_some hjlt
    have hl':=get_map (g:=Bk) hl
    have hlm:=List.mem_of_getElem? hl
    have hlb:=Au hlm
    have htx:Pure Tryz.prog TB 94 [eI .i64 l] (eT [lb l]):=Ha l hlb.1 (by omega)
    have hrow:=Jm hT tab.cols (r++[lb l]) hz.cl (by simp;omega) hz.cb
    have hmm:marks A tab.cols (r++[lb l])∈AH A tab:=FT ho r hxm (lb l) (Kw hlm)
    have hix:Pure Tryz.prog TB 92 [Bf (AH A tab),eT (marks A tab.cols (r++[lb l]))] (eI .i64 (Cv A tab (r++[lb l]):Nat)):=O2 (AH A tab) _ hmm (by omega)
    (repeat first|refine sN rfl ?_ |refine tX rfl ?_ |refine s2 rfl fun _ _hb=>?_ |refine aU rfl ?_ |refine Aa ?_)
    refine Ak.cond rfl (fun hb=>?_) (fun hb=>?_)<;>cases hb
    rotate_left
    ·exfalso;(simp only[oZ] at *;omega)
    refine aK ?_
    refine aS (aB ?_)
    refine rG (HW [19]) (by kernel_rfl) ?_
    (repeat first|(refine sA rfl ?_ ?_;first|exact tI|simp only[oZ] at *;omega) |(refine s4 rfl ‹_› rfl ?_ ?_;omega) |refine sP rfl (htx) rfl ?_|refine sP rfl (hrow) rfl ?_|refine sP rfl (hix) rfl ?_)
    (refine pW rfl ?_ rfl (by rfl);refine Aw rfl rfl rfl (by first| (simp;done)|(simp;(omega))) rfl (by intro r hr;simp at hr;subst hr;rfl) (by rfl) (Nat.le_of_ble_eq_true rfl) (by simp;omega) ?_)
    (repeat first|(refine sA rfl ?_ ?_;first|exact tI|omega) |refine aU rfl ?_ |refine Aa ?_)
    refine⟨⟨j+1,by omega⟩,by dsimp only;(omega),[0,1,2,3,5],?_⟩
    (simp[cX,zC,hΓ,List.take_add_one,hl])
   ·obtain rfl:j=(Ac al).length:=by omega
    have hnx:(AK A al tab).nx.take (k+1)=(AK A al tab).nx.take k++[(Ac al).map fun l=>((Cv A tab (r++[lb l]):Nat):Int)]:=by
     rw [List.take_add_one];simp [AK,hx]
    have hacs:(AK A al tab).ac.take (k+1)=(AK A al tab).ac.take k++[A r]:=by
     rw [List.take_add_one];simp [AK,hx]
    rw [List.take_length]
    (repeat first|refine sN rfl ?_ |refine tX rfl ?_ |refine s2 rfl fun _ _hb=>?_ |refine aU rfl ?_ |refine Aa ?_)
    refine Ak.cond rfl (fun hb=>?_) (fun hb=>?_)<;>cases hb
    ·exfalso;(simp only[oZ] at *;omega)
    refine aE ?_
    refine Ak.DW [4] [2,3,4,6,7,8,9] rfl [(10,Ai ((Ac al).map fun l=>((Cv A tab (r++[lb l]):Nat):Int)))] ⟨⟨_,rfl,.o (.full (by simp) rfl (by simp [Function.comp_def]) (by simp))⟩,trivial⟩ ?_;(try dsimp only[cA,cB])
    (repeat first|refine tA rfl ?_ |refine aU rfl ?_)
    (refine pW rfl ?_ rfl (by rfl);refine Aw rfl rfl rfl (by first| (simp;done)|(simp;(omega))) rfl (by intro r hr;simp at hr;subst hr;rfl) (by rfl) (Nat.le_of_ble_eq_true rfl) (by simp;omega) ?_)
    (repeat first|refine tA rfl ?_ |refine Aa ?_)
    refine rG (HW [9,11]) (by kernel_rfl) ?_
    (repeat first|refine tA rfl ?_ |(refine s4 rfl ‹_› rfl ?_ ?_;omega) |refine s2 rfl fun _ _hb=>?_)
    rename_i b
    have hbb:b=A r:=by
     cases hA:A r<;>cases b<;>simp [hA,Ou] at _hb<;>rfl
    subst hbb
    (refine pW rfl ?_ rfl (by rfl);refine Aw rfl rfl rfl (by first| (simp;done)|(simp;(omega))) rfl (by intro r hr;simp at hr;subst hr;rfl) (by rfl) (Nat.le_of_ble_eq_true rfl) (by simp;omega) ?_)
    (repeat first|(refine sA rfl ?_ ?_;first|exact tI|omega) |refine aU rfl ?_ |refine Aa ?_)
    refine⟨⟨k+1,by omega⟩,by dsimp only;(omega),[0,5,6,3],?_⟩
    (simp[cX,zC,hΓ,hnx,hacs])
  ·obtain rfl:k=tab.rows.length:=by omega
   have ht1:(AK A al tab).nx.take tab.rows.length=(AK A al tab).nx:=List.take_of_length_le (by simp [AK])
   have ht2:(AK A al tab).ac.take tab.rows.length=(AK A al tab).ac:=List.take_of_length_le (by simp [AK])
   rw [ht1,ht2]
   (repeat first|refine sN rfl ?_ |refine tX rfl ?_ |refine s2 rfl fun _ _hb=>?_ |refine aU rfl ?_ |refine Aa ?_)
   refine Ak.cond rfl (fun hb=>?_) (fun hb=>?_)<;>cases hb
   ·exfalso;(simp only[oZ] at *;omega)
   refine aE ?_
   (repeat first|refine tX rfl ?_ |refine aU rfl ?_ |refine Aa ?_)
   refine Ak.settle [(4,.o (.ip [iD al,Cf (AK A al tab).nx,EK (AK A al tab).ac])),(5,eB true)] ⟨⟨_,rfl,.o (.box rfl (.cons .d (.cons (.full rfl (by simp [Function.comp_def]) (by simp [AK])) (.cons (.full rfl (by simp [Function.comp_def]) (by simp [AK])) .nil))))⟩,⟨_,rfl,.o .d⟩,trivial⟩ ?_
   refine aR ⟨_,rfl,rfl⟩
 ·have hv:Cb A al tab=false:=by simpa using hv
  rw [if_neg (by simp [hv])]
  rw [hv] at h1
  refine eG Tryz.func31 rfl (by kernel_rfl) rfl ?_;intro Γ hΓ
  (repeat first|refine tA rfl ?_ |refine s2 rfl fun _ _hb=>?_ |refine sP rfl (h1) rfl ?_ |refine aU rfl ?_ |refine Aa ?_)
  ((refine aC rfl ?_ ?_<;>rintro⟨⟩);all_goals try (simp at _hb;done))
  (repeat first|refine tA rfl ?_|(refine Ag rfl ?_;refine gA rfl ?_;first| refine gS (fun _ _=>AI rfl rfl (by rfl) (by rfl)) ?_) |refine aU rfl ?_ |refine Aa ?_)
  refine Ak.settle [(4,.o (.ip [iD 0,.l [],.l []])),(5,eB false)] ⟨⟨_,rfl,.o (.box rfl (.cons .d (.cons .d (.cons .d .nil))))⟩,⟨_,rfl,.o .d⟩,trivial⟩ ?_
  refine aR ⟨_,rfl,rfl⟩
theorem JY{a:AN}(h:Fx a):Pure Tryz.prog TB 120 [AT a] (AT (Dv a)):=by
 have hb:=h.b.1
 have hn1:=h.n1
 have hac:=h.ac
 have e1:=NF (TB:=TB) h
 have hlc:=UG h
 have hclN:∀q:Nat,q < a.nx.length→(NG a)[q]? = some (E4 a q):=fun q hq=>by
  obtain⟨x,hx⟩:=get_some (l:=NG a) (k:=q) (by omega)
  rw [hx]
  unfold E4
  rw [Int.toNat_natCast,List.getD_eq_getElem?_getD,hx];rfl
 have e2:Pure Tryz.prog TB 128 [AT (BM a a.nx.length)] (AT (Dv a)):=SV (ZH h).1
 refine eG Tryz.func120 rfl (by kernel_rfl) rfl ?_;intro Γ hΓ
 (repeat first |refine sN rfl ?_ |((first|refine sA rfl ?_ ?_|refine s4 rfl ‹_› rfl ?_ ?_);first|exact tI|omega|simp only[oZ] at *;omega) |refine s2 rfl fun _ _hb=>?_ |refine sP rfl (e1) rfl ?_ |refine s3 rfl ?_ ?_<;>rintro rfl |refine aU rfl ?_ |refine Aa ?_)
 (refine pW rfl ?_ rfl (by rfl);refine Fk 1 1 75 2 1 4 rfl rfl (by decide) rfl rfl (by rfl) (by rfl) ?_)
 (repeat first |refine sN rfl ?_ |((first|refine sA rfl ?_ ?_|refine s4 rfl ‹_› rfl ?_ ?_);first|exact tI|omega|simp only[oZ] at *;omega) |refine s2 rfl fun _ _hb=>?_ |refine s3 rfl ?_ ?_<;>rintro rfl |refine aU rfl ?_ |refine Aa ?_)
 refine aB ?_
 refine aL (α:={k:Nat // k≤a.nx.length}) [1,2,3,4,15,16] [0] rfl rfl (fun s=>[(17,eI .i64 s.1)]) (fun s=>[(1,.cells 75 1 ((BM a s.1).nx.map fun r=>[.d (CO r)])),(2,.cells 4 1 ((BM a s.1).ac.map AQ)),(3,.cells 41 3 [[.d (iD a.al),.arr 1 1 0 (BM a s.1).nx.length,.arr 2 1 0 (BM a s.1).nx.length]])]) 4 (fun s=>a.nx.length - s.1) (⟨0,by omega⟩) hΓ rfl (by ((repeat' first|exact tI|rfl|refine And.intro ?_ ?_)<;>(simp[cX,zC,hΓ,eC,BX,Aj,BM,Bd]<;>rfl))) ?_;rintro⟨k,hk⟩;(try dsimp only[cA,cB])
 by_cases hlt:k < a.nx.length
 ·have hc:=hclN k hlt
  have hc':=get_map (g:=Bk) hc
  have hql:=TW a k
  obtain⟨r,hr⟩:=get_some hlt
  have hr':=get_map (g:=C1) hr
  have hrD:a.nx.getD k []=r:=DY hr
  obtain⟨bb,hbb⟩:=get_some (l:=a.ac) (k:=k) (by omega)
  have hbb':=get_map (g:=Fb) hbb
  have hbD:a.ac.getD k false=bb:=DY hbb
  have hrl:r.length≤6:=by
   obtain⟨row,h1,h2,_⟩:=h.b.2 k hlt
   rw [hr] at h1;injection h1 with h1;subst h1
   have:(Ac a.al).length≤6:=AM _ 6
   omega
  have hri:∀x∈r,0≤x∧x < (a.nx.length:Int):=fun x hx=>by
   obtain⟨row,h1,h2,h3⟩:=h.b.2 k hlt
   rw [hr] at h1;injection h1 with h1;subst h1
   obtain⟨j,hj⟩:=List.mem_iff_getElem?.1 hx
   exact h3 j x hj
  have hqa:=Px a k
  (repeat first |refine sN rfl ?_ |((first|refine sA rfl ?_ ?_|refine s4 rfl ‹_› rfl ?_ ?_);first|exact tI|omega|simp only[oZ] at *;omega) |refine s2 rfl fun _ _hb=>?_ |refine s3 rfl ?_ ?_<;>rintro rfl |refine aU rfl ?_ |refine Aa ?_)
  ((refine aC rfl ?_ ?_<;>rintro⟨⟩);all_goals try(exfalso;first|omega|simp only[oZ] at *;omega))
  refine aK ?_
  refine aS (aB ?_)
  rcases QS h hlt with ⟨hl,e⟩|⟨hl,e⟩
  ·(repeat first |refine sN rfl ?_ |((first|refine sA rfl ?_ ?_|refine s4 rfl ‹_› rfl ?_ ?_);first|exact tI|omega|simp only[oZ] at *;omega) |refine s2 rfl fun _ _hb=>?_ |refine s3 rfl ?_ ?_<;>rintro rfl |refine aU rfl ?_ |refine Aa ?_)
   ((refine aC rfl ?_ ?_<;>rintro⟨⟩);all_goals try(exfalso;first|omega|simp only[oZ] at *;omega))
   refine aE ?_
   (repeat first |refine sN rfl ?_ |((first|refine sA rfl ?_ ?_|refine s4 rfl ‹_› rfl ?_ ?_);first|exact tI|omega|simp only[oZ] at *;omega) |refine s2 rfl fun _ _hb=>?_ |refine s3 rfl ?_ ?_<;>rintro rfl |refine aU rfl ?_ |refine Aa ?_)
   refine⟨⟨k+1,by first|omega|simp only[oZ] at *;omega⟩,by dsimp only;(first|omega|simp only[oZ] at *;omega),[0,1,2,3],?_⟩
   simp[cX,zC,hΓ,e]
  ·rw [hrD,hbD] at e
   (repeat first |refine sN rfl ?_ |((first|refine sA rfl ?_ ?_|refine s4 rfl ‹_› rfl ?_ ?_);first|exact tI|omega|simp only[oZ] at *;omega) |refine s2 rfl fun _ _hb=>?_ |refine s3 rfl ?_ ?_<;>rintro rfl |refine aU rfl ?_ |refine Aa ?_)
   ((refine aC rfl ?_ ?_<;>rintro⟨⟩);all_goals try(exfalso;first|omega|simp only[oZ] at *;omega))
   refine aK ?_
   (repeat first |refine sN rfl ?_ |((first|refine sM rfl ?_ ?_|refine s4 rfl ‹_› rfl ?_ ?_);first|exact tI|omega|simp only[oZ] at *;omega) |refine s2 rfl fun _ _hb=>?_ |refine s3 rfl ?_ ?_<;>rintro rfl |refine aU rfl ?_ |refine Aa ?_ |refine rE (by kernel_rfl) ?_)
   (refine pW rfl ?_ rfl (by rfl);refine IB 1 3 ?_)
   (repeat first |refine sN rfl ?_ |((first|refine sM rfl ?_ ?_|refine s4 rfl ‹_› rfl ?_ ?_);first|exact tI|omega|simp only[oZ] at *;omega) |refine s2 rfl fun _ _hb=>?_ |refine s3 rfl ?_ ?_<;>rintro rfl |refine aU rfl ?_ |refine Aa ?_ |refine rE (by kernel_rfl) ?_)
   refine aB ?_
   refine aL (α:={j:Nat // j≤r.length}) [1,2,3,4,5,15,16,17,31,32] [0,1,2,3] rfl rfl (fun s=>[(7,.o (.arr 4 1 0 s.1)),(33,eI .i64 s.1)]) (fun s=>[(4,.cells 3 1 (((r.take s.1).map (E4 a)).map AB))]) 5 (fun s=>r.length - s.1) (⟨0,by omega⟩) hΓ rfl (by ((repeat' first|exact tI|rfl|refine And.intro ?_ ?_)<;>(simp[cX,zC,hΓ,eC,BX,Aj]<;>rfl))) ?_;rintro⟨j,hj⟩;(try dsimp only[cA,cB])
   by_cases hjl:j < r.length
   ·obtain⟨x,hx⟩:=get_some hjl
    have hx':=get_map (g:=Bk) hx
    have hxi:=hri x (List.mem_of_getElem? hx)
    have hxc:=hclN x.toNat (by omega)
    rw [show ((x.toNat:Nat):Int)=x by omega] at hxc
    have hxc':=get_map (g:=Bk) hxc
    have ht:r.take (j+1)=r.take j++[x]:=by rw [List.take_add_one,hx];rfl
    (repeat first |refine sN rfl ?_ |((first|refine sA rfl ?_ ?_|refine s4 rfl ‹_› rfl ?_ ?_);first|exact tI|omega|simp only[oZ] at *;omega) |refine s2 rfl fun _ _hb=>?_ |refine s3 rfl ?_ ?_<;>rintro rfl |refine aU rfl ?_ |refine Aa ?_)
    ((refine aC rfl ?_ ?_<;>rintro⟨⟩);all_goals try(exfalso;first|omega|simp only[oZ] at *;omega))
    refine aK ?_
    refine aS (aB ?_)
    (repeat first |refine sN rfl ?_ |((first|refine sA rfl ?_ ?_|refine s4 rfl ‹_› rfl ?_ ?_);first|exact tI|omega|simp only[oZ] at *;omega) |refine s2 rfl fun _ _hb=>?_ |refine s3 rfl ?_ ?_<;>rintro rfl |refine aU rfl ?_ |refine Aa ?_)
    (refine pW rfl ?_ rfl (by rfl);refine Aw rfl rfl rfl (by first|(simp;done)|(simp;(first|omega|simp only[oZ] at *;omega))) rfl (by intro r hr;simp at hr;subst hr;rfl) (by rfl) (Nat.le_of_ble_eq_true rfl) (by simp;omega) ?_)
    (repeat first |refine sN rfl ?_ |((first|refine sA rfl ?_ ?_|refine s4 rfl ‹_› rfl ?_ ?_);first|exact tI|omega|simp only[oZ] at *;omega) |refine s2 rfl fun _ _hb=>?_ |refine s3 rfl ?_ ?_<;>rintro rfl |refine aU rfl ?_ |refine Aa ?_)
    refine⟨⟨j+1,by first|omega|simp only[oZ] at *;omega⟩,by dsimp only;(first|omega|simp only[oZ] at *;omega),[0,1,2,3,5],?_⟩
    simp[cX,zC,hΓ,eC,BX,Aj,ht]
   ·obtain rfl:j=r.length:=by omega
    rw [List.take_length]
    (repeat first |refine sN rfl ?_ |((first|refine sA rfl ?_ ?_|refine s4 rfl ‹_› rfl ?_ ?_);first|exact tI|omega|simp only[oZ] at *;omega) |refine s2 rfl fun _ _hb=>?_ |refine s3 rfl ?_ ?_<;>rintro rfl |refine aU rfl ?_ |refine Aa ?_)
    ((refine aC rfl ?_ ?_<;>rintro⟨⟩);all_goals try(exfalso;first|omega|simp only[oZ] at *;omega))
    refine aE ?_
    refine Ak.DW [4] [1,2,3,4,5,15,16,17] rfl [(7,Ai (r.map (E4 a)))] ⟨⟨_,rfl,.o (.full (by simp) rfl (by simp [Function.comp_def]) (by simp))⟩,trivial⟩ ?_;(try dsimp only[cA,cB])
    (repeat first |refine sN rfl ?_ |((first|refine sA rfl ?_ ?_|refine s4 rfl ‹_› rfl ?_ ?_);first|exact tI|omega|simp only[oZ] at *;omega) |refine s2 rfl fun _ _hb=>?_ |refine s3 rfl ?_ ?_<;>rintro rfl |refine aU rfl ?_ |refine Aa ?_)
    (refine pW rfl ?_ rfl (by rfl);refine Aw rfl rfl rfl (by first|(simp;done)|(simp;(first|omega|simp only[oZ] at *;omega))) rfl (by intro r hr;simp at hr;subst hr;rfl) (by rfl) (Nat.le_of_ble_eq_true rfl) (by simp;omega) ?_)
    (repeat first |refine sN rfl ?_ |((first|refine sA rfl ?_ ?_|refine s4 rfl ‹_› rfl ?_ ?_);first|exact tI|omega|simp only[oZ] at *;omega) |refine s2 rfl fun _ _hb=>?_ |refine s3 rfl ?_ ?_<;>rintro rfl |refine aU rfl ?_ |refine Aa ?_)
    refine rG (HW [8,10]) (by kernel_rfl) ?_
    (repeat first |refine sN rfl ?_ |((first|refine sA rfl ?_ ?_|refine s4 rfl ‹_› rfl ?_ ?_);first|exact tI|omega|simp only[oZ] at *;omega) |refine s2 rfl fun _ _hb=>?_ |refine s3 rfl ?_ ?_<;>rintro rfl |refine aU rfl ?_ |refine Aa ?_)
    (refine pW rfl ?_ rfl (by rfl);refine Aw rfl rfl rfl (by first|(simp;done)|(simp;(first|omega|simp only[oZ] at *;omega))) rfl (by intro r hr;simp at hr;subst hr;rfl) (by rfl) (Nat.le_of_ble_eq_true rfl) (by simp;omega) ?_)
    (repeat first |refine sN rfl ?_ |((first|refine sA rfl ?_ ?_|refine s4 rfl ‹_› rfl ?_ ?_);first|exact tI|omega|simp only[oZ] at *;omega) |refine s2 rfl fun _ _hb=>?_ |refine s3 rfl ?_ ?_<;>rintro rfl |refine aU rfl ?_ |refine Aa ?_)
    refine⟨⟨k+1,by first|omega|simp only[oZ] at *;omega⟩,by dsimp only;(first|omega|simp only[oZ] at *;omega),[0,5,6,3],?_⟩
    simp[cX,zC,hΓ,eC,BX,Aj,e]
 ·obtain rfl:k=a.nx.length:=by omega
  (repeat first |refine sN rfl ?_ |((first|refine sA rfl ?_ ?_|refine s4 rfl ‹_› rfl ?_ ?_);first|exact tI|omega|simp only[oZ] at *;omega) |refine s2 rfl fun _ _hb=>?_ |refine s3 rfl ?_ ?_<;>rintro rfl |refine aU rfl ?_ |refine Aa ?_)
  ((refine aC rfl ?_ ?_<;>rintro⟨⟩);all_goals try(exfalso;first|omega|simp only[oZ] at *;omega))
  refine aE ?_
  refine Ak.Bj [1,2,3] [(2,.o (.ptr 0 3 0 0)),(4,.o (.ip [iD a.al,Cf (BM a a.nx.length).nx,EK (BM a a.nx.length).ac]))] ⟨⟨_,rfl,.inl rfl⟩,⟨_,rfl,.inr (.o (.box rfl (.cons .d (.cons (.full rfl (by simp [Function.comp_def]) (by simp)) (.cons (.full rfl (by simp [Function.comp_def]) (by simp [Px])) .nil)))))⟩,trivial⟩ ?_
  (repeat first |refine sN rfl ?_ |((first|refine sA rfl ?_ ?_|refine s4 rfl ‹_› rfl ?_ ?_);first|exact tI|omega|simp only[oZ] at *;omega) |refine s2 rfl fun _ _hb=>?_ |refine sP rfl (e2) rfl ?_ |refine s3 rfl ?_ ?_<;>rintro rfl |refine aU rfl ?_ |refine Aa ?_)
  (subst_vars;exact aR ⟨_,rfl,rfl⟩)
theorem Mn(a:AN):Pure Tryz.prog TB 51 [AT a] (KX (if Ay a then some (Dv a) else none)):=by
 have h1:=Bg (TB:=TB) a
 by_cases hp:Ay a=true
 ·have h2:=JY (TB:=TB) (EJ hp)
  rw [hp] at h1
  rw [if_pos hp]
  refine eG Tryz.func51 rfl (by kernel_rfl) rfl ?_;intro Γ hΓ
  (repeat first |refine sN rfl ?_ |((first|refine sA rfl ?_ ?_|refine s4 rfl ‹_› rfl ?_ ?_);first|exact tI|omega|simp only[oZ] at *;omega) |refine s2 rfl fun _ _hb=>?_ |refine sP rfl (h1) rfl ?_ |refine s3 rfl ?_ ?_<;>rintro rfl |refine aU rfl ?_ |refine Aa ?_)
  ((refine aC rfl ?_ ?_<;>rintro⟨⟩);all_goals try (simp at _hb;done))
  refine aK ?_
  (repeat first |refine sN rfl ?_ |((first|refine sA rfl ?_ ?_|refine s4 rfl ‹_› rfl ?_ ?_);first|exact tI|omega|simp only[oZ] at *;omega) |refine s2 rfl fun _ _hb=>?_ |refine sP rfl (h2) rfl ?_ |refine s3 rfl ?_ ?_<;>rintro rfl |refine aU rfl ?_ |refine Aa ?_)
  (subst_vars;exact aR ⟨_,rfl,rfl⟩)
 ·rw [if_neg hp]
  rw [Bool.not_eq_true _ |>.mp hp] at h1
  refine eG Tryz.func51 rfl (by kernel_rfl) rfl ?_;intro Γ hΓ
  (repeat first |refine sN rfl ?_ |((first|refine sA rfl ?_ ?_|refine s4 rfl ‹_› rfl ?_ ?_);first|exact tI|omega|simp only[oZ] at *;omega) |refine s2 rfl fun _ _hb=>?_ |refine sP rfl (h1) rfl ?_ |refine s3 rfl ?_ ?_<;>rintro rfl |refine aU rfl ?_ |refine Aa ?_)
  ((refine aC rfl ?_ ?_<;>rintro⟨⟩);all_goals try (simp at _hb;done))
  (repeat first |refine sN rfl ?_ |((first|refine sA rfl ?_ ?_|refine s4 rfl ‹_› rfl ?_ ?_);first|exact tI|omega|simp only[oZ] at *;omega) |refine s2 rfl fun _ _hb=>?_|(refine Ag rfl ?_;refine gA rfl ?_;first|refine gS (fun _ _=>AI rfl rfl (by rfl) (by rfl)) ?_) |refine s3 rfl ?_ ?_<;>rintro rfl |refine aU rfl ?_ |refine Aa ?_)
  (subst_vars;exact aR ⟨_,rfl,rfl⟩)
theorem OX(a:AN):Pure Tryz.prog TB 60 [AT a] (KX (if Ay a then some (Mf a) else none)):=by
 have h1:=Bg (TB:=TB) a
 by_cases hp:Ay a=true
 ·have h2:=SV (TB:=TB) (EJ hp)
  rw [hp] at h1
  rw [if_pos hp]
  refine eG Tryz.func60 rfl (by kernel_rfl) rfl ?_;intro Γ hΓ
  (repeat first |refine sN rfl ?_ |((first|refine sA rfl ?_ ?_|refine s4 rfl ‹_› rfl ?_ ?_);first|exact tI|omega|simp only[oZ] at *;omega) |refine s2 rfl fun _ _hb=>?_ |refine sP rfl (h1) rfl ?_ |refine s3 rfl ?_ ?_<;>rintro rfl |refine aU rfl ?_ |refine Aa ?_)
  ((refine aC rfl ?_ ?_<;>rintro⟨⟩);all_goals try (simp at _hb;done))
  refine aK ?_
  (repeat first |refine sN rfl ?_ |((first|refine sA rfl ?_ ?_|refine s4 rfl ‹_› rfl ?_ ?_);first|exact tI|omega|simp only[oZ] at *;omega) |refine s2 rfl fun _ _hb=>?_ |refine sP rfl (h2) rfl ?_ |refine s3 rfl ?_ ?_<;>rintro rfl |refine aU rfl ?_ |refine Aa ?_)
  (subst_vars;exact aR ⟨_,rfl,rfl⟩)
 ·rw [if_neg hp]
  rw [Bool.not_eq_true _ |>.mp hp] at h1
  refine eG Tryz.func60 rfl (by kernel_rfl) rfl ?_;intro Γ hΓ
  (repeat first |refine sN rfl ?_ |((first|refine sA rfl ?_ ?_|refine s4 rfl ‹_› rfl ?_ ?_);first|exact tI|omega|simp only[oZ] at *;omega) |refine s2 rfl fun _ _hb=>?_ |refine sP rfl (h1) rfl ?_ |refine s3 rfl ?_ ?_<;>rintro rfl |refine aU rfl ?_ |refine Aa ?_)
  ((refine aC rfl ?_ ?_<;>rintro⟨⟩);all_goals try (simp at _hb;done))
  (repeat first |refine sN rfl ?_ |((first|refine sA rfl ?_ ?_|refine s4 rfl ‹_› rfl ?_ ?_);first|exact tI|omega|simp only[oZ] at *;omega) |refine s2 rfl fun _ _hb=>?_|(refine Ag rfl ?_;refine gA rfl ?_;first|refine gS (fun _ _=>AI rfl rfl (by rfl) (by rfl)) ?_) |refine s3 rfl ?_ ?_<;>rintro rfl |refine aU rfl ?_ |refine Aa ?_)
  (subst_vars;exact aR ⟨_,rfl,rfl⟩)
theorem Ts(a:AN):Pure Tryz.prog TB 61 [AT a] (eB (Ay a && decide ((Dv a).nx.length=a.nx.length))):=by
 have h1:=Bg (TB:=TB) a
 by_cases hp:Ay a=true
 ·have h2:=JY (TB:=TB) (EJ hp)
  rw [hp] at h1 ⊢
  generalize Dv a=m at *
  refine eG Tryz.func61 rfl (by kernel_rfl) rfl ?_;intro Γ hΓ
  (repeat first |refine sN rfl ?_ |((first|refine sA rfl ?_ ?_|refine s4 rfl ‹_› rfl ?_ ?_);first|exact tI|omega|simp only[oZ] at *;omega) |refine s2 rfl fun _ _hb=>?_ |refine s3 rfl ?_ ?_<;>rintro rfl |refine aU rfl ?_ |refine Aa ?_)
  refine rG (HW []) (by kernel_rfl) ?_
  (repeat' first |refine sN rfl ?_ |((first|refine sA rfl ?_ ?_|refine s4 rfl ‹_› rfl ?_ ?_);first|exact tI|omega|simp only[oZ] at *;omega) |refine s2 rfl fun _ _hb=>?_ |refine sP rfl (h1) rfl ?_|refine sP rfl (h2) rfl ?_ |refine s3 rfl ?_ ?_<;>rintro rfl |refine aU rfl ?_ |refine Aa ?_|(refine aC rfl ?_ ?_<;>rintro⟨⟩));all_goals try contradiction
  all_goals (refine aR ⟨_,rfl,?_⟩;subst_vars;simp<;>omega)
 ·rw [Bool.not_eq_true _ |>.mp hp] at h1 ⊢
  refine eG Tryz.func61 rfl (by kernel_rfl) rfl ?_;intro Γ hΓ
  (repeat first |refine sN rfl ?_ |((first|refine sA rfl ?_ ?_|refine s4 rfl ‹_› rfl ?_ ?_);first|exact tI|omega|simp only[oZ] at *;omega) |refine s2 rfl fun _ _hb=>?_ |refine s3 rfl ?_ ?_<;>rintro rfl |refine aU rfl ?_ |refine Aa ?_)
  refine rG (HW []) (by kernel_rfl) ?_
  (repeat' first |refine sN rfl ?_ |((first|refine sA rfl ?_ ?_|refine s4 rfl ‹_› rfl ?_ ?_);first|exact tI|omega|simp only[oZ] at *;omega) |refine s2 rfl fun _ _hb=>?_ |refine sP rfl (h1) rfl ?_ |refine s3 rfl ?_ ?_<;>rintro rfl |refine aU rfl ?_ |refine Aa ?_|(refine aC rfl ?_ ?_<;>rintro⟨⟩));all_goals try contradiction
  (subst_vars;exact aR ⟨_,rfl,rfl⟩)
end Go.Am
namespace Go.Am
open Go
set_option linter.unusedVariables false
variable {TB:Bu}
section
variable {P:Program}{Γ:Ctx}{d:Option Tmp}{ty:TypeId}{pos:String}{af:Array Edge}{g:Option (Nat×Bool)}{f:Env}{σ:Ab}{nx:Nat}
theorem VK{t:TypeId}{z:List Value}{fl:List (Nat×Nat)}{parts:Array (Nat×Operand)}{es:List E}{qs:List (Nat×List C)}[hz:BF P t z][hf:EE P t fl](hes:HE f (parts.toList.map (·.2))=some es)(hq:Eu fl parts.toList es=some qs)
 (hok:z.all LO=true) (hle:(qs.all fun x=>Nat.ble (x.1+x.2.length) z.length)=true):AY P TB Γ ⟨d,.build t parts,ty,pos,af,g⟩ f σ nx (.a (BX qs (z.map fun v=>C.d (.v v)))):=
 AG fun V ρ h1 _=>by
  obtain⟨i,zv,hi,hzv,hzz⟩:=GU hz.out
  have hfo:=CR (V:=V) (ρ:=ρ) parts.toList es qs (fun x hx e he=>h1.get (by simp only [Op.operands];simpa using hx) he) hes hq
  have hzr:Cu V (z.map fun v=>C.d (.v v)) zv.cells:=by
   refine⟨by rw [List.length_map,←hzz];simp,fun j c v hj hv=>?_⟩
   simp only [List.getElem?_map,Option.map_eq_some_iff] at hj
   obtain⟨u,hu,rfl⟩:=hj
   have:u=v:=by
    rw [←hzz] at hu
    simp only [Array.getElem?_toList] at hu
    rw [hu] at hv;exact Option.some.inj hv
   subst this
   exact .d (.v (List.all_eq_true.1 hok u (List.mem_of_getElem? hu)))
  obtain⟨cells,h3,h4⟩:=Ff _ _ _ _ hfo hzr (fun x hx=>by rw [List.length_map];exact Im _ _ hle x hx)
  have hh:=hf.out
  have hparts:(parts.map fun (i,x)=>(i,ρ x)).toList=parts.toList.map fun (i,x)=>(i,ρ x):=by simp
  refine⟨.agg cells,?_,cells,rfl,h4⟩
  have hb : (Instr.build t (parts.map fun (i,x)=>(i,ρ x))).run P V.w=.ok (.agg cells) V.w:=by
   unfold bh at hh
   split at hh
   ·rename_i fs hu
    have hpl:∀(l:List Field) (ll:List (Nat×Nat)),(l.mapM fun f=>(P.info? f.type).map fun i=>(f.offset,i.size))=some ll→∀w,((l.mapM fun f=>do pure (f.offset,←sizeOf f.type)):Sem (List (Nat×Nat))).run P w=.ok ll w:=by
     intro l
     induction l with
     | nil=>intro ll h w;simp at h;subst h;simp [go_sem]
     | cons y l ih=>
      intro ll h w
      simp only [List.mapM_cons,Option.bind_eq_bind,Option.bind_eq_some_iff,Option.map_eq_some_iff] at h
      obtain⟨p,⟨ii,hii,rfl⟩,ll',h5,h6⟩:=h
      simp at h6
      subst h6
      have hs:(sizeOf y.type).run P w=.ok ii.size w:=by simp [sizeOf,typeInfo,hii,go_sem]
      have ihh:=ih ll' h5 w
      simp only [bind_pure_comp] at ihh
      simp only [List.mapM_cons,Sem.run_bind,hs,Result.andThen_ok,bind_pure_comp,Sem.run_map,ihh]
    have hpl2:=hpl fs.toList fl hh V.w
    have hz0:(zeroValue t).run P V.w=.ok zv V.w:=by simp [zeroValue,typeInfo,hi,hzv,go_sem]
    have ha:((fs.mapM fun f=>do pure (f.offset,←sizeOf f.type)):Sem (Array (Nat×Nat))).run P V.w=.ok fl.toArray V.w:=by
     rw [Array.mapM_eq_mapM_toList,Sem.run_map,hpl2];rfl
    rw [←hparts] at h3
    simp only [Instr.build,Sem.run_bind,hz0,Result.andThen_ok,run_underlying hu,ha]
    simp only [List.getElem?_toArray]
    rw [h3]
    rfl
   ·rename_i n e hu
    simp only [Option.map_eq_some_iff] at hh
    obtain⟨ii,hii,rfl⟩:=hh
    have hz0:(zeroValue t).run P V.w=.ok zv V.w:=by simp [zeroValue,typeInfo,hi,hzv,go_sem]
    have hs:(sizeOf e).run P V.w=.ok ii.size V.w:=by simp [sizeOf,typeInfo,hii,go_sem]
    have hfill:∀(ps:List (Nat×Value)) (c c':Array Value),Instr.fill (fun i=>((List.range n).map fun j=>(j*ii.size,ii.size))[i]?) c ps=some c'→Instr.fill (fun i=>some (i*ii.size,ii.size)) c ps=some c':=by
     intro ps
     induction ps with
     | nil=>intro c c' h;simpa [Instr.fill] using h
     | cons p ps ih=>
      intro c c' h
      obtain⟨i',v'⟩:=p
      unfold Instr.fill at h ⊢
      by_cases hlt:i' < n
      ·simp only [List.getElem?_map,List.getElem?_range hlt,Option.map_some] at h
       simp only at h ⊢
       split at h
       ·cases h
       ·rename_i hno
        rw [if_neg hno];exact ih _ _ (by simpa only [List.getElem?_map] using h)
      ·simp [hlt] at h
    rw [←hparts] at h3
    simp only [Instr.build,Sem.run_bind,hz0,Result.andThen_ok,run_underlying hu,hs]
    rw [hfill _ _ _ h3]
    rfl
   ·cases hh
  show ((do let v ←Instr.build t (parts.map fun (i,x)=>(i,ρ x));pure (Go.Next.value v):Sem Go.Next)).run P V.w=_
  simp only [Sem.run_bind,hb,Result.andThen_ok]
  rfl
end
theorem Yt{P:Program}{Γ:Ctx}{o:Oper}{L:List (Nat×E)}{σ:Ab}{nx:Nat}{K:E→Ab→Nat→Prop}{b:Option Addr}(t:Tmp)(hx:look L t=some (.o (.d (.v (.slice b 0 0)))))(h:B2 P TB Γ o (look ((t,.e)::L)) σ nx K):B2 P TB Γ o (look L) σ nx K:=by
 intro V a h1 h2 h3
 refine h V a ?_ h2 h3
 intro t' e' ht' he'
 rw [Ax] at he'
 by_cases he:t=t'
 ·subst he
  rw [if_pos rfl] at he'
  injection he' with he'
  subst he'
  exact⟨b,AE.val (h1 t _ ht' hx)⟩
 ·rw [if_neg he] at he'
  exact h1 t' e' ht' he'
end Go.Am
namespace Go.Am
open Go Go.Proofs
set_option maxHeartbeats 1000000
attribute [local irreducible] AY B2 Lex Bq Ak Spec
variable {TB:Bu}
abbrev Ue(n:UInt8):List D:=[.v (.int .u8 n.toNat)]
abbrev SW(l:List UInt8):D:=.l (l.map Ue)
abbrev BB(b:List UInt8)(p:Int):O:=.cells 156 2 [[.d (SW b),.d (iD p)]]
theorem UW{a b:Nat}(ha:a < 2 ^ 62)(hb:b < 2 ^ 62):Qp .i64 a b=((a ^^^ b:Nat):Int):=by
 unfold Qp
 have h1:(BitVec.ofInt IntKind.i64.bits (a:Int)).toNat=a:=by
  rw [BitVec.toNat_ofInt];have:IntKind.i64.bits=64:=rfl;rw [this];omega
 have h2:(BitVec.ofInt IntKind.i64.bits (b:Int)).toNat=b:=by
  rw [BitVec.toNat_ofInt];have:IntKind.i64.bits=64:=rfl;rw [this];omega
 rw [BitVec.toNat_xor,h1,h2]
 have h3:a ^^^ b < 2 ^ 62:=Nat.xor_lt_two_pow ha hb
 exact IntWalk.i64_in _ (by omega)
theorem Xu{x y:Int}(hx:0≤x∧x < 4611686018427387904)(hy:0≤y∧y < 4611686018427387904):0≤Qp .i64 x y∧Qp .i64 x y < 4611686018427387904:=by
 obtain⟨a,rfl⟩:∃a:Nat,x=a:=⟨x.toNat,by omega⟩
 obtain⟨b,rfl⟩:∃b:Nat,y=b:=⟨y.toNat,by omega⟩
 rw [UW (by omega) (by omega)]
 have h3:a ^^^ b < 2 ^ 62:=Nat.xor_lt_two_pow (by omega) (by omega)
 omega
theorem Lb(b:List UInt8)(hb:b.length≤9223372036854775807):∃b':List UInt8,b'.length≤2000∧Bi Tryz.prog TB 112 0 [] 0 [.o (.d (SW b))] (fun x σ nx=>x=.o (.ptr 0 2 0 0)∧σ=[(0,BB b' 0)]∧nx=1):=by
 by_cases h:b.length≤2000
 ·refine⟨b,h,?_⟩
  refine Bi.Zq (m:=0) (Nat.le_of_ble_eq_true rfl) Tryz.func112 rfl (by kernel_rfl) (Nat.le_of_ble_eq_true rfl) ?_;intro Γ hΓ
  (repeat first|refine sN rfl ?_ |refine tX rfl ?_ |refine s2 rfl fun _ _hb=>?_ |refine aU rfl ?_ |refine Aa ?_)
  ((refine aC rfl ?_ ?_<;>rintro⟨⟩);all_goals try (simp at _hb;done))
  ·exfalso;(simp only[oZ] at *;omega)
  refine aK ?_
  (repeat first|refine tX rfl ?_|(refine Ag rfl ?_;refine gA rfl ?_;first| refine gS (fun _ _=>AI rfl rfl (by rfl) (by rfl)) ?_) |refine aU rfl ?_)
  (refine pW rfl ?_ rfl (by rfl);refine Dr rfl rfl ?_)
  (repeat first|refine tX rfl ?_ |refine Aa ?_)
  refine aR ⟨_,rfl,rfl,rfl,rfl⟩
 ·refine⟨b.take 2000,by simp;omega,?_⟩
  have e:(b.map Ue).take (2000:Int).toNat=(b.take 2000).map Ue:=by simp [List.map_take]
  refine Bi.Zq (m:=0) (Nat.le_of_ble_eq_true rfl) Tryz.func112 rfl (by kernel_rfl) (Nat.le_of_ble_eq_true rfl) ?_;intro Γ hΓ
  (repeat first|refine sN rfl ?_ |refine tX rfl ?_ |refine s2 rfl fun _ _hb=>?_ |refine aU rfl ?_ |refine Aa ?_)
  ((refine aC rfl ?_ ?_<;>rintro⟨⟩);all_goals try (simp at _hb;done))
  ·(repeat first|refine tX rfl ?_|(refine Ag rfl ?_;refine gA rfl ?_;first| refine gS (fun _ _=>KE rfl rfl (by simp) (by omega) (by simp;omega)) ?_) |refine aU rfl ?_ |refine Aa ?_)
   rw [e]
   (repeat first| (refine Ag rfl ?_;refine gA rfl ?_;first| refine gS (fun _ _=>AI rfl rfl (by rfl) (by rfl)) ?_))
   (refine pW rfl ?_ rfl (by rfl);refine Dr rfl rfl ?_)
   (repeat first|refine tX rfl ?_ |refine Aa ?_)
   refine aR ⟨_,rfl,rfl,rfl,rfl⟩
  ·exfalso;(simp only[oZ] at *;omega)
theorem BD(b:List UInt8)(hb:b.length≤2000)(p n:Int)(h0:0≤p∧p < 1000000000):∃k:Int,0≤k∧(k=0∨k < n)∧Spec Tryz.prog TB 164 [(0,BB b p)] 1 [.o (.ptr 0 2 0 0),eI .i64 n] (fun x σ nx=>x=eI .i64 k∧σ=[(0,BB b (p+1))]∧nx=1):=by
 by_cases hz:n < 1∨b.length=0
 ·refine⟨0,by omega,.inl rfl,?_⟩
  refine eR Tryz.func164 rfl (by kernel_rfl) rfl ?_;intro Γ hΓ
  (repeat' first|refine sN rfl ?_ |(refine sA rfl ?_ ?_;first|exact tI|omega|simp only[oZ] at *;omega) |refine s2 rfl fun _ _hb=>?_ |refine s3 rfl ?_ ?_<;>rintro rfl |refine aU rfl ?_ |refine Aa ?_ |refine rE (by kernel_rfl) ?_|(refine aC rfl ?_ ?_<;>rintro⟨⟩)|refine aK ?_|refine aE ?_|refine aB ?_|refine aR ⟨_,rfl,?_⟩)
  all_goals first
   | (exfalso;(simp only[oZ] at *;omega);done)
   | refine⟨[0],eI .i64 0,[(0,BB b (p+1))],⟨by first|(simp;done)|decide|(intro i hi;match i with|0=>rfl),by decide⟩,rfl,by (simp[cX,zC,hΓ]),rfl,rfl,rfl⟩
 have hl:0 < b.length:=by omega
 have hn:0 < n:=by omega
 by_cases hp:p < b.length
 ·obtain⟨c,hc⟩:=get_some (l:=b) (k:=(p+1 - 1).toNat) (by omega)
  have hc':=get_map (g:=Ue) hc
  have hcl:=c.toNat_lt
  refine⟨(c.toNat:Int) % n,Int.emod_nonneg _ (by omega),.inr (Int.emod_lt_of_pos _ hn),?_⟩
  refine eR Tryz.func164 rfl (by kernel_rfl) rfl ?_;intro Γ hΓ
  (repeat' first|refine sN rfl ?_ |(refine sA rfl ?_ ?_;first|exact tI|omega) |(refine s4 rfl ‹_› rfl ?_ ?_;omega) |refine s2 rfl fun _ _hb=>?_ |refine s3 rfl ?_ ?_<;>rintro rfl |refine aU rfl ?_ |refine Aa ?_ |refine rE (by kernel_rfl) ?_|(refine aC rfl ?_ ?_<;>rintro⟨⟩)|refine aK ?_|refine aE ?_|refine aB ?_|refine aR ⟨_,rfl,?_⟩)
  all_goals first
   | (exfalso;(simp only[oZ] at *;omega);done)
   | refine⟨[0],_,[(0,BB b (p+1))],⟨by first|(simp;done)|decide|(intro i hi;match i with|0=>rfl),by decide⟩,rfl,by (simp[cX,zC,hΓ]),rfl,rfl,rfl⟩
 ·have hl':(0:Int) < b.length:=by omega
  have i1:=Int.emod_nonneg (p+1 - 1) (show (b.length:Int)≠0 by omega)
  have i2:=Int.emod_lt_of_pos (p+1 - 1) hl'
  have j1:=Int.emod_nonneg ((p+1 - 1)*7+3) (show (b.length:Int)≠0 by omega)
  have j2:=Int.emod_lt_of_pos ((p+1 - 1)*7+3) hl'
  obtain⟨c,hc⟩:=get_some (l:=b) (k:=((p+1 - 1) % (b.length:Int)).toNat) (by omega)
  have hc':=get_map (g:=Ue) hc
  have hcl:=c.toNat_lt
  obtain⟨d,hd⟩:=get_some (l:=b) (k:=(((p+1 - 1)*7+3) % (b.length:Int)).toNat) (by omega)
  have hd':=get_map (g:=Ue) hd
  have hdl:=d.toNat_lt
  have q1:0≤(p+1 - 1) / (b.length:Int):=Int.ediv_nonneg (by omega) (by omega)
  have q2:(p+1 - 1) / (b.length:Int)≤p+1 - 1:=Int.ediv_le_self _ (by omega)
  obtain⟨x,hx⟩:∃x,x=(c.toNat:Int)*131+(d.toNat:Int)*1117+(p+1 - 1)*29+(p+1 - 1) / (b.length:Int)*53:=⟨_,rfl⟩
  have x1:0≤x∧x < 1000000000000:=by omega
  have y1:=Xu (x:=x) (y:=x / 64) (by omega) (by omega)
  refine⟨Qp .i64 x (x / 64) % n,Int.emod_nonneg _ (by omega),.inr (Int.emod_lt_of_pos _ hn),?_⟩
  refine eR Tryz.func164 rfl (by kernel_rfl) rfl ?_;intro Γ hΓ
  (repeat' first|refine sN rfl ?_ |(refine sA rfl ?_ ?_;first|exact tI|omega) |(refine s4 rfl ‹_› rfl ?_ ?_;omega) |(refine s2 rfl fun _ _hb=>?_;try (simp only[Bool.not_true,Bool.not_false] at _hb;subst _hb))|(refine Ag rfl ?_;refine gA rfl ?_;first| refine gS (fun _ _=>ca rfl rfl rfl) ?_) |refine s3 rfl ?_ ?_<;>rintro rfl |refine aU rfl ?_ |refine Aa ?_ |refine rE (by kernel_rfl) ?_|(refine aC rfl ?_ ?_<;>rintro⟨⟩)|refine aK ?_|refine aR ⟨_,rfl,?_⟩|(rw [←hx]))
  all_goals first
   | (exfalso;(simp only[oZ] at *;omega);done)
   | refine⟨[0],_,[(0,BB b (p+1))],⟨by first|(simp;done)|decide|(intro i hi;match i with|0=>rfl),by decide⟩,rfl,by (simp[cX,zC,hΓ]),rfl,rfl,rfl⟩
theorem HN(b:List UInt8)(hb:b.length≤2000)(p:Int)(h0:0≤p∧p < 1000000000)(l:List Int)(hl:0 < l.length)(hl2:l.length < 1000000):∃k∈l,Spec Tryz.prog TB 167 [(0,BB b p)] 1 [.o (.ptr 0 2 0 0),Ai l] (fun x σ nx=>x=eI .i64 k∧σ=[(0,BB b (p+1))]∧nx=1):=by
 obtain⟨k,k1,k2,h⟩:=BD (TB:=TB) b hb p l.length h0
 obtain⟨x,hx⟩:=get_some (l:=l) (k:=k.toNat) (by omega)
 have hx':=get_map (g:=Bk) hx
 refine⟨x,List.mem_of_getElem? hx,?_⟩
 refine eR Tryz.func167 rfl (by kernel_rfl) rfl ?_;intro Γ hΓ
 (repeat first|refine sN rfl ?_ |refine tA rfl ?_ |refine aU rfl ?_ |refine Aa ?_)
 (refine pW rfl ?_ rfl (by rfl);refine AD [0] rfl rfl (h) ⟨rfl,by decide,by decide⟩ rfl (by simp[cX,zC,hΓ]) ?_;rintro x0 σ1 nx1 ⟨rfl,rfl,rfl⟩ _)
 (repeat first|refine tA rfl ?_ |(refine s4 rfl ‹_› rfl ?_ ?_;omega) |refine Aa ?_)
 refine aR ⟨_,rfl,?_⟩
 refine⟨[0],_,[(0,BB b (p+1))],⟨by first|(simp;done)|decide|(intro i hi;match i with|0=>rfl),by decide⟩,rfl,by (simp[cX,zC,hΓ]),rfl,rfl,rfl⟩
theorem Yv(b:List UInt8)(hb:b.length≤2000)(p:Int)(h0:0≤p∧p < 1000000000)(l:List W)(hl:0 < l.length)(hl2:l.length < 1000000):∃k∈l,Spec Tryz.prog TB 165 [(0,BB b p)] 1 [.o (.ptr 0 2 0 0),Bf l] (fun x σ nx=>x=eT k∧σ=[(0,BB b (p+1))]∧nx=1):=by
 obtain⟨k,k1,k2,h⟩:=BD (TB:=TB) b hb p l.length h0
 obtain⟨x,hx⟩:=get_some (l:=l) (k:=k.toNat) (by omega)
 have hx':=get_map (g:=Cm) hx
 refine⟨x,List.mem_of_getElem? hx,?_⟩
 refine eR Tryz.func165 rfl (by kernel_rfl) rfl ?_;intro Γ hΓ
 (repeat first|refine sN rfl ?_ |refine tA rfl ?_ |refine aU rfl ?_ |refine Aa ?_)
 (refine pW rfl ?_ rfl (by rfl);refine AD [0] rfl rfl (h) ⟨rfl,by decide,by decide⟩ rfl (by simp[cX,zC,hΓ]) ?_;rintro x0 σ1 nx1 ⟨rfl,rfl,rfl⟩ _)
 (repeat first|refine tA rfl ?_ |(refine s4 rfl ‹_› rfl ?_ ?_;omega) |refine Aa ?_)
 refine aR ⟨_,rfl,?_⟩
 refine⟨[0],_,[(0,BB b (p+1))],⟨by first|(simp;done)|decide|(intro i hi;match i with|0=>rfl),by decide⟩,rfl,by (simp[cX,zC,hΓ]),rfl,rfl,rfl⟩
abbrev UL(al:Int)(i j:Nat)(n m:Nat):E:=.a [.d (iD al),.arr i 1 0 n,.arr j 1 0 m]
def Oz(b:List UInt8)(al p n:Int)(x:E)(σ:Ab)(nx:Nat):Prop:=∃(p':Int) (l:GW) (ac:List Bool),(p≤p'∧p'≤p+7*n)∧(l.length:Int)=n∧ac.length=l.length∧(∀x∈l,x.2.length=(Ac al).length)∧
 x=UL al 1 2 l.length ac.length∧σ=[(0,BB b p'),(1,.cells 75 1 (AA l)),(2,.cells 4 1 (ac.map AQ)),(3,.sld 3 (sI l))]∧nx=4
theorem JV(b:List UInt8)(hb:b.length≤2000)(p:Int)(h0:0≤p∧p < 900000000)(al n:Int)(hn:0≤n∧n < 1000):Bi Tryz.prog TB 264 1 [(0,BB b p)] 1 [.o (.ptr 0 2 0 0),eI .i64 al,eI .i64 n] (Oz b al p n):=by
 have hla:(Ac al).length≤6:=AM al 6
 refine Bi.A0 (Bi.Zq (m:=1) (Nat.le_of_ble_eq_true rfl) Tryz.func264 rfl (by kernel_rfl) (Nat.le_of_ble_eq_true rfl) ?_);intro Γ hΓ
 (repeat first|refine tA rfl ?_ |refine aU rfl ?_ |refine Aa ?_)
 (refine pW rfl ?_ rfl (by rfl);refine Fk 1 1 75 2 1 4 rfl rfl (by decide) rfl rfl (by rfl) (by rfl) ?_)
 (repeat first|refine sN rfl ?_ |refine tA rfl ?_ |refine sP rfl (Cg al) rfl ?_ |refine aU rfl ?_ |refine Aa ?_)
 refine aB ?_
 refine Ak.X7 3 ?_
 refine aL (α:={s:Nat×Int×GW×List Bool // (s.1:Int)≤n∧(p≤s.2.1∧s.2.1≤p+7*s.1)∧s.2.2.1.length=s.1∧s.2.2.2.length=s.1∧∀x∈s.2.2.1,x.2.length=(Ac al).length}) [0,2,6,7,8] [1] rfl rfl (fun s=>[(9,eI .i64 s.1.1)]) (fun s=>[(0,BB b s.1.2.1),(2,.cells 75 1 (AA s.1.2.2.1)),(3,.cells 4 1 (s.1.2.2.2.map AQ)),(4,.cells 41 3 [[.d (iD al),.arr 2 1 0 s.1.2.2.1.length,.arr 3 1 0 s.1.2.2.2.length]]),(5,.sld 3 (sI s.1.2.2.1))]) 6 (fun s=>n.toNat - s.1.1) (⟨⟨0,p,[],[]⟩,by simp;omega⟩) hΓ rfl (by (simp[cX,zC,hΓ]<;>rfl)) ?_;rintro⟨⟨k,q,l,ac⟩,hk,hq,hl,hac,hx⟩;(try dsimp only[cA,cB])
 have hk:(k:Int)≤n:=hk
 have hq:p≤q∧q≤p+7*k:=hq
 have hl:l.length=k:=hl
 have hac:ac.length=k:=hac
 (repeat first|refine tM rfl ?_ |refine s2 rfl fun _ _hb=>?_ |refine aU rfl ?_ |refine Aa ?_)
 ((refine aC rfl ?_ ?_<;>rintro⟨⟩);all_goals try (simp at _hb;done))
 ·have hlt:(k:Int) < n:=by (simp only[oZ] at *;omega)
  refine aK ?_
  refine aS (aB ?_)
  (repeat first|refine aU rfl ?_)
  (refine pW rfl ?_ rfl (by rfl);refine A1 rfl rfl rfl rfl (by simp) (by rfl) (by rfl) (by rfl) (by rfl) ?_)
  (repeat first|refine tX rfl ?_ |refine aU rfl ?_ |refine Aa ?_)
  refine aB ?_
  refine aL (α:={s:Nat×Int×List Int // s.1≤(Ac al).length∧(q≤s.2.1∧s.2.1≤q+s.1)∧s.2.2.length=s.1}) [0,2,6,7,8,9] [1,2,3,4,5] rfl rfl (fun s=>[(10,.o (.arr 6 1 0 s.1.2.2.length)),(11,eI .i64 s.1.1)]) (fun s=>[(0,BB b s.1.2.1),(6,.cells 3 1 (s.1.2.2.map AB))]) 7 (fun s=>(Ac al).length - s.1.1) (⟨⟨0,q,[]⟩,by simp⟩) hΓ rfl (by (simp[cX,zC,hΓ,Py])) ?_;rintro⟨⟨j,u,xs⟩,hj,hu,hxs⟩;(try dsimp only[cA,cB])
  have hj:j≤(Ac al).length:=hj
  have hu:q≤u∧u≤q+j:=hu
  have hxs:xs.length=j:=hxs
  (repeat first|refine tM rfl ?_ |refine s2 rfl fun _ _hb=>?_ |refine aU rfl ?_ |refine Aa ?_)
  ((refine aC rfl ?_ ?_<;>rintro⟨⟩);all_goals try (simp at _hb;done))
  ·obtain⟨c,c1,c2,hp⟩:=BD (TB:=TB) b hb u n (by omega)
   refine aK ?_
   refine aS (aB ?_)
   (repeat first|refine tA rfl ?_ |refine aU rfl ?_)
   (refine pW rfl ?_ rfl (by rfl);refine AD [0] rfl rfl (hp) ⟨rfl,by decide,by decide⟩ rfl (by simp[cX,zC,hΓ]) ?_;rintro x0 σ1 nx1 ⟨rfl,rfl,rfl⟩ _)
   (repeat first|refine tA rfl ?_)
   (refine pW rfl ?_ rfl (by rfl);refine Aw rfl rfl rfl (by first| (simp;done)|(simp;(omega))) rfl (by intro r hr;simp at hr;subst hr;rfl) (by rfl) (Nat.le_of_ble_eq_true rfl) (by simp;omega) ?_)
   (repeat first|(refine sA rfl ?_ ?_;first|exact tI|omega) |refine aU rfl ?_ |refine Aa ?_)
   refine⟨⟨⟨j+1,u+1,xs++[c]⟩,by simp;(simp only[oZ] at *;omega)⟩,by dsimp only;((simp only[oZ] at *;omega)),[0,1,2,3,4,5,7],?_⟩
   (simp[cX,zC,hΓ,cN]<;>rfl)
  ·obtain rfl:j=(Ac al).length:=by (simp only[oZ] at *;omega)
   obtain⟨c,c1,c2,hp⟩:=BD (TB:=TB) b hb u 3 (by omega)
   refine aE ?_
   (repeat first|refine tX rfl ?_ |refine aU rfl ?_)
   (refine pW rfl ?_ rfl (by rfl);refine A1 rfl rfl rfl rfl (by simp [eC]) (by rfl) (by rfl) (by rfl) (by rfl) ?_)
   (refine pW rfl ?_ rfl (by rfl);refine Aw rfl rfl rfl (BS _) rfl (by intro r hr;simp at hr;subst hr;rfl) (by rfl) (Nat.le_of_ble_eq_true rfl) (by simp;omega) ?_)
   (repeat first|refine tX rfl ?_ |refine Aa ?_)
   refine Ak.QP 8 6 5 l xs rfl rfl rfl fun v=>?_
   refine rG (bj [(1,14),(3,1016),(6,1),(8,1)]) (by kernel_rfl) ?_
   (repeat first|refine tA rfl ?_)
   (refine Ag rfl ?_;refine Db ?_ rfl ⟨rfl,rfl⟩;refine AD [0] rfl rfl (hp) ⟨rfl,by decide,by decide⟩ rfl (by simp[cX,zC,hΓ,cN]) ?_;rintro x0 σ1 nx1 ⟨rfl,rfl,rfl⟩ _;refine⟨Ir 4 rfl rfl,?_⟩)
   (repeat first|refine tA rfl ?_ |refine s2 rfl fun _ _hb=>?_)
   (refine pW rfl ?_ rfl (by rfl);refine Aw rfl rfl rfl (by first| (simp;done)|(simp;(omega))) rfl (by intro r hr;simp at hr;subst hr;rfl) (by rfl) (Nat.le_of_ble_eq_true rfl) (by simp;omega) ?_)
   (repeat first|(refine sA rfl ?_ ?_;first|exact tI|omega) |refine aU rfl ?_ |refine Aa ?_)
   subst _hb
   have hx2:∀x∈l++[(v,xs)],x.2.length=(Ac al).length:=fun x hm=>by
    rcases List.mem_append.1 hm with hm|hm
    ·exact hx x hm
    ·simp at hm;subst hm;exact hxs
   refine⟨⟨⟨k+1,u+1,l++[(v,xs)],ac++[decide (c > 0)]⟩,by dsimp only;omega,by dsimp only;omega,by simp;omega,by simp;omega,hx2⟩,by dsimp only;(omega),[0,1,8,9,4,5],?_⟩
   (simp[cX,zC,hΓ,cN]<;>rfl)
 ·have hkn:(k:Int)=n:=by (simp only[oZ] at *;omega)
  refine aE ?_
  (repeat first|refine tA rfl ?_ |refine aU rfl ?_ |refine Aa ?_)
  refine aR ⟨_,rfl,[0,2,3,5],UL al 1 2 l.length ac.length,[(0,BB b q),(1,.cells 75 1 (AA l)),(2,.cells 4 1 (ac.map AQ)),(3,.sld 3 (sI l))],⟨by intro i hi;match i with|0=>rfl,by decide⟩,rfl,by (simp[cX,zC,hΓ,cN]),q,l,ac,by omega,by omega,by omega,hx,rfl,rfl,rfl⟩
theorem Tx(b:List UInt8)(hb:b.length≤2000)(p:Int)(h0:0≤p∧p < 900000000)(al n:Int)(hn:1≤n∧n < 1000):Bi Tryz.prog TB 253 1 [(0,BB b p)] 1 [.o (.ptr 0 2 0 0),eI .i64 al,eI .i64 n] (Oz b al p n):=by
 have hla:(Ac al).length≤6:=AM al 6
 refine Bi.A0 (Bi.Zq (m:=1) (Nat.le_of_ble_eq_true rfl) Tryz.func253 rfl (by kernel_rfl) (Nat.le_of_ble_eq_true rfl) ?_);intro Γ hΓ
 (repeat first|refine tA rfl ?_ |refine aU rfl ?_ |refine Aa ?_)
 (refine pW rfl ?_ rfl (by rfl);refine FO [0] rfl rfl 1 (JV b hb p h0 al n (by omega)) (by decide) ⟨rfl,by decide,by decide⟩ rfl (by simp[cX,zC,hΓ]) ?_;rintro x0 σ1 nx1 ⟨q,l,ac,hq,hl,hac,hx,rfl,rfl,rfl⟩ _)
 (repeat first|refine tA rfl ?_ |refine aU rfl ?_ |refine Aa ?_)
 refine aB ?_
 refine aL (α:={s:Nat×List Bool // (s.1:Int)≤n∧s.2.length=l.length}) [2,6,7] [1] rfl rfl (fun s=>[(8,eI .i64 s.1.1)]) (fun s=>[(0,BB b q),(2,.cells 75 1 (AA l)),(4,.sld 3 (sI l)),(3,.cells 4 1 (s.1.2.map AQ)),(5,.cells 41 3 [[.d (iD al),.arr 2 1 0 l.length,.arr 3 1 0 s.1.2.length]])]) 6 (fun s=>n.toNat - s.1.1) (⟨⟨0,ac⟩,by simp;omega⟩) hΓ rfl (by (simp[cX,zC,hΓ,cN])) ?_;rintro⟨⟨k,bc⟩,hk,hbc⟩;(try dsimp only[cA,cB])
 have hk:(k:Int)≤n:=hk
 have hbc:bc.length=l.length:=hbc
 (repeat first|refine tM rfl ?_ |refine s2 rfl fun _ _hb=>?_ |refine aU rfl ?_ |refine Aa ?_)
 ((refine aC rfl ?_ ?_<;>rintro⟨⟩);all_goals try (simp at _hb;done))
 ·have hlt:(k:Int) < n:=by (simp only[oZ] at *;omega)
  obtain⟨c,hc⟩:=get_some (l:=bc) (k:=0+(k:Int).toNat) (by omega)
  have hc':=get_map (g:=AQ) hc
  refine aK ?_
  refine aS (aB ?_)
  (repeat first|(refine sA rfl ?_ ?_;first|exact tI|omega) |refine t4 rfl ‹_› rfl ?_ |refine s2 rfl fun _ _hb=>?_ |refine aU rfl ?_ |refine Aa ?_)
  subst _hb
  refine⟨⟨⟨k+1,bc.set k (decide ((k:Int) < n - 1))⟩,by dsimp only;omega,by simp;omega⟩,by dsimp only;(omega),[0,1,2,3,4,5],?_⟩
  (simp[cX,zC,hΓ,cN,List.map_set,Aj,eC]<;>rfl)
 obtain⟨K,hK⟩:∃K:Nat,(K:Int)=n - 1:=⟨(n - 1).toNat,by omega⟩
 obtain⟨y,hy⟩:=get_some (l:=l) (k:=K) (by omega)
 refine aE ?_
 (repeat first|refine tA rfl ?_ |refine aU rfl ?_ |refine Aa ?_)
 refine aB ?_
 refine Ak.ZP 2 4 l K y hy rfl rfl ?_
 have hyl:y.2.length=(Ac al).length:=hx y (List.mem_of_getElem? hy)
 have hKK:((AA l).set K [.arr 6 1 0 y.2.length])[0+(n - 1).toNat]? = some [.arr 6 1 0 y.2.length]:=by
  rw [←hK,Nat.zero_add,Int.toNat_natCast,List.getElem?_set_self (by rw [BS];omega)]
 refine aL (α:={s:Nat×List Int // s.1≤y.2.length∧s.2.length=y.2.length}) [2,6,7] [0,1,2,3,4,5] rfl rfl (fun s=>[(9,eI .i64 s.1.1)]) (fun s=>[(6,.cells 3 1 (s.1.2.map AB))]) 7 (fun s=>y.2.length - s.1.1) (⟨⟨0,y.2⟩,by simp⟩) hΓ rfl (by (simp[cX,zC,hΓ,cN])) ?_;rintro⟨⟨j,ys⟩,hj,hys⟩;(try dsimp only[cA,cB])
 have hj:j≤y.2.length:=hj
 have hys:ys.length=y.2.length:=hys
 (repeat first|(refine sA rfl ?_ ?_;first|exact tI|omega) |refine t4 rfl ‹_› rfl ?_ |refine s2 rfl fun _ _hb=>?_ |refine aU rfl ?_ |refine Aa ?_)
 ((refine aC rfl ?_ ?_<;>rintro⟨⟩);all_goals try (simp at _hb;done))
 ·have hlt:j < y.2.length:=by (simp only[oZ] at *;omega)
  obtain⟨c,hc⟩:=get_some (l:=ys) (k:=0+(j:Int).toNat) (by omega)
  have hc':=get_map (g:=AB) hc
  refine aK ?_
  refine aS (aB ?_)
  (repeat first|(refine sA rfl ?_ ?_;first|exact tI|omega) |refine t4 rfl ‹_› rfl ?_ |refine aU rfl ?_ |refine Aa ?_)
  refine⟨⟨⟨j+1,ys.set j (n - 1)⟩,by dsimp only;omega,by simp;omega⟩,by dsimp only;(omega),[0,1,2,3,4,5,6],?_⟩
  (simp[cX,zC,hΓ,cN,List.map_set,Aj,eC]<;>rfl)
 refine aE ?_
 refine Ak.putAt 2 6 4 l K y hy ys (by rw [hys];rfl) rfl rfl fun v=>?_
 (repeat first|refine tA rfl ?_ |refine aU rfl ?_ |refine Aa ?_)
 have hx2:∀x∈l.set K (v,ys),x.2.length=(Ac al).length:=fun x hm=>by
  rcases List.mem_or_eq_of_mem_set hm with hm|hm
  ·exact hx x hm
  ·subst hm;exact hys.trans hyl
 refine aR ⟨_,rfl,[0,2,3,4],UL al 1 2 (l.set K (v,ys)).length bc.length,[(0,BB b q),(1,.cells 75 1 (AA (l.set K (v,ys)))),(2,.cells 4 1 (bc.map AQ)),(3,.sld 3 (sI (l.set K (v,ys))))],⟨by intro i hi;match i with|0=>rfl,by decide⟩,by rw [List.length_set];rfl,by (simp[cX,zC,hΓ,cN]),q,l.set K (v,ys),bc,by omega,by rw [List.length_set];omega,by rw [List.length_set];omega,hx2,rfl,rfl,rfl⟩
end Go.Am
