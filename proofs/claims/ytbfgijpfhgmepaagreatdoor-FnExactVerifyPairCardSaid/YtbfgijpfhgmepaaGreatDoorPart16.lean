/-
  Lists of words: copies, whether a word is in one.
-/
import Derived.Test.YtbfgijpfhgmepaaGreatDoorPart15
import Derived.Test.YtbfgijpfhgmepaaGreatDoorPart9
import Derived.Test.YtbfgijpfhgmepaaGreatDoorPart14
import Derived.Test.YtbfgijpfhgmepaaGreatDoorPart8
set_option linter.constructorNameAsVariable false
set_option linter.unusedSectionVars false
set_option linter.unusedSimpArgs false
set_option linter.unusedVariables false
namespace Go.Am
open Go Go.Proofs
set_option maxHeartbeats 1000000
attribute [local irreducible] AQ BS Lex Bc Av Spec
variable {TB:Bs}
theorem KB(l:List W)(h:l.length≤1048576):Spec Tryz.prog TB 157 [] 0 [CN l] (fun x σ nx=>x=.o (.arr 0 1 0 l.length)∧nx=1∧σ=[(0,.cells 9 1 (l.map Et))]):=by
 refine eN Tryz.func157 rfl (by kernel_rfl) rfl ?_;intro Γ hΓ
 (repeat first|refine aU rfl ?_)
 (refine Ai rfl ?_;refine Bx (fun _ _=>Bn rfl) rfl ?_)
 (repeat first|refine tM rfl ?_ |refine aU rfl ?_ |refine Aa ?_)
 (refine pW rfl ?_ rfl (by rfl);refine K6 rfl ?_;intro b0 hb0)
 (repeat first|refine Aa ?_)
 (refine aC rfl ?_ ?_<;>rintro⟨⟩)
 ·obtain rfl:l=[]:=by simpa using hb0 rfl
  (repeat first|refine aU rfl ?_)
  (refine pW rfl ?_ rfl (by rfl);refine Hb 1 9 ?_)
  (repeat first|refine Aa ?_)
  refine aR ⟨_,rfl,rfl,rfl,rfl⟩
 ·refine aK ?_
  (repeat first|refine aU rfl ?_)
  (refine pW rfl ?_ rfl (by rfl);refine BL rfl rfl rfl rfl (by simp) (by rfl) (by rfl) (by rfl) (by rfl) ?_)
  (repeat first|refine tM rfl ?_)
  (refine pW rfl ?_ rfl (by rfl);refine AH rfl rfl rfl (by first| (simp;done)|(simp;(omega))) rfl (by intro r hr;simp at hr;obtain⟨a,_,rfl⟩:=hr;rfl) (by rfl) (Nat.le_of_ble_eq_true rfl) (by simp;omega) ?_)
  (repeat first|refine tM rfl ?_ |refine Aa ?_)
  refine Av.names [1] [(2,.o (.arr 0 1 0 l.length))] [(0,.cells 9 1 (l.map Et))] (by intro i hi;rw [hΓ] at hi;omega) (by simp) (by simp[cX,zC,hΓ]) (by simp[cX,zC,hΓ]) ?_
  refine aR ⟨_,rfl,rfl,rfl,rfl⟩
theorem bJ(l:List W)(s:W):Pure Tryz.prog TB 209 [CN l,eT s] (eI .i64 (if s∈l then (l.idxOf s:Int) else -1)):=by
 refine eN Tryz.func209 rfl (by kernel_rfl) rfl ?_;intro Γ hΓ
 refine Av.bound 0 rfl fun hB0=>?_
 have hB:=hB0 (l.map DZ) .refl
 (repeat first|refine sN rfl ?_ |refine tM rfl ?_ |refine aU rfl ?_ |refine Aa ?_)
 refine aB ?_
 refine Av.AO (α:={k:Nat // k≤l.length∧s∉l.take k}) (fun ⟨k,hk,hs⟩=>[(0,CN l),(1,eT s),(7,eI .i64 l.length),(8,eI .i64 k)]) (fun ⟨k,hk,hs⟩=>[]) 0 (fun ⟨k,hk,hs⟩=>l.length - k) (⟨0,by omega,by simp⟩) [] (Dd hΓ rfl rfl) (by (simp[cX,zC,hΓ])) ?_;rintro⟨k,hk,hs⟩;(try dsimp only)
 (repeat first|refine s2 rfl fun _ _hb=>?_ |refine aU rfl ?_ |refine Aa ?_)
 (refine aC rfl ?_ ?_<;>rintro⟨⟩)
 ·have hlt:k < l.length:=by (simp only[oZ] at *;omega)
  obtain⟨x,hx⟩:=get_some (l:=l) (k:=k) hlt
  have hx':=get_map (g:=DZ) hx
  refine aK ?_
  refine aS (aB ?_)
  (repeat first|refine tM rfl ?_ |(refine s4 rfl ‹_› rfl ?_ ?_;omega) |refine s2 rfl fun _ _hb=>?_ |refine aU rfl ?_ |refine Aa ?_)
  (refine aC rfl ?_ ?_<;>rintro⟨⟩)
  ·have he:s=x:=by (simp only[oZ] at *;omega)
   subst he
   (repeat first|refine tM rfl ?_ |refine aU rfl ?_ |refine Aa ?_)
   refine aR ⟨_,rfl,?_⟩
   have hm:s∈l:=List.mem_of_getElem? hx
   have hi:l.idxOf s=k:=by
    have e:l=l.take k++s::l.drop (k+1):=by rw [←Bl hx,List.take_append_drop]
    rw [e,List.idxOf_append,if_neg hs,List.idxOf_cons_self]
    simp;omega
   rw [if_pos hm,hi]
  ·have he:¬s=x:=by simpa using _hb
   have hs2:s∉l.take (k+1):=by
    rw [List.take_add_one,hx]
    simp [hs,he]
   refine aK ?_
   (repeat first|(refine sM rfl ?_ ?_;first|exact tI|simp only[oZ] at *;omega) |refine aU rfl ?_ |refine Aa ?_)
   refine⟨⟨k+1,by omega,hs2⟩,by dsimp only;(omega),[],?_⟩
   simp[cX,zC,hΓ]
 ·obtain rfl:k=l.length:=by (simp only[oZ] at *;omega)
  rw [List.take_length] at hs
  refine aE ?_
  (repeat first|refine tM rfl ?_ |refine aU rfl ?_ |refine Aa ?_)
  refine aR ⟨_,rfl,?_⟩
  rw [if_neg hs]
theorem MP(l:List W)(s:W):Pure Tryz.prog TB 167 [CN l,eT s] (eB (decide (s∈l))):=by
 refine eN Tryz.func167 rfl (by kernel_rfl) rfl ?_;intro Γ hΓ
 (repeat' first|refine tA rfl ?_ |refine s2 rfl fun _ _hb=>?_ |refine sP rfl (bJ l s) rfl ?_ |refine aU rfl ?_ |refine Aa ?_|(refine aC rfl ?_ ?_<;>rintro⟨⟩)|refine aK ?_|refine aE ?_|refine aB ?_|refine aR ⟨_,rfl,?_⟩)
 all_goals (show E.o _=E.o _;congr;subst _hb;by_cases h:s∈l<;>simp [h])
def Fq(t:AT)(col:W):Option AT:=if t.cols.length=20∨col∈t.cols then none else some ⟨t.rows,t.cols++[col]⟩
def Iv(o:Option AT):E:=match o with
 | some t=>.t [(true,[.d (Cf t.rows),.d (Cf t.cols)]),(false,[.d (bD true)])]
 | none=>.t [(true,[.d (.l []),.d (.l [])]),(false,[.d (bD false)])]
theorem RR(t:AT)(col:W)(hr:t.rows.length≤4096)(hcl:t.cols.length≤4096):Pure Tryz.prog TB 114 [DO t,eT col] (Iv (Fq t col)):=by
 have hc1:=KB (TB:=TB) t.rows (by omega)
 have hc2:=KB (TB:=TB) t.cols (by omega)
 refine AG.Ho (AG.ofM 2 (Nat.le_refl _) Tryz.func114 rfl rfl (by kernel_rfl) (Nat.le_of_ble_eq_true rfl) ?_);intro Γ hΓ
 (repeat first|refine aU rfl ?_)
 (refine Ai rfl ?_;refine Bx (fun _ _=>CW rfl rfl rfl) rfl ?_)
 (repeat first|refine sN rfl ?_ |refine tM rfl ?_ |refine s2 rfl fun _ _hb=>?_ |(refine sC rfl (MP t.cols col) ?_;intro _ _hb) |refine s3 rfl ?_ ?_<;>rintro rfl |refine aU rfl ?_ |refine Aa ?_)
 ·(refine aC rfl ?_ ?_<;>rintro⟨⟩)
  have hn:Fq t col=none:=by unfold Fq;rw [if_pos (.inl (by (simp only[oZ] at *;omega)))]
  (repeat first|refine tM rfl ?_|(refine Ai rfl ?_;refine gA rfl ?_;first| refine gS (fun _ _=>AU rfl rfl (by rfl) (by rfl)) ?_) |refine aU rfl ?_ |refine Aa ?_)
  refine Av.freeze [0] [(4,.o (.ip [.l [],.l []])),(5,eB false)] ⟨⟨_,rfl,.o (.ptr (by simp) rfl rfl rfl)⟩,⟨_,rfl,.AD⟩,trivial⟩ ?_
  refine aR ⟨_,rfl,?_⟩
  rw [hn];rfl
 (repeat first|refine tM rfl ?_ |(refine sC rfl (MP t.cols col) ?_;intro _ _hb) |refine Aa ?_)
 (refine aC rfl ?_ ?_<;>rintro⟨⟩)
 ·have hn:Fq t col=none:=by unfold Fq;rw [if_pos (.inr (by (simp only[oZ] at *;omega)))]
  (repeat first|refine tM rfl ?_|(refine Ai rfl ?_;refine gA rfl ?_;first| refine gS (fun _ _=>AU rfl rfl (by rfl) (by rfl)) ?_) |refine aU rfl ?_ |refine Aa ?_)
  refine Av.freeze [0] [(4,.o (.ip [.l [],.l []])),(5,eB false)] ⟨⟨_,rfl,.o (.ptr (by simp) rfl rfl rfl)⟩,⟨_,rfl,.AD⟩,trivial⟩ ?_
  refine aR ⟨_,rfl,?_⟩
  rw [hn];rfl
 ·refine aK ?_
  refine aS ?_
  refine rG (mu [0,1,3,4,6,7,2,5,8,9,10,11] [2,5,8,10] [0,1,3,4,6,7]) (by kernel_rfl) ?_
  (repeat first|refine tA rfl ?_)
  (refine pW rfl ?_ rfl (by rfl);refine Bq [] rfl rfl hc1 ⟨rfl,by simp,by simp⟩ rfl trivial ?_;rintro x0 σ1 nx1 ⟨rfl,rfl,rfl⟩ _)
  (refine pW rfl ?_ rfl (by rfl);refine Bq [] rfl rfl hc2 ⟨rfl,by simp,by simp⟩ rfl trivial ?_;rintro x0 σ1 nx1 ⟨rfl,rfl,rfl⟩ _)
  (refine pW rfl ?_ rfl (by rfl);refine AH rfl rfl rfl (by first| (simp;done)|(simp;(omega))) rfl (by intro r hr;simp at hr;subst hr;rfl) (by rfl) (Nat.le_of_ble_eq_true rfl) (by simp;omega) ?_)
  (repeat first|refine tA rfl ?_|(refine Ai rfl ?_;refine gA rfl ?_;first| refine gS (fun _ _=>AU rfl rfl (by rfl) (by rfl)) ?_) |refine Aa ?_)
  have hnm:col∉t.cols:=by simpa using _hb
  have hn:Fq t col=some ⟨t.rows,t.cols++[col]⟩:=by
   unfold Fq
   rw [if_neg]
   rintro(h|h)
   ·(simp only[oZ] at *;omega)
   ·exact hnm h
  refine Av.names [0,1,3] [(4,.o (.ptr 0 2 0 0)),(5,eB true)] [(0,.cells 99 2 [[.arr 1 1 0 t.rows.length,.arr 2 1 0 (t.cols.length+1)]]),(1,.cells 9 1 (t.rows.map Et)),(2,.cells 9 1 ((t.cols++[col]).map Et))] (by intro i hi;rw [hΓ] at hi;omega) (by simp) (by simp[cX,zC,hΓ,Iw]) (by simp[cX,zC,hΓ,Iw,Ab.A1,BK,Bp,eC,Af]) ?_
  refine Av.NR [1,2] [(4,.o (.ptr 0 2 0 0)),(5,eB true)] [(0,.cells 99 2 [[.d (Cf t.rows),.d (Cf (t.cols++[col]))]])] ⟨⟨_,rfl,.AD⟩,⟨_,rfl,.AD⟩,trivial⟩ ⟨⟨_,rfl,by simp,.cons (.full (by simp) rfl (by simp [Function.comp_def]) (by simp)) (.cons (.full (by simp) rfl (by simp [Function.comp_def]) (by simp)) .nil)⟩,trivial⟩ ?_
  refine Av.freeze [0] [(4,.o (.ip [Cf t.rows,Cf (t.cols++[col])])),(5,eB true)] ⟨⟨_,rfl,.o (.ptr (by simp) rfl rfl rfl)⟩,⟨_,rfl,.AD⟩,trivial⟩ ?_
  refine aR ⟨_,rfl,?_⟩
  rw [hn];rfl
structure GN (al:Int) (b:Nat) (t:AT):Prop where
 onR:∀w∈t.rows,AM (A0 al) w∧w.length≤b
 onC:∀x∈t.cols,AM (A0 al) x∧x.length≤20000
 rl:t.rows.length≤12
 cl:t.cols.length≤20
def RO(ok:W→Prop)(al:Int):Prop:=∀w,AM (A0 al) w→w.length≤50000→ok w
def MM(ls:List UInt8)(t:AT)(v:W):Prop:=∃r∈t.rows,∃m:W,(m=[]∨∃l∈ls,m=[l])∧∃x:W,(x=[]∨x∈t.cols)∧v=r++m++x
def II(ok:W→Prop)(ls:List UInt8)(t:AT):Prop:=∀v,MM ls t v→ok v
def ED(L:W→Bool)(ls:List UInt8):Nat→AT→List AT
 | 0,t=>[t]
 | n+1,t=>t::match A8 L ls t with
  | none=>[]
  | some w=>if t.rows.length=12 then [] else ED L ls n ⟨t.rows++[w],t.cols⟩
theorem Wh{L:W→Bool}{ls:List UInt8}{n:Nat}{t:AT}:t∈ED L ls n t:=by cases n<;>simp [ED]
theorem GN.gT{ok:W→Prop}{al:Int}{b:Nat}{t:AT}(h:GN al b t)(hf:II ok (A0 al) t)(hb:b≤20100):aD ok t∧∀w∈t.rows,∀l∈A0 al,∀x∈t.cols,ok (w++[l]++x):=
  ⟨⟨fun w hw x hx=>hf _ ⟨w,hw,[],.inl rfl,x,.inr hx,by simp⟩,fun w hw=>by have:=(h.onR w hw).2;omega,fun x hx=>by have:=(h.onC x hx).2;omega,by have:=h.rl;omega,by have:=h.cl;omega⟩,
   fun w hw l hl x hx=>hf _ ⟨w,hw,[l],.inr ⟨l,hl,rfl⟩,x,.inr hx,rfl⟩⟩
theorem GN.on{ok:W→Prop}{al:Int}{b:Nat}{t:AT}(h:GN al b t)(hf:RO ok al)(hb:b≤20100):II ok (A0 al) t:=by
 rintro v ⟨r,hr,m,hm,x,hx,rfl⟩
 have h1:=h.onR r hr
 have h2:AM (A0 al) m∧m.length≤1:=by
  rcases hm with rfl|⟨l,hl,rfl⟩
  ·exact⟨fun c hc=>by simp at hc,by simp⟩
  ·exact⟨fun c hc=>by simp at hc;subst hc;exact hl,by simp⟩
 have h3:AM (A0 al) x∧x.length≤20000:=by
  rcases hx with rfl|hx
  ·exact⟨fun c hc=>by simp at hc,by simp⟩
  ·exact h.onC x hx
 refine hf _ (fun c hc=>?_) (by simp;omega)
 simp only [List.mem_append] at hc
 rcases hc with (hc|hc)|hc
 ·exact h1.1 c hc
 ·exact h2.1 c hc
 ·exact h3.1 c hc
theorem GN.push{L:W→Bool}{al:Int}{b:Nat}{t:AT}{w:W}(h:GN al b t)(ho:A8 L (A0 al) t=some w)(hl:t.rows.length < 12):GN al (b+1) ⟨t.rows++[w],t.cols⟩:=by
 obtain⟨⟨r,hr,l,hl2,rfl⟩,_⟩:=Ik ho
 refine⟨fun u hu=>?_,h.onC,by simp;omega,h.cl⟩
 rcases List.mem_append.1 hu with hu|hu
 ·have:=h.onR u hu;exact⟨this.1,by omega⟩
 ·simp at hu
  subst hu
  have:=h.onR r hr
  refine⟨fun c hc=>?_,by simp;omega⟩
  rcases List.mem_append.1 hc with hc|hc
  ·exact this.1 c hc
  ·simp at hc;subst hc;exact hl2
theorem GN.grow{L:W→Bool}{al:Int}:∀ {n b:Nat} {t y:AT},GN al b t→y∈ED L (A0 al) n t→GN al (b+n) y
 | 0,b,t,y,h,hy=>by simp [ED] at hy;subst hy;exact h
 | n + 1, b,t,y,h,hy=>by
  have hm:∀ {b':Nat} {z:AT},b'≤b+(n+1)→GN al b' z→GN al (b+(n+1)) z:=fun hb hz=>⟨fun w hw=>⟨(hz.onR w hw).1,Nat.le_trans (hz.onR w hw).2 hb⟩,hz.onC,hz.rl,hz.cl⟩
  unfold ED at hy
  rcases List.mem_cons.1 hy with rfl|hy
  ·exact hm (by omega) h
  ·cases ho:A8 L (A0 al) t with
   | none=>rw [ho] at hy;simp at hy
   | some w=>
    rw [ho] at hy
    dsimp only at hy
    split at hy
    ·simp at hy
    ·have:=h.rl
     exact hm (by omega) (GN.grow (h.push ho (by omega)) hy)
theorem GN.mB{L:W→Bool}{ok:W→Prop}{al:Int}{b:Nat}{t:AT}(h:GN al b t)(hf:RO ok al)(hb:b≤20000):∀y∈ED L (A0 al) 13 t,II ok (A0 al) y:=fun y hy=>(h.grow hy).on hf (by omega)
theorem IP{c:C}{L:W→Bool}{ok:W→Prop}(hc:JH Tryz.prog TB c L ok)(al:Int)(t:AT)(hf:∀y∈ED L (A0 al) 13 t,II ok (A0 al) y)(ht:GN al 20000 t) :
 Pure Tryz.prog TB 107 [IT al c,DO t] (Iv (Bd L (A0 al) 13 t)):=by
 have hr:=EK c hc.BW
 have hrl:=ht.rl
 have hcl:=ht.cl
 have hc1:=KB (TB:=TB) t.rows (by omega)
 have hc2:=KB (TB:=TB) t.cols (by omega)
 refine AG.Ho (AG.ofM 2 (Nat.le_refl _) Tryz.func107 rfl rfl (by kernel_rfl) (Nat.le_of_ble_eq_true rfl) ?_);intro Γ hΓ
 (repeat first|refine aU rfl ?_)
 (refine pW rfl ?_ rfl (by rfl);refine Di rfl rfl ?_)
 (refine Ai rfl ?_;refine Bx (fun _ _=>CW rfl rfl rfl) rfl ?_)
 (repeat first|refine tM rfl ?_ |refine aU rfl ?_ |refine Aa ?_)
 refine R.Pf [(7,3),(0,2),(1,2),(3,2),(4,2),(2,1),(5,1),(6,0),(8,5)] mixed (by kernel_rfl) rfl (by kernel_rfl) ?_
 (repeat ((refine R.Ai rfl ?_;first|(refine R.yQ (md:=false) rfl rfl rfl ?_ ?_;exact tI) |refine R.yP rfl rfl rfl rfl ?_ )))
 (refine R.Ai rfl ?_;refine R.NC (fun _=>?_) rfl rfl;refine Bq [] rfl rfl hc1 ⟨rfl,by simp,by simp⟩ rfl trivial ?_;rintro x0 σ1 nx1 ⟨rfl,rfl,rfl⟩ _)
 (refine R.Ai rfl ?_;refine R.NC (fun _=>?_) rfl rfl;refine Bq [] rfl rfl hc2 ⟨rfl,by simp,by simp⟩ rfl trivial ?_;rintro x0 σ1 nx1 ⟨rfl,rfl,rfl⟩ _)
 (repeat ((refine R.Ai rfl ?_;first|refine R.yA rfl rfl rfl rfl ?_|refine R.Bx (fun _ _ _=>AU rfl rfl (by rfl) (by rfl)) rfl rfl ?_ )))
 refine R.OT ?_
 refine aB ?_
 have hz:∀x:AT,A8 L (A0 al) x=none∨∃w,A8 L (A0 al) x=some w:=fun x=>by cases A8 L (A0 al) x<;>simp
 refine Av.AO (α:={p:Nat×AT // p.1≤13∧13≤p.1+p.2.rows.length∧GN al (20000+p.2.rows.length) p.2∧Bd L (A0 al) 13 t=Bd L (A0 al) p.1 p.2∧∀y∈ED L (A0 al) p.1 p.2,II ok (A0 al) y}) (fun ⟨⟨m,u⟩,hm,hmu,hu,he,hgr⟩=>[(2,.o (.ptr 0 2 0 0)),(4,.o (.ptr 1 2 0 0)),(6,.o (.ptr 4 2 0 0))]) (fun ⟨⟨m,u⟩,hm,hmu,hu,he,hgr⟩=>[(0,.cells 92 2 [[.d (iD al),c]]),(1,.cells 99 2 [[.d (.l []),.d (.l [])]]),(2,.cells 9 1 (u.rows.map Et)),(3,.cells 9 1 (u.cols.map Et)),(4,.cells 99 2 [[.arr 2 1 0 u.rows.length,.arr 3 1 0 u.cols.length]])]) 5 (fun ⟨⟨m,u⟩,hm,hmu,hu,he,hgr⟩=>m) (⟨(13,t),by simp,by simp,⟨fun w hw=>⟨(ht.onR w hw).1,by have:=(ht.onR w hw).2;omega⟩,ht.onC,ht.rl,ht.cl⟩,rfl,hf⟩) [0,1,2,3,4] (Dd hΓ rfl rfl) (by (simp[cX,zC,hΓ,hr,eC,Ab.A1,BK,Iw,Bp,Af])) ?_;rintro⟨⟨m,u⟩,hm,hmu,hu,he,hgr⟩;(try dsimp only)
 dsimp only at hm hmu hu he hgr
 have htk:∀l:List W,((l.map Et).drop 0).take l.length=(l.map DZ).map (fun r=>r.map C.d):=fun l=>by rw [List.drop_zero,List.take_of_length_le (by simp)];simp [Function.comp_def]
 have hur:=hu.rl
 have huc:=hu.cl
 have hask:=hu.gT (hgr u Wh) (by omega)
 have hfo:=Sf (TB:=TB) hc al u hask.1 hask.2
 have hev:gF [(0,.cells 92 2 [[.d (iD al),c]]),(1,.cells 99 2 [[.d (.l []),.d (.l [])]]),(2,.cells 9 1 (u.rows.map Et)),(3,.cells 9 1 (u.cols.map Et)),(4,.cells 99 2 [[.arr 2 1 0 u.rows.length,.arr 3 1 0 u.cols.length]])] [.a [.d (iD al),c],.a [.arr 2 1 0 u.rows.length,.arr 3 1 0 u.cols.length]] [IT al c,DO u]:=
  .cons (.cons (.pure rfl) (.cons (.pure hc.BW) .nil)) (.cons (.cons (.arr rfl (by simp) (htk _)) (.cons (.arr rfl (by simp) (htk _)) .nil)) .nil)
 refine aB ?_
 rcases hz u with ho|⟨w,ho⟩
 ·rw [ho] at hfo
  (repeat first|refine tM rfl ?_ |refine s2 rfl fun _ _hb=>?_|(refine Ai rfl ?_;refine gA rfl ?_;first| refine gQ (Im rfl rfl (hev) (hfo) rfl) rfl ?_) |refine aU rfl ?_ |refine Aa ?_)
  (refine aC rfl ?_ ?_<;>rintro⟨⟩)
  ·(repeat first|refine tM rfl ?_ |refine aU rfl ?_ |refine Aa ?_)
   have hn:Bd L (A0 al) 13 t=some u:=by
    rw [he]
    obtain⟨m',rfl⟩:∃m',m=m'+1:=⟨m - 1,by omega⟩
    simp [Bd,ho]
   refine Av.names [1,2,3] [(4,.o (.ptr 0 2 0 0)),(5,eB true)] [(0,.cells 99 2 [[.arr 1 1 0 u.rows.length,.arr 2 1 0 u.cols.length]]),(1,.cells 9 1 (u.rows.map Et)),(2,.cells 9 1 (u.cols.map Et))] (by intro i hi;rw [hΓ] at hi;omega) (by simp) (by simp[cX,zC,hΓ,Iw]) (by simp[cX,zC,hΓ,Iw,Ab.A1,BK,Bp,eC,Af]) ?_
   refine Av.NR [1,2] [(4,.o (.ptr 0 2 0 0)),(5,eB true)] [(0,.cells 99 2 [[.d (Cf u.rows),.d (Cf u.cols)]])] ⟨⟨_,rfl,.AD⟩,⟨_,rfl,.AD⟩,trivial⟩ ⟨⟨_,rfl,by simp,.cons (.full (by simp) rfl (by simp [Function.comp_def]) (by simp)) (.cons (.full (by simp) rfl (by simp [Function.comp_def]) (by simp)) .nil)⟩,trivial⟩ ?_
   refine Av.freeze [0] [(4,.o (.ip [Cf u.rows,Cf u.cols])),(5,eB true)] ⟨⟨_,rfl,.o (.ptr (by simp) rfl rfl rfl)⟩,⟨_,rfl,.AD⟩,trivial⟩ ?_
   refine aR ⟨_,rfl,?_⟩
   rw [hn];rfl
  ·simp at _hb
 ·rw [ho] at hfo
  (repeat first|refine tM rfl ?_ |refine s2 rfl fun _ _hb=>?_|(refine Ai rfl ?_;refine gA rfl ?_;first| refine gQ (Im rfl rfl (hev) (hfo) rfl) rfl ?_) |refine aU rfl ?_ |refine Aa ?_)
  (refine aC rfl ?_ ?_<;>rintro⟨⟩)
  ·simp at _hb
  ·refine aK ?_
   (repeat first|refine tM rfl ?_ |refine s2 rfl fun _ _hb=>?_ |refine aU rfl ?_ |refine Aa ?_)
   (refine aC rfl ?_ ?_<;>rintro⟨⟩)
   ·(repeat first|refine tM rfl ?_|(refine Ai rfl ?_;refine gA rfl ?_;first| refine gS (fun _ _=>AU rfl rfl (by rfl) (by rfl)) ?_) |refine aU rfl ?_ |refine Aa ?_)
    have hn:Bd L (A0 al) 13 t=none:=by
     have h12:u.rows.length=12:=by (simp only[oZ] at *;omega)
     rw [he]
     obtain⟨m',rfl⟩:∃m',m=m'+1:=⟨m - 1,by omega⟩
     simp [Bd,ho,h12]
    refine Av.freeze [1] [(4,.o (.ip [.l [],.l []])),(5,eB false)] ⟨⟨_,rfl,.o (.ptr (by simp) rfl rfl rfl)⟩,⟨_,rfl,.AD⟩,trivial⟩ ?_
    refine aR ⟨_,rfl,?_⟩
    rw [hn];rfl
   ·refine aK ?_
    have hlt:u.rows.length < 12:=by (simp only[oZ] at *;omega)
    obtain⟨m',rfl⟩:∃m',m=m'+1:=⟨m - 1,by omega⟩
    have hn:Bd L (A0 al) 13 t=Bd L (A0 al) m' ⟨u.rows++[w],u.cols⟩:=by
     rw [he]
     conv=>lhs;unfold Bd
     rw [ho]
     dsimp only
     rw [if_neg (by omega)]
    have hp:=hu.push ho hlt
    (repeat first|refine tA rfl ?_ |refine aU rfl ?_)
    (refine pW rfl ?_ rfl (by rfl);refine AH rfl rfl rfl (by first| (simp;done)|(simp;(omega))) rfl (by intro r hr;simp at hr;subst hr;rfl) (by rfl) (Nat.le_of_ble_eq_true rfl) (by simp;omega) ?_)
    (repeat first|refine tM rfl ?_ |refine Aa ?_)
    refine⟨⟨⟨m',⟨u.rows++[w],u.cols⟩⟩,by dsimp only;omega,by simp;omega,by simpa [Nat.add_assoc] using hp,hn,fun y hy=>hgr y (by unfold ED;rw [ho];dsimp only;rw [if_neg (by omega)];exact List.mem_cons_of_mem _ hy)⟩,by dsimp only;(omega),[0,1,5,3,4],?_⟩
    simp[cX,zC,hΓ,hr,eC,Ab.A1,BK,Iw,Bp,Af]
def Bj:AT:=⟨[[]],[[]]⟩
theorem JD(al:Int):GN al 20000 Bj:=by
 refine⟨fun w hw=>?_,fun w hw=>?_,by decide,by decide⟩<;>(simp [Bj] at hw;subst hw;exact⟨fun c hc=>by simp at hc,by simp⟩)
theorem SC{c:C}{L:W→Bool}{ok:W→Prop}(hc:JH Tryz.prog TB c L ok)(al:Int)(hf:∀y∈ED L (A0 al) 13 Bj,II ok (A0 al) y) :
 Pure Tryz.prog TB 60 [IT al c] (Iv (Bd L (A0 al) 13 Bj)):=by
 have hr:=EK c hc.BW
 have h:=IP hc al Bj hf (JD al)
 refine AG.Ho (AG.ofM 2 (Nat.le_refl _) Tryz.func60 rfl rfl (by kernel_rfl) (Nat.le_of_ble_eq_true rfl) ?_);intro Γ hΓ
 generalize Bd L (A0 al) 13 Bj=o at h ⊢
 (repeat first|refine aU rfl ?_)
 (refine pW rfl ?_ rfl (by rfl);refine Di rfl rfl ?_)
 (repeat first|refine tM rfl ?_ |refine aU rfl ?_ |refine Aa ?_)
 have hpu:([IT al c,DO Bj].all E.BW && C.C6 [])=true:=by simp [IT,DO,E.BW,C.C6,C.BW,hc.BW]
 cases o with
 | none=>
  (repeat first|refine tA rfl ?_|(refine Ai rfl ?_;refine gA rfl ?_;first| refine gS (fun _ _=>AN rfl rfl hpu h rfl) ?_|refine gS (fun _ _=>AU rfl rfl (by rfl) (by rfl)) ?_) |refine Aa ?_)
  refine Av.freeze [1] [(2,.o (.ip [.l [],.l []])),(3,eB false)] ⟨⟨_,rfl,.o (.ptr (by simp) rfl rfl rfl)⟩,⟨_,rfl,.AD⟩,trivial⟩ ?_
  refine aR ⟨_,rfl,?_⟩
  rfl
 | some u=>
  (repeat first|refine tA rfl ?_|(refine Ai rfl ?_;refine gA rfl ?_;first| refine gS (fun _ _=>AN rfl rfl hpu h rfl) ?_|refine gS (fun _ _=>AU rfl rfl (by rfl) (by rfl)) ?_) |refine Aa ?_)
  refine Av.freeze [1] [(2,.o (.ip [Cf u.rows,Cf u.cols])),(3,eB true)] ⟨⟨_,rfl,.o (.ptr (by simp) rfl rfl rfl)⟩,⟨_,rfl,.AD⟩,trivial⟩ ?_
  refine aR ⟨_,rfl,?_⟩
  rfl
def AR(L:W→Bool)(al:Int)(t:AT):AZ:=⟨al,t.rows.map fun r=>(Ac al).map fun l=>((C1 L t (r++[lb l]):Nat):Int),t.rows.map L⟩
theorem Uo{L:W→Bool}{al:Int}{t:AT}(ho:A8 L (A0 al) t=none){r:W}(hr:r∈t.rows){l:Int}(hl:l∈Ac al) :
 (CJ (BN L t t.rows.length) (marks L t.cols (r++[lb l]))).getD 0=((C1 L t (r++[lb l]):Nat):Int):=by
 have hm:marks L t.cols (r++[lb l])∈AE L t:=by
  have:=List.find?_eq_none.1 ho (r++[lb l]) (by
   unfold CE
   exact List.mem_flatMap.2 ⟨r,hr,List.mem_map.2 ⟨lb l,List.mem_map.2 ⟨l,hl,rfl⟩,rfl⟩⟩)
  simpa using this
 rw [UA,if_pos hm]
 rfl
end Go.Am
namespace Go.Am
set_option linter.unusedVariables false
theorem ZG(L:W→Bool)(cols:List W)(v w:W):marks L (cols++[v]) w=marks L cols w++[QW (L (w++v))]:=by simp [marks]
theorem BQ.row{L:W→Bool}{ls:List UInt8}{t:AT}(h:BQ L ls t){i j:Nat}{r s:W}(hi:t.rows[i]? = some r)(hj:t.rows[j]? = some s)(he:marks L t.cols r=marks L t.cols s):i=j:=by
 have h1:(AE L t)[i]? = some (marks L t.cols r):=by simp [AE,hi]
 have h2:(AE L t)[j]? = some (marks L t.cols r):=by simp [AE,hj,he]
 have l1:=(List.getElem?_eq_some_iff.1 h1).1
 have l2:=(List.getElem?_eq_some_iff.1 h2).1
 have e1:=(List.getElem?_eq_some_iff.1 h1).2
 have e2:=(List.getElem?_eq_some_iff.1 h2).2
 have hp:=List.pairwise_iff_getElem.1 h.nd
 rcases Nat.lt_trichotomy i j with h3|h3|h3
 ·exact absurd (e1.trans e2.symm) (hp i j l1 l2 h3)
 ·exact h3
 ·exact absurd (e2.trans e1.symm) (hp j i l2 l1 h3)
structure Split (L:W→Bool) (ls:List UInt8) (t:AT) (u v:W):Prop where
 suf:∃p,p≠[]∧u=p++v
 new:v∉t.cols
 opens:∃r∈t.rows,∃c∈ls,marks L (t.cols++[v]) (r++[c])∉AE L ⟨t.rows,t.cols++[v]⟩
theorem U8{L:W→Bool}{ls:List UInt8}{t:AT}(h:BQ L ls t)(b:Bool):∀(u:W) (i:Nat) (r:W),AM ls u→t.rows[i]? = some r→L (r++u)=b→L (t.rows.getD (runM L t i u) [])≠b→∃v,splitAt L t b i u=some v∧Split L ls t u v
 | [],i,r,_,hi,hb,hn=>by
  have h1:t.rows.getD i []=r:=by simp [hi]
  rw [List.append_nil] at hb
  exact absurd (by show L (t.rows.getD i [])=b;rw [h1];exact hb) hn
 | c :: v,i,r,hu,hi,hb,hn=>by
  have hc:c∈ls:=hu c (by simp)
  have hgd:t.rows.getD i []=r:=by simp [hi]
  obtain⟨r',h1,h2⟩:=h.idx hi hc
  have hgd':t.rows.getD (C1 L t (r++[c])) []=r':=by simp [h1]
  unfold splitAt
  rw [hgd,hgd']
  by_cases hv:L (r'++v)≠b
  ·rw [if_pos hv]
   have hrc:r++c::v=(r++[c])++v:=by simp
   have hne:L ((r++[c])++v)≠L (r'++v):=by rw [←hrc,hb];exact fun e=>hv e.symm
   refine⟨v,rfl,⟨[c],by simp,rfl⟩,fun hm=>hne ((bT.1 h2 v hm).symm),r,List.mem_of_getElem? hi,c,hc,fun hm=>?_⟩
   unfold AE at hm
   obtain⟨s,hs,he⟩:=List.mem_map.1 hm
   simp only [ZG] at he
   obtain⟨e1,e2⟩:=List.append_inj' he rfl
   obtain⟨q,hq,hqe⟩:=List.getElem_of_mem hs
   have hsq:t.rows[q]? = some s:=by rw [List.getElem?_eq_getElem hq,hqe]
   have:=h.row hsq h1 (e1.trans h2.symm)
   subst this
   rw [hsq] at h1
   injection h1 with h1
   subst h1
   have e3:QW (L (s++v))=QW (L (r++[c]++v)):=by simpa using e2
   exact hne (X6 e3).symm
  ·rw [if_neg hv]
   have hv':L (r'++v)=b:=by simpa using hv
   have hn':L (t.rows.getD (runM L t (C1 L t (r++[c])) v) [])≠b:=by
    have:runM L t i (c::v)=runM L t (C1 L t (r++[c])) v:=by show runM L t (C1 L t (t.rows.getD i []++[c])) v=_;rw [hgd]
    rwa [this] at hn
   obtain⟨w,h3,⟨p,hp,h4⟩,h5,h6⟩:=U8 h b v _ r' (fun x hx=>hu x (by simp [hx])) h1 hv' hn'
   exact⟨w,h3,⟨c::p,by simp,by rw [h4];rfl⟩,h5,h6⟩
theorem fk{L:W→Bool}{ls:List UInt8}{t:AT}{r:W}{c:UInt8}(hr:r∈t.rows)(hc:c∈ls)(hm:marks L t.cols (r++[c])∉AE L t):A8 L ls t≠none:=fun h=>hm (GF h r hr c hc)
def Nt(L:W→Bool)(t:AT)(w:W):Bool:=L (t.rows.getD (runM L t 0 w) [])
def kl(L:W→Bool)(ls:List UInt8)(t:AT)(w:W):Option AT:=(splitAt L t (L w) 0 w).bind fun v=>Bd L ls 13 ⟨t.rows,t.cols++[v]⟩
structure Next (L:W→Bool) (ls:List UInt8) (t:AT) (w v:W) (t':AT):Prop where
 split:splitAt L t (L w) 0 w=some v
 close:Bd L ls 13 ⟨t.rows,t.cols++[v]⟩=some t'
 next:kl L ls t w=some t'
 ok:BQ L ls t'
 cols:t'.cols=t.cols++[v]
 new:v∉t.cols
 suf:∃p,p≠[]∧w=p++v
 more:t.rows.length < t'.rows.length
 pre:t.rows <+: t'.rows
structure Wr (L:W→Bool) (ls:List UInt8) (wr:AT→Option W):Prop where
 on:∀t w,wr t=some w→BQ L ls t→AM ls w∧Nt L t w≠L w
def E9(a:AZ):Int→W→Int
 | q,[]=>q
 | q,c::w=>E9 a (Cs a q.toNat ((c.toNat:Int) - 97)) w
def LA(a:AZ)(w:W):Bool:=a.ac.getD (E9 a 0 w).toNat false
theorem UP(a:AZ):∀(u w:W) (q:Int),E9 a q (u++w)=E9 a (E9 a q u) w
 | [],_,_=>rfl
 | c::u,w,q=>UP a u w _
theorem Ml{l:Int}(h0:0≤l)(h1:l < 6):((lb l).toNat:Int) - 97=l:=by
 unfold lb
 have:(97+l.toNat) % 256=97+l.toNat:=by omega
 simp [this]
 omega
theorem Ii{al:Int}{c:UInt8}(h:c∈A0 al):0≤(c.toNat:Int) - 97∧(c.toNat:Int) - 97 < 6:=by
 obtain⟨l,hl,rfl⟩:=List.mem_map.1 h
 have h1:=Ak hl
 rw [Ml h1.1 (by omega)]
 omega
theorem SW{a:AZ}(ha:AL a=true){al:Int}:∀(w:W) (q:Int),AM (A0 al) w→0≤q∧q < a.nx.length→0≤E9 a q w∧E9 a q w < a.nx.length
 | [],q,_,hq=>hq
 | c::w,q,hw,hq=>by
  have h1:=Ii (hw c (by simp))
  have h2:=Db ha (q:=q.toNat) (by omega) h1.1 h1.2
  exact SW ha w _ (fun x hx=>hw x (by simp [hx])) h2
theorem NU{al:Int}{l:Int}(h:l∈Ac al):lb l∈A0 al:=List.mem_map.2 ⟨l,h,rfl⟩
theorem NL{L:W→Bool}{al:Int}{t:AT}(hal:A2 al=true)(h:BQ L (A0 al) t)(hr:t.rows.length≤12):AL (AR L al t)=true:=by
 have h0:0 < t.rows.length:=(List.getElem?_eq_some_iff.1 h.r0).1
 unfold AL
 simp only [Bool.and_eq_true,decide_eq_true_eq,List.all_eq_true]
 refine⟨⟨⟨hal,by simp [AR];omega⟩,by simp [AR]⟩,fun row hrow=>?_⟩
 simp only [AR,List.mem_map] at hrow
 obtain⟨r,hr,rfl⟩:=hrow
 unfold FR
 simp only [Bool.and_eq_true,decide_eq_true_eq,List.all_eq_true]
 refine⟨by simp [AR],fun y hy=>?_⟩
 obtain⟨l,hl,rfl⟩:=List.mem_map.1 hy
 obtain⟨i,hi,he⟩:=List.getElem_of_mem hr
 obtain⟨r',h2,_⟩:=h.idx (i:=i) (r:=r) (by rw [List.getElem?_eq_getElem hi,he]) (NU hl)
 have h3:=(List.getElem?_eq_some_iff.1 h2).1
 unfold Tc
 simp [AR]
 exact h3
theorem KK{L:W→Bool}{al:Int}{t:AT}{q:Nat}{c:UInt8}(hq:q < t.rows.length)(hc:c∈A0 al):Cs (AR L al t) q ((c.toNat:Int) - 97)=((C1 L t (t.rows.getD q []++[c]):Nat):Int):=by
 obtain⟨l,hl,rfl⟩:=List.mem_map.1 hc
 have h1:=Ak hl
 rw [Ml h1.1 (by omega)]
 obtain⟨k,hk,he⟩:=List.getElem_of_mem hl
 have h2:(AI al 6)[k]? = some l:=by rw [List.getElem?_eq_getElem hk,he]
 have h3:=JR h2
 unfold Cs
 have h4:AV (AR L al t).al l.toNat=true:=h1.2.2
 rw [if_pos h4]
 have h5:(AI (AR L al t).al l.toNat).length=k:=h3
 rw [h5]
 have h6:(AR L al t).nx.getD q []=(Ac al).map fun l=>((C1 L t (t.rows.getD q []++[lb l]):Nat):Int):=by
  simp [AR,List.getD,hq]
 rw [h6]
 simp [List.getD,h2]
theorem Rw{L:W→Bool}{al:Int}{t:AT}(h:BQ L (A0 al) t):∀(w:W) (q:Nat),AM (A0 al) w→q < t.rows.length→E9 (AR L al t) q w=((runM L t q w:Nat):Int)
 | [],q,_,_=>rfl
 | c::w,q,hw,hq=>by
  have h1:t.rows[q]? = some t.rows[q]:=List.getElem?_eq_getElem hq
  have hc:=hw c (by simp)
  obtain⟨_,h2,_⟩:=h.idx h1 hc
  have h3:t.rows.getD q []=t.rows[q]:=by simp [h1]
  have h4:=(List.getElem?_eq_some_iff.1 h2).1
  show E9 (AR L al t) (Cs (AR L al t) ((q:Int)).toNat ((c.toNat:Int) - 97)) w=_
  rw [Int.toNat_natCast,KK hq hc]
  rw [←h3] at h4
  exact Rw h w _ (fun x hx=>hw x (by simp [hx])) h4
theorem RN{L:W→Bool}{al:Int}{t:AT}(h:BQ L (A0 al) t){w:W}(hw:AM (A0 al) w):LA (AR L al t) w=Nt L t w:=by
 have h0:0 < t.rows.length:=(List.getElem?_eq_some_iff.1 h.r0).1
 have h1:=h.run w 0 hw h0
 unfold LA Nt
 have h2:=Rw h w 0 hw h0
 rw [show ((0:Nat):Int)=0 from rfl] at h2
 rw [h2,Int.toNat_natCast]
 simp [AR,List.getD,h1]
end Go.Am
namespace Go.Am
open Go
set_option linter.unusedVariables false
theorem JA{g:Gr}:∀ {u v:List Int} {a x:Int},reach g (u++v) a x↔∃y,reach g u a y∧reach g v y x
 | [],v,a,x=>⟨fun h=>⟨a,rfl,h⟩,fun ⟨y,h1,h2⟩=>by cases h1;exact h2⟩
 | l :: u,v,a,x=>by
  simp only [List.cons_append,reach]
  constructor
  ·rintro⟨y,hy,h⟩
   obtain⟨z,h1,h2⟩:=JA.1 h
   exact⟨z,⟨y,hy,h1⟩,h2⟩
  ·rintro⟨z,⟨y,hy,h1⟩,h2⟩
   exact⟨y,hy,JA.2 ⟨z,h1,h2⟩⟩
theorem iO(n:Nat)(f:Nat→Int)(h:∀i,i≤n→0≤f i∧f i < n):∃i j,i < j∧j≤n∧f i=f j:=by
 apply Classical.byContradiction
 intro hno
 have h1:((List.range (n+1)).map fun i=>(f i).toNat).Nodup:=by
  unfold List.Nodup
  rw [List.pairwise_map]
  refine List.pairwise_lt_range.imp_of_mem fun {a b} ha hb hab he=>hno ⟨a,b,hab,?_,?_⟩
  ·have:=List.mem_range.1 hb;omega
  ·have h2:=h a (by have:=List.mem_range.1 ha;omega)
   have h3:=h b (by have:=List.mem_range.1 hb;omega)
   omega
 have h2:=Uz n _ h1 fun x hx=>by
  obtain⟨i,hi,rfl⟩:=List.mem_map.1 hx
  have:=h i (by have:=List.mem_range.1 hi;omega)
  omega
 simp at h2
 omega
theorem Cp.short{g:Gr}(hg:IL g){w:List Int}(h:Cp g (some w)):w.length < g.N:=by
 obtain⟨h1,⟨x,hx,hgx⟩,h3⟩:=h
 apply Classical.byContradiction
 intro hlen
 have hsp:∀k,∃y,reach g (w.take k) g.s0 y∧reach g (w.drop k) y x:=fun k=>JA.1 (by rw [List.take_append_drop];exact hx)
 obtain⟨f,hf⟩:=Classical.axiomOfChoice hsp
 obtain⟨i,j,hij,hj,he⟩:=iO g.N f fun i _=>Du hg (fun l hl=>h1 l (List.mem_of_mem_take hl)) hg.s0 (hf i).1
 refine h3 (w.take i++w.drop j) (fun l hl=>?_) ⟨x,JA.2 ⟨f i,(hf i).1,he ▸ (hf j).2⟩,hgx⟩ (.inl ?_)
 ·rcases List.mem_append.1 hl with hl|hl
  ·exact h1 l (List.mem_of_mem_take hl)
  ·exact h1 l (List.mem_of_mem_drop hl)
 ·simp;omega
theorem dO{al:Int}:∀ {w:List Int},(∀l∈w,l∈Ac al)→AM (A0 al) (Df w):=fun {w} h c hc=>by
 obtain⟨l,hl,rfl⟩:=List.mem_map.1 hc
 exact NU (h l hl)
theorem ME(L:W→Bool)(ls:List UInt8):TOk L ls Bj:=by
 refine⟨rfl,rfl,fun i w hi h0=>?_,fun w hw=>?_,fun w hw=>?_,by simp [AE,Bj],by simp [Bj]⟩
 ·have:=(List.getElem?_eq_some_iff.1 hi).1
  simp [Bj] at this;omega
 ·simp [Bj] at hw;subst hw;exact fun c hc=>(by cases hc)
 ·simp [Bj] at hw;subst hw;exact fun c hc=>(by cases hc)
theorem TOk.short{L:W→Bool}{ls:List UInt8}{t:AT}(h:TOk L ls t):∀(i:Nat) w,t.rows[i]? = some w→w.length≤i:=by
 intro i
 induction i using Nat.strongRecOn with
 | _ i ih=>
  intro w hw
  rcases Nat.eq_zero_or_pos i with h0|h0
  ·subst h0
   rw [h.r0] at hw
   injection hw with hw
   subst hw;simp
  ·obtain⟨h1,j,hj,h2⟩:=h.pre i w hw h0
   have:=ih j hj _ h2
   simp at this
   omega
def bK:Option TypeDesc→Bool
 | some (.func ..)=>true
 | _=>false
class gm (P:Program) (t:TypeId):Prop where
 out:bK (P.underlying t)=true
theorem fJ{P:Program}{t:TypeId}(h:bK (P.underlying t)=true)(w:World):(Op.equal t .nilFunc .nilFunc).run P w=.ok true w∧∀(g:Fn) (a b:Array Value),(Op.equal t (.func g a b) .nilFunc).run P w=.ok false w:=by
 unfold bK at h
 split at h
 ·rename_i he
  unfold Op.equal Op.maxDepth
  rw [show 10000=9999+1 from rfl,Op.equalIn]
  refine⟨by simp [run_underlying he,go_sem],fun g a b=>?_⟩
  rw [Op.equalIn]
  simp [run_underlying he,go_sem]
 ·cases h
section
variable {P:Program}{TB:Bs}{Γ:Ctx}{d:Option Tmp}{ty:TypeId}{pos:String}{af:Array Edge}{g:Option (Nat×Bool)}{f:Env}{σ:Ab}{nx:Nat}
theorem fx{t yt:TypeId}{x y:Operand}[hp:gm P t](hx:ev f x=some (.o (.d (.v .nilFunc))))(hy:ev f y=some (.o (.d (.v .nilFunc)))):AQ P TB Γ ⟨d,.binOp .neq t x y yt,ty,pos,af,g⟩ f σ nx (eB false):=
 BJ hx hy rfl fun w=>by
  have h6:binOp .neq t .nilFunc .nilFunc=(do pure (.bool (!(←Op.equal t .nilFunc .nilFunc)))):=rfl
  have h7:eqGuard .neq t x y .nilFunc .nilFunc=pure ():=rfl
  rw [h6,h7]
  simp [(fJ hp.out w).1,go_sem]
end
def OK(L:List (Nat×E)):List Nat→Option (List (Nat×E))
 | []=>some []
 | k::r=>match look L k,OK L r with
  | some e,some l=>some ((k,e)::l)
  | _,_=>none
def XV(σ:Ab):List Nat→Option Ab
 | []=>some []
 | k::r=>match look σ k,XV σ r with
  | some e,some l=>some ((k,e)::l)
  | _,_=>none
section
variable {P:Program}{TB:Bs}{Γ:Ctx}{N:Nat}
theorem Av.ka{c:Code}{Q:Exit→Env→Ab→Nat→Prop}{L0 Lk:List (Nat×E)}{σ Sk:Ab}{nx:Nat}{α:Type}(ks is:List Nat)(hk:OK L0 ks=some Lk)(hi:XV σ is=some Sk)(v:α→List (Nat×E))(s:α→Ab)(n:Nat)(μ:α→Nat)
 (x:α) (l0:List Nat) (hl0:(∀i,i < Γ.V.nx→l0[i]? = some i)∧l0.Nodup∧l0.length=n) (h0:DH (nm l0 nx) (look L0) (v x++Lk)∧A4 (nm l0 nx) σ (s x++Sk))
 (round:∀x,Av P TB Γ N c (Lu (fun f σ nx=>∃y,μ y < μ x∧∃l:List Nat,(∀i,i < Γ.V.nx→l[i]? = some i)∧l.Nodup∧l.length=n∧DH (nm l nx) f (v y++Lk)∧A4 (nm l nx) σ (s y++Sk)) Q) (look (v x++Lk)) (s x++Sk) n) :
 Av P TB Γ N (.loop c) Q (look L0) σ nx:=Av.AO (fun x=>v x++Lk) (fun x=>s x++Sk) n μ x l0 hl0 h0 round
theorem aL{c:Code}{Q:Exit→Env→Ab→Nat→Prop}{L0 Lk:List (Nat×E)}{σ Sk:Ab}{nx:Nat}{α:Type}(ks is:List Nat)(hk:OK L0 ks=some Lk)(hi:XV σ is=some Sk)(v:α→List (Nat×E))(s:α→Ab)(n:Nat)(μ:α→Nat)
 (x:α) {m:Nat} (hΓ:Γ.V.nx=m) (hn:Nat.ble m n=true) (h0:DH (nm (List.range n) nx) (look L0) (v x++Lk)∧A4 (nm (List.range n) nx) σ (s x++Sk))
 (round:∀x,Av P TB Γ N c (Lu (fun f σ nx=>∃y,μ y < μ x∧∃l:List Nat,(∀i,i < Γ.V.nx→l[i]? = some i)∧l.Nodup∧l.length=n∧DH (nm l nx) f (v y++Lk)∧A4 (nm l nx) σ (s y++Sk)) Q) (look (v x++Lk)) (s x++Sk) n) :
 Av P TB Γ N (.loop c) Q (look L0) σ nx:=Av.ka ks is hk hi v s n μ x (List.range n) (rg hΓ hn) h0 round
end
inductive FZ (σ:Ab):C→D→Prop
 | d {x:D}:FZ σ (.d x) x
 | fn {g:FuncId}:FZ σ (.fn g []) (.v (.func (.func g) #[] #[]))
 | arr {id k off len:Nat} {T:TypeId} {rows:List (List C)} {ds:List (List D)} {rs:Nat→List C} {cs:Nat→Nat→C}:look σ id=some (.cells T k rows)→off+len≤rows.length→ds.length=len→
  (∀i r',ds[i]? = some r'→rows[off+i]? = some (rs i)∧(rs i).length=r'.length)→(∀i j r' x,ds[i]? = some r'→r'[j]? = some x→(rs i)[j]? = some (cs i j))→
  (∀i j r' x,ds[i]? = some r'→r'[j]? = some x→FZ σ (cs i j) x)→FZ σ (.arr id k off len) (.l ds)
 | ptr {id k i j:Nat} {T:TypeId} {rows:List (List C)} {r:List C} {ds:List D} {cs:Nat→C}:look σ id=some (.cells T k rows)→rows[i]? = some r→(∀q x,ds[q]? = some x→r[j+q]? = some (cs q))→(∀q x,ds[q]? = some x→FZ σ (cs q) x)→FZ σ (.ptr id k i j) (.p ds)
 | sld {id:Nat} {T:TypeId} {l:List (Value×List Value)} {v:Value} {row:List Value}:look σ id=some (.sld T l)→(v,row)∈l→FZ σ (.d (.v v)) (.l (row.map fun x=>[.v x]))
 | nl {b:Option Addr}:FZ σ (.d (.v (.slice b 0 0))) (.l [])
inductive NI (σ:Ab):List C→List D→Prop
 | nil:NI σ [] []
 | cons {c:C} {d:D} {cs:List C} {ds:List D}:FZ σ c d→NI σ cs ds→NI σ (c::cs) (d::ds)
theorem NI.get{σ:Ab}{cs:List C}{ds:List D}(h:NI σ cs ds):cs.length=ds.length∧∀(j:Nat) x,ds[j]? = some x→∃c,cs[j]? = some c∧FZ σ c x:=by
 induction h with
 | nil=>exact⟨rfl,fun j x h=>by simp at h⟩
 | @cons c d cs ds h1 _ ih=>
  refine⟨by simp [ih.1],fun j x hj=>?_⟩
  cases j with
  | zero=>simp at hj;subst hj;exact⟨c,rfl,h1⟩
  | succ j=>exact ih.2 j x (by simpa using hj)
theorem NI.refl{σ:Ab}:∀(ds:List D),NI σ (ds.map .d) ds
 | []=>.nil
 | d::ds=>.cons .d (NI.refl ds)
theorem FZ.rows{σ:Ab}{id k len:Nat}{T:TypeId}{rows:List (List C)}{ds:List (List D)}(hl:look σ id=some (.cells T k rows))(hn:ds.length=len)(hr:rows.length=len)(h:∀(i:Nat) (r':List D),ds[i]? = some r'→∃r,rows[i]? = some r∧NI σ r r'):FZ σ (.arr id k 0 len) (.l ds):=by
 refine .arr (rs:=fun i=>(rows[i]?).getD []) (cs:=fun i j=>(((rows[i]?).getD [])[j]?).getD (.d (.l []))) hl (by omega) hn (fun i r' hi=>?_) (fun i j r' x hi hj=>?_) (fun i j r' x hi hj=>?_)
 ·obtain⟨r,h1,h2⟩:=h i r' hi
  rw [Nat.zero_add,h1]
  exact⟨rfl,h2.get.1⟩
 ·obtain⟨r,h1,h2⟩:=h i r' hi
  obtain⟨c,h3,h4⟩:=h2.get.2 j x hj
  simp [h1,h3]
 ·obtain⟨r,h1,h2⟩:=h i r' hi
  obtain⟨c,h3,h4⟩:=h2.get.2 j x hj
  simp [h1,h3,h4]
theorem FZ.full{σ:Ab}{id k len:Nat}{T:TypeId}{rows:List (List C)}{ds:List (List D)}(hl:look σ id=some (.cells T k rows))(hr:rows=ds.map (fun r=>r.map .d))(hn:rows.length=len):FZ σ (.arr id k 0 len) (.l ds):=by
 refine .rows hl (by rw [←hn,hr];simp) hn fun i r' hi=>⟨r'.map .d,?_,NI.refl _⟩
 rw [hr];simp [hi]
theorem FZ.box{σ:Ab}{id k:Nat}{T:TypeId}{r:List C}{ds:List D}(hl:look σ id=some (.cells T k [r]))(h:NI σ r ds):FZ σ (.ptr id k 0 0) (.p ds):=by
 refine .ptr (cs:=fun q=>(r[q]?).getD (.d (.l []))) hl rfl (fun q x hq=>?_) (fun q x hq=>?_)
 ·obtain⟨c,h3,h4⟩:=h.get.2 q x hq
  rw [Nat.zero_add,h3];rfl
 ·obtain⟨c,h3,h4⟩:=h.get.2 q x hq
  simp [h3,h4]
inductive EZ (σ:Ab):E→E→Prop
 | AD {e:E}:e.BW=true→EZ σ e e
 | o {c:C} {d:D}:FZ σ c d→EZ σ (.o c) (.o (.d d))
 | a {cs:List C} {ds:List D}:NI σ cs ds→EZ σ (.a cs) (.a (ds.map .d))
def Tr(σ:Ab)(f:Env):List (Nat×E)→Prop
 | []=>True
 | (t,e')::L=>(∃e,f t=some e∧EZ σ e e')∧Tr σ f L
theorem Tr.get{σ:Ab}{f:Env}:∀ {L:List (Nat×E)},Tr σ f L→∀t e',look L t=some e'→∃e,f t=some e∧EZ σ e e'
 | [],_,t,e,h=>by cases h
 | (k,x)::L,hs,t,e,h=>by
  rw [Ax] at h
  by_cases hk:k=t
  ·rw [if_pos hk] at h;injection h with h;subst h;subst hk;exact hs.1
  ·rw [if_neg hk] at h;exact Tr.get hs.2 t e h
def ER(V:View)(σ:Ab):View:={ V with I:=fun b=>V.I b∨∃id o,look σ id=some o∧¬V.nl id∧EB V id o b }
theorem Kx{V:View}{σ:Ab}:Ext V (ER V σ):=⟨fun _ h=>.inl h,fun _ _=>rfl,Nat.le_refl _,fun _ _=>rfl,fun _ _=>rfl,fun _ _=>Iff.rfl,Nat.le_refl _⟩
section
variable {P:Program}{TB:Bs}{Γ:Ctx}{N:Nat}{σ:Ab}
theorem Kv.data{I:Nat→Prop}{w:World}{T:TypeId}{v:Value}{row:List Value}(h:Kv w T v row)(hI:∀b,J0 v b→I b):CR I w (.l (row.map fun x=>[.v x])) v:=by
 rcases h with ⟨rfl,rfl⟩|⟨b,cap,cur,rfl,h2,h3,h4,h5,h6⟩
 ·exact .nil
 ·have hn:row.length=(row.map fun x=>[D.v x]).length:=by simp
  have hg:∀(i:Nat) (r:List D) (j:Nat) (d:D),(row.map fun x=>[D.v x])[i]? = some r→r[j]? = some d→j=0∧∃x,row[i]? = some x∧d=.v x:=fun i r j d hi hj=>by
   simp only [List.getElem?_map,Option.map_eq_some_iff] at hi
   obtain⟨x,hx,rfl⟩:=hi
   have hj0:j=0:=by have:=(List.getElem?_eq_some_iff.1 hj).1;simp at this;omega
   subst hj0
   simp at hj
   exact⟨rfl,x,hx,hj.symm⟩
  rw [hn]
  refine .l (k:=1) (vs:=fun i _=>(row[i]?).getD undef) (hI b ⟨_,_,_,rfl⟩) (by simpa using h4) h5 (fun i r hi=>?_) (fun i r j d hi hj=>?_) (fun i r j d hi hj=>?_)
  ·simp only [List.getElem?_map,Option.map_eq_some_iff] at hi
   obtain⟨x,hx,rfl⟩:=hi;rfl
  ·obtain⟨rfl,x,hx,rfl⟩:=hg i r j d hi hj
   simp [World.cell?,h2,hx,(h6 i x hx).1]
  ·obtain⟨rfl,x,hx,rfl⟩:=hg i r j d hi hj
   simp only [hx,Option.getD_some]
   exact .v (h6 i x hx).2
theorem FZ.rel{V:View}(hi:Inv TB Γ V σ){c:C}{d:D}(h:FZ σ c d):∀ {v:Value},AA V c v→CR (ER V σ).I V.w d v:=by
 induction h with
 | d=>intro v hc;cases hc with|d h=>exact h.ext (V:=V) (V':=ER V σ) Kx
 | @sld id T l v row hl hm=>
  intro v' hc
  have hv:v'=v:=AA.val hc
  subst hv
  have h1:=hi.st.obj id _ hl
  exact(h1.2.2 _ hm).data fun b hb=>.inr ⟨id,_,hl,h1.1,⟨_,hm,hb⟩⟩
 | @nl b=>
  intro v' hc
  have hv:v'=_:=AA.val hc
  subst hv
  cases b
  ·exact .nil
  ·exact .e (Nat.zero_le _)
 | fn =>
  intro v hc
  cases hc with
  | @fn f cap vs h1 _=>
   have:vs = #[]:=Array.eq_empty_of_size_eq_zero (by simpa using h1)
   subst this
   exact .v rfl
 | @arr id k off len T rows ds rs cs hl hle hn h1 h2 _ ih=>
  intro v hc
  cases hc with
  | nil h3 h4=>
   have:ds=[]:=List.length_eq_zero_iff.1 hn
   subst this
   exact .nil
  | arr h3 hnl h4=>
   rcases hi.st.obj id _ hl with ⟨h5,_⟩|⟨_,cur,h5,h6,h7,h8,h9,h10⟩
   ·exact absurd h5 hnl
   ·have hcell:∀(i:Nat) (r:List D) (j:Nat) (x:D),ds[i]? = some r→r[j]? = some x→∃v,cur[(off+i)*k+j]? = some v∧CR (ER V σ).I V.w x v:=fun i r j x hi' hj=>by
     obtain⟨v,h11,h12⟩:=h10 (off+i) (rs i) j (cs i j) (h1 i r hi').1 (h2 i j r x hi' hj)
     exact⟨v,h11,ih i j r x hi' hj h12⟩
    rw [←hn] at h4 ⊢
    refine .l (b:=V.ρ id) (o:=off*k) (k:=k) (vs:=fun i j=>cur.getD ((off+i)*k+j) undef) (.inr ⟨id,_,hl,hnl,rfl⟩) (by omega) (by omega) (fun i r hi'=>?_) (fun i r j x hi' hj=>?_) (fun i r j x hi' hj=>?_)
    ·have h13:=h1 i r hi'
     rw [←h13.2]
     exact h9 _ (List.mem_of_getElem? h13.1)
    ·obtain⟨v,h11,_⟩:=hcell i r j x hi' hj
     have e:off*k+i*k+j=(off+i)*k+j:=by rw [Nat.add_mul]
     rw [e]
     simp [World.cell?,h5,h11]
    ·obtain⟨v,h11,h12⟩:=hcell i r j x hi' hj
     have:cur.getD ((off+i)*k+j) undef=v:=by simp [h11]
     simp only [this]
     exact h12
 | @ptr id k i j T rows r ds cs hl hri h1 _ ih=>
  intro v hc
  cases hc with
  | ptr h3 hnl=>
   rcases hi.st.obj id _ hl with ⟨h5,_⟩|⟨_,cur,h5,h6,h7,h8,h9,h10⟩
   ·exact absurd h5 hnl
   ·have hcell:∀(q:Nat) (x:D),ds[q]? = some x→∃v,cur[i*k+j+q]? = some v∧CR (ER V σ).I V.w x v:=fun q x hq=>by
     obtain⟨v,h11,h12⟩:=h10 i r (j+q) (cs q) hri (h1 q x hq)
     exact⟨v,by rw [Nat.add_assoc];exact h11,ih q x hq h12⟩
    refine .p (b:=V.ρ id) (o:=i*k+j) (vs:=fun q=>cur.getD (i*k+j+q) undef) (.inr ⟨id,_,hl,hnl,rfl⟩) (fun q x hq=>?_) (fun q x hq=>?_)
    ·obtain⟨v,h11,_⟩:=hcell q x hq
     simp [World.cell?,h5,h11]
    ·obtain⟨v,h11,h12⟩:=hcell q x hq
     have:cur.getD (i*k+j+q) undef=v:=by simp [h11]
     simp only [this]
     exact h12
theorem EZ.rel{V:View}(hi:Inv TB Γ V σ){e e':E}(h:EZ σ e e'){v:Value}(hv:Bb V e v):Bb (ER V σ) e' v:=by
 cases h with
 | AD=>exact hv.ext Kx
 | o h=>exact AA.d (V:=ER V σ) (h.rel hi hv)
 | @a cs ds h=>
  obtain⟨vs,rfl,h1,h2⟩:=hv
  refine⟨vs,rfl,by rw [h1,h.get.1];simp,fun j c v hj hv=>?_⟩
  simp only [List.getElem?_map,Option.map_eq_some_iff] at hj
  obtain⟨x,hx,rfl⟩:=hj
  obtain⟨c,h3,h4⟩:=h.get.2 j x hx
  exact AA.d (V:=ER V σ) (h4.rel hi (h2 j c v h3 hv))
theorem Av.settle{c:Code}{Q:Exit→Env→Ab→Nat→Prop}{f:Env}{nx:Nat}(L:List (Nat×E))(hE:Tr σ f L)(h:Av P TB Γ N c Q (look L) [] nx):Av P TB Γ N c Q f σ nx:=by
 intro V a hr
 refine h (ER V σ) a ⟨fun t x hx=>?_,fun t x hx=>?_,hr.size,?_,hr.nx,hr.defers⟩
 ·obtain⟨y,h1,h2⟩:=hE.get t x hx
  exact h2.rel hr.inv (hr.env t y h1)
 ·obtain⟨y,h1,_⟩:=hE.get t x hx
  exact hr.lt t y h1
 ·have hi:=hr.inv
  refine⟨hi.os,hi.tape,hi.output,hi.old,?_,?_,hi.ext.trans Kx,Em,fun id o ho=>(by cases ho),fun x hx=>⟨.inl (hi.tabs x hx).1,(hi.tabs x hx).2⟩,hi.hid.same rfl (fun _ h=>.inl h) (fun b hb=>hb.elim .inl fun ⟨id,o,hl,hn,he⟩=>.inr ⟨id,o,hl,hn,he⟩) fun b ⟨_,_,h,_⟩=>by cases h⟩
  ·rintro b (hb|⟨id,o,hl,hn,hb⟩)
   ·exact hi.iLt b hb
   ·exact(hi.st.obj id o hl).blt hn hb
  ·rintro b (hb|⟨id,o,hl,hn,hb⟩)
   ·exact hi.iNew b hb
   ·exact .inr (hi.live id o hl hn b hb)
theorem QM{ids:List Nat}{L0:List (Nat×E)}:∀ {ks:List Nat} {Lk:List (Nat×E)},OK L0 ks=some Lk→Ec σ ids (look L0) Lk
 | [],Lk,h=>by injection h with h;subst h;trivial
 | k :: ks,Lk,h=>by
  unfold OK at h
  split at h
  ·rename_i e l h1 h2
   injection h with h
   subst h
   exact⟨⟨e,h1,.AD⟩,QM h2⟩
  ·cases h
theorem Ec.app{ids:List Nat}{f:Env}:∀ {L M:List (Nat×E)},Ec σ ids f L→Ec σ ids f M→Ec σ ids f (L++M)
 | [],_,_,h=>h
 | _::_,_,h,h'=>⟨h.1,Ec.app h.2 h'⟩
theorem Av.XR{c:Code}{Q:Exit→Env→Ab→Nat→Prop}{L0 Lk:List (Nat×E)}{nx:Nat}(ids ks:List Nat)(hk:OK L0 ks=some Lk)(L:List (Nat×E))(hE:Ec σ ids (look L0) L)(h:Av P TB Γ N c Q (look (L++Lk)) (BK ids σ) nx):Av P TB Γ N c Q (look L0) σ nx:=
 Av.freeze ids (L++Lk) (hE.app (QM hk)) h
section
variable {d:Option Tmp}{ty:TypeId}{pos:String}{af:Array Edge}{g:Option (Nat×Bool)}{f:Env}{nx:Nat}
theorem SL{t:TypeId}{x lo:Operand}{s:List UInt8}{m:Int}{k:IntKind}[ht:DJ P t](hx:ev f x=some (eT s))(hl:ev f lo=some (eI k m))(h0:0≤m)(h1:m≤s.length):AQ P TB Γ ⟨d,.slice t x (some lo) none none,ty,pos,af,g⟩ f σ nx (eT (s.drop m.toNat)):=by
 have h:=YD (P:=P) (TB:=TB) (Γ:=Γ) (d:=d) (ty:=ty) (pos:=pos) (af:=af) (g:=g) (σ:=σ) (nx:=nx) (t:=t) (x:=x) (lo:=some lo) (hi:=none) (l:=some (k,m)) (h:=none) hx (by simp [ei,hl]) rfl h0 h1 (Int.le_refl _)
 simpa [OG,OU] using h
theorem fE{t:TypeId}{x hi:Operand}{s:List UInt8}{m:Int}{k:IntKind}[ht:DJ P t](hx:ev f x=some (eT s))(hl:ev f hi=some (eI k m))(h0:0≤m)(h1:m≤s.length):AQ P TB Γ ⟨d,.slice t x none (some hi) none,ty,pos,af,g⟩ f σ nx (eT (s.take m.toNat)):=by
 have h:=YD (P:=P) (TB:=TB) (Γ:=Γ) (d:=d) (ty:=ty) (pos:=pos) (af:=af) (g:=g) (σ:=σ) (nx:=nx) (t:=t) (x:=x) (lo:=none) (hi:=some hi) (l:=none) (h:=some (k,m)) hx rfl (by simp [ei,hl]) (Int.le_refl _) h0 h1
 simpa [OG,OU] using h
theorem SP{t e:TypeId}{b n:Nat}{x hi:Operand}{rows:List (List D)}{m:Int}{k:IntKind}[hsl:CG P t e n b](hx:ev f x=some (.o (.d (.l rows))))(hl:ev f hi=some (eI k m))(hn:∀r∈rows,r.length=n)(h0:0≤m)(h1:m≤rows.length):AQ P TB Γ ⟨d,.slice t x none (some hi) none,ty,pos,af,g⟩ f σ nx (.o (.d (.l (rows.take m.toNat)))):=by
 have h:=fB (P:=P) (TB:=TB) (Γ:=Γ) (d:=d) (ty:=ty) (pos:=pos) (af:=af) (g:=g) (σ:=σ) (nx:=nx) (t:=t) (x:=x) (lo:=none) (hi:=some hi) (l:=none) (h:=some (k,m)) hx rfl (by simp [ei,hl]) hn (Int.le_refl _) h0 h1
 simpa [OG,OU] using h
end
end
end Go.Am
namespace Go.Am
open Go Go.Proofs
instance:gm Tryz.prog 64:=⟨by kernel_rfl⟩
end Go.Am
namespace Go.Am
open Go Go.Proofs
set_option maxHeartbeats 1000000
attribute [local irreducible] AQ BS Lex Bc Av Spec
variable {TB:Bs}
end Go.Am
namespace Go.Am
open Go
section
variable {P:Program}{TB:Bs}{Γ:Ctx}{d:Option Tmp}{ty:TypeId}{pos:String}{af:Array Edge}{g:Option (Nat×Bool)}{f:Env}{σ:Ab}{nx:Nat}
variable {K:E→Ab→Nat→Prop}
theorem Mm{t:TypeId}{z:List Value}{fl:List (Nat×Nat)}{parts:Array (Nat×Operand)}{es:List E}{qs:List (Nat×List C)}[hz:BI P t z][hf:Ey P t fl](p k e q k' e':Nat)(hp:z[p]? = some (.slice none 0 0))(hp':z[q]? = some (.slice none 0 0))(hpq:p≠q)(hes:JL f (parts.toList.map (·.2))=some es)(hq:Fz fl parts.toList es=some qs)
 (hok:z.all PO=true) (hle:(qs.all fun x=>Nat.ble (x.1+x.2.length) z.length)=true) (hK:K (.a (Bp qs (((z.map zC).set p (.arr nx k 0 0)).set q (.arr (nx+1) k' 0 0)))) ((nx+1,.cells e' k' [])::(nx,.cells e k [])::σ) (nx+2)):BS P TB Γ ⟨d,.build t parts,ty,pos,af,g⟩ f σ nx K:=
 Dt fun V ρ h1 h2 h3=>by
  subst h3
  obtain⟨i,zv,hi,hzv,hzz⟩:=Hp hz.out
  obtain⟨hi1,he1⟩:=h2.alloc (c:=0) (nl:=True) (w:=V.w) (ob:=.cells e k []) rfl rfl rfl rfl (Nat.le_refl _) (fun _ _=>rfl) (.inl ⟨by simp [Aw],rfl⟩)
  obtain⟨hi2,he2⟩:=hi1.alloc (c:=0) (nl:=True) (w:=V.w) (ob:=.cells e' k' []) rfl rfl rfl rfl (Nat.le_refl _) (fun _ _=>rfl) (.inl ⟨by simp [Aw],rfl⟩)
  have he3:=he1.trans he2
  have hfo:=Da (V:=Aw (Aw V V.w.heap.size 0 True V.w) V.w.heap.size 0 True V.w) (ρ:=ρ) parts.toList es qs (fun x hx e he=>(h1.get (by simp only [Op.operands];simpa using hx) he).ext he3) hes hq
  have hzr:C3 (Aw (Aw V V.w.heap.size 0 True V.w) V.w.heap.size 0 True V.w) (((z.map zC).set p (.arr V.nx k 0 0)).set q (.arr (V.nx+1) k' 0 0)) zv.cells:=by
   refine⟨by rw [List.length_set,List.length_set,List.length_map,←hzz];simp,fun j c v hj hv=>?_⟩
   have hzj:z[j]? = some v:=by rw [←hzz,Array.getElem?_toList];exact hv
   by_cases hjq:q=j
   ·subst hjq
    rw [hp'] at hzj
    injection hzj with hzj
    subst hzj
    rw [List.getElem?_set_self (by rw [List.length_set,List.length_map];exact(List.getElem?_eq_some_iff.1 hp').1)] at hj
    injection hj with hj
    subst hj
    exact AA.nil (by simp [Aw]) (by simp [Aw])
   ·rw [List.getElem?_set_ne hjq] at hj
    by_cases hjp:p=j
    ·subst hjp
     rw [hp] at hzj
     injection hzj with hzj
     subst hzj
     rw [List.getElem?_set_self (by rw [List.length_map];exact(List.getElem?_eq_some_iff.1 hp).1)] at hj
     injection hj with hj
     subst hj
     exact AA.nil (by simp [Aw];omega) (by simp [Aw])
    ·rw [List.getElem?_set_ne hjp,List.getElem?_map,hzj] at hj
     injection hj with hj
     subst hj
     exact Ks (List.all_eq_true.1 hok v (List.mem_of_getElem? hzj))
  obtain⟨cells,h4,h5⟩:=Gq _ _ _ _ hfo hzr (fun x hx=>by rw [List.length_set,List.length_set,List.length_map];exact IV _ _ hle x hx)
  have hb:=run_build (P:=P) (ρ:=ρ) (parts:=parts) (V:=V) hi hzv hf.out h4
  refine⟨.agg cells,_,_,_,?_,he3,hi2,(show Bb _ (.a _) _ from ⟨cells,rfl,h5⟩),hK⟩
  show ((do let v ←Instr.build t (parts.map fun (i,x)=>(i,ρ x));pure (Go.Next.value v):Sem Go.Next)).run P V.w=_
  simp only [Sem.run_bind,hb,Result.andThen_ok]
  rfl
end
end Go.Am
namespace Go.Am
open Go Go.Proofs
set_option maxHeartbeats 1000000
attribute [local irreducible] AQ BS Lex Bc Av Spec
variable {TB:Bs}
theorem PY{c:C}{L:W→Bool}{ok:W→Prop}(hc:JH Tryz.prog TB c L ok)(al:Int)(t:AT)(hf:II ok (A0 al) t)(ht:GN al 20012 t)(ho:A8 L (A0 al) t=none) :
 Pure Tryz.prog TB 61 [IT al c,DO t] (Bo (AR L al t)):=by
 have hr:=EK c hc.BW
 have hrl:=ht.rl
 have hcl:=ht.cl
 have hla:(Ac al).length≤6:=AS al 6
 have hask:=ht.gT hf (by omega)
 have hnl:(AR L al t).nx.length=t.rows.length:=by simp [AR]
 have hal:(AR L al t).ac.length=t.rows.length:=by simp [AR]
 refine AG.Ho (AG.ofM 3 (Nat.le_refl _) Tryz.func61 rfl rfl (by kernel_rfl) (Nat.le_of_ble_eq_true rfl) ?_);intro Γ hΓ
 (repeat first|refine aU rfl ?_)
 (refine pW rfl ?_ rfl (by rfl);refine Di rfl rfl ?_)
 (refine Ai rfl ?_;refine Bx (fun _ _=>CW rfl rfl rfl) rfl ?_)
 (repeat first|refine tA rfl ?_ |refine aU rfl ?_ |refine Aa ?_)
 (refine pW rfl ?_ rfl (by rfl);refine Bq [] rfl rfl (Hn hc al t hask.1) ⟨rfl,by simp,by simp⟩ (by simp [EI,E.A1,C.BC,C.A1,hr,eC]) trivial ?_;rintro x0 σ1 nx1 ⟨rfl,rfl,rfl⟩ _)
 (repeat first|refine tA rfl ?_ |refine aU rfl ?_ |refine Aa ?_)
 (refine pW rfl ?_ rfl (by rfl);refine Mm 1 1 62 2 1 4 rfl rfl (by decide) rfl rfl (by rfl) (by rfl) ?_)
 (repeat first|refine sN rfl ?_ |refine tA rfl ?_ |refine aU rfl ?_ |refine Aa ?_)
 refine aB ?_
 refine Av.AO (α:={k:Nat // k≤t.rows.length}) (fun ⟨k,hkl⟩=>[(2,.o (.ptr 0 2 0 0)),(3,.o (.ip (Vl t))),(4,.o (.ptr 1 3 0 0)),(5,.o (.mp 2)),(6,.o (.ptr 3 3 0 0)),(19,.o (.d (Cf t.rows))),(20,eI .i64 t.rows.length),(21,eI .i64 k)]) (fun ⟨k,hkl⟩=>[(0,.cells 92 2 [[.d (iD al),c]]),(1,.cells 29 3 [[.d (iD 0),.d (.l []),.d (.l [])]]),(2,.mp (ID (BN L t t.rows.length))),(3,.cells 29 3 [[.d (iD al),.arr 4 1 0 k,.arr 5 1 0 k]]),(4,.cells 62 1 (((AR L al t).nx.take k).map fun r=>[.d (FQ r)])),(5,.cells 4 1 (((AR L al t).ac.take k).map fun b=>[.d (bD b)]))]) 6 (fun ⟨k,hkl⟩=>t.rows.length - k) (⟨0,by omega⟩) [0,1,2,5,3,4] (Dd hΓ rfl rfl) (by (simp[cX,zC,hΓ,hr,eC,Ab.A1,BK,Iw,Bp,Af])) ?_;rintro⟨k,hkl⟩;(try dsimp only)
 (repeat first|refine s2 rfl fun _ _hb=>?_ |refine aU rfl ?_ |refine Aa ?_)
 (refine aC rfl ?_ ?_<;>rintro⟨⟩)
 ·have hlt:k < t.rows.length:=by (simp only[oZ] at *;omega)
  obtain⟨r,hx⟩:=get_some (l:=t.rows) (k:=k) hlt
  have hx':=get_map (g:=DZ) hx
  have hxm:=List.mem_of_getElem? hx
  refine aK ?_
  refine aS (aB ?_)
  (repeat first|refine tM rfl ?_ |(refine s4 rfl ‹_› rfl ?_ ?_;omega) |refine aU rfl ?_ |refine Aa ?_)
  (refine pW rfl ?_ rfl (by rfl);refine Hb 1 3 ?_)
  (repeat first|refine sN rfl ?_ |refine tM rfl ?_ |refine sP rfl (CK al) rfl ?_ |refine aU rfl ?_ |refine Aa ?_)
  refine aB ?_
  refine Av.AO (α:={j:Nat // j≤(Ac al).length}) (fun ⟨j,hjl⟩=>[(2,.o (.ptr 0 2 0 0)),(3,.o (.ip (Vl t))),(4,.o (.ptr 1 3 0 0)),(5,.o (.mp 2)),(6,.o (.ptr 3 3 0 0)),(19,.o (.d (Cf t.rows))),(20,eI .i64 t.rows.length),(21,eI .i64 k),(8,eT r),(9,.o (.arr 6 1 0 j)),(27,Ag (Ac al)),(28,eI .i64 (Ac al).length),(29,eI .i64 j)]) (fun ⟨j,hjl⟩=>[(0,.cells 92 2 [[.d (iD al),c]]),(1,.cells 29 3 [[.d (iD 0),.d (.l []),.d (.l [])]]),(2,.mp (ID (BN L t t.rows.length))),(3,.cells 29 3 [[.d (iD al),.arr 4 1 0 k,.arr 5 1 0 k]]),(4,.cells 62 1 (((AR L al t).nx.take k).map fun r=>[.d (FQ r)])),(5,.cells 4 1 (((AR L al t).ac.take k).map fun b=>[.d (bD b)])),(6,.cells 3 1 (((Ac al).take j).map fun l=>[.d (iD ((C1 L t (r++[lb l]):Nat):Int))]))]) 7 (fun ⟨j,hjl⟩=>(Ac al).length - j) (⟨0,by omega⟩) [0,1,2,3,4,5,6] (Dd hΓ rfl rfl) (by (simp[cX,zC,hΓ,hr,eC,Ab.A1,BK,Iw])) ?_;rintro⟨j,hjl⟩;(try dsimp only)
  (repeat first|refine s2 rfl fun _ _hb=>?_ |refine aU rfl ?_ |refine Aa ?_)
  (refine aC rfl ?_ ?_<;>rintro⟨⟩)
  ·have hjlt:j < (Ac al).length:=by (simp only[oZ] at *;omega)
   obtain⟨l,hl⟩:=get_some (l:=Ac al) (k:=j) hjlt
   have hl':=get_map (g:=Bk) hl
   have hlm:=List.mem_of_getElem? hl
   have hlb:=Ak hlm
   have hrb:=ht.onR r hxm
   have hm:=KV (TB:=TB) hc al t (r++[lb l]) (by omega) (fun x hx=>hask.2 r hxm _ (List.mem_map.2 ⟨l,hlm,rfl⟩) x hx) (fun y hy=>by have:=(ht.onC y hy).2;simp;omega)
   have hlk:=Uo ho hxm hlm
   refine aK ?_
   refine aS (aB ?_)
   (repeat first|refine tA rfl ?_ |(refine s4 rfl ‹_› rfl ?_ ?_;omega) |refine aU rfl ?_ |refine Aa ?_)
   refine rG (IW [13]) (by kernel_rfl) ?_
   (repeat first|(refine sA rfl ?_ ?_;first|exact tI|omega|simp only[oZ] at *;omega) |refine sP rfl (Fi l hlb.1 (by omega)) rfl ?_|(refine Ai rfl ?_;refine gA rfl ?_;first| refine gS (fun _ _=>WM rfl (by omega) (by omega)) ?_))
   rw [bR hlb.1]
   (repeat first| (refine Ai rfl ?_;refine gA rfl ?_;first| refine gS (fun _ _=>AN rfl rfl (by simp [E.BW,C.C6,C.BW,hc.BW]) hm rfl) ?_|refine gQ (YA rfl rfl rfl) (by rfl) ?_))
   (repeat first|refine tA rfl ?_)
   (refine pW rfl ?_ rfl (by rfl);refine AH rfl rfl rfl (by first| (simp;done)|(simp;(omega))) rfl (by intro r hr;simp at hr;subst hr;rfl) (by rfl) (Nat.le_of_ble_eq_true rfl) (by simp;omega) ?_)
   (repeat first|(refine sA rfl ?_ ?_;first|exact tI|omega) |refine aU rfl ?_ |refine Aa ?_)
   rw [hlk]
   refine⟨⟨j+1,by omega⟩,by dsimp only;(omega),[0,1,2,3,4,5,7],?_⟩
   simp[cX,zC,hΓ,hr,List.take_add_one,hl]
  ·obtain rfl:j=(Ac al).length:=by (simp only[oZ] at *;omega)
   have hok:=hf r ⟨r,hxm,[],.inl rfl,[],.inl rfl,by simp⟩
   have hnx:(AR L al t).nx.take (k+1)=(AR L al t).nx.take k++[(Ac al).map fun l=>((C1 L t (r++[lb l]):Nat):Int)]:=by
    rw [List.take_add_one];simp [AR,hx]
   have hac:(AR L al t).ac.take (k+1)=(AR L al t).ac.take k++[L r]:=by
    rw [List.take_add_one];simp [AR,hx]
   refine aE ?_
   rw [List.take_length]
   refine Av.XR [6] [2,3,4,5,6,8,19,20,21] rfl [(9,Ag ((Ac al).map fun l=>((C1 L t (r++[lb l]):Nat):Int)))] ⟨⟨_,rfl,.o (.full (by simp) rfl (by simp [Function.comp_def]) (by simp))⟩,trivial⟩ ?_;(try dsimp only[cA,cB])
   (repeat first|refine tA rfl ?_ |refine aU rfl ?_)
   (refine pW rfl ?_ rfl (by rfl);refine AH rfl rfl rfl (by first| (simp;done)|(simp;(omega))) rfl (by intro r hr;simp at hr;subst hr;rfl) (by rfl) (Nat.le_of_ble_eq_true rfl) (by simp;omega) ?_)
   (repeat first|refine tA rfl ?_ |refine Aa ?_)
   refine rG (IW [7,9]) (by kernel_rfl) ?_
   (repeat first|refine tA rfl ?_|(refine Ai rfl ?_;refine gA rfl ?_;first| refine gS (fun _ _=>hc.ask rfl rfl hok) ?_))
   (refine pW rfl ?_ rfl (by rfl);refine AH rfl rfl rfl (by first| (simp;done)|(simp;(omega))) rfl (by intro r hr;simp at hr;subst hr;rfl) (by rfl) (Nat.le_of_ble_eq_true rfl) (by simp;omega) ?_)
   (repeat first|(refine sA rfl ?_ ?_;first|exact tI|omega) |refine aU rfl ?_ |refine Aa ?_)
   refine⟨⟨k+1,by omega⟩,by dsimp only;(omega),[0,1,2,3,7,8],?_⟩
   simp[cX,zC,hΓ,hr,eC,Ab.A1,BK,Iw,Bp,Af,hnx,hac]
 ·obtain rfl:k=t.rows.length:=by (simp only[oZ] at *;omega)
  have ht1:(AR L al t).nx.take t.rows.length=(AR L al t).nx:=List.take_of_length_le (by simp [AR])
  have ht2:(AR L al t).ac.take t.rows.length=(AR L al t).ac:=List.take_of_length_le (by simp [AR])
  rw [ht1,ht2]
  refine aE ?_
  (repeat first|refine tM rfl ?_ |refine aU rfl ?_ |refine Aa ?_)
  refine Av.settle [(4,.o (.ip [iD al,CD (AR L al t).nx,Ez (AR L al t).ac]))] ⟨⟨_,rfl,.o (.box rfl (.cons .d (.cons (.full rfl (by simp [Function.comp_def]) (by simp [AR])) (.cons (.full rfl (by simp [Function.comp_def]) (by simp [AR])) .nil))))⟩,trivial⟩ ?_
  refine aR ⟨_,rfl,rfl⟩
end Go.Am
