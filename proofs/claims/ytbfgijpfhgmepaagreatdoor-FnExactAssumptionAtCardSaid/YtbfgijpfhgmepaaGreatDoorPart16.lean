/-
  Lists of words: copies, whether a word is in one.
-/
import Derived.Test.YtbfgijpfhgmepaaGreatDoorPart15
import Derived.Test.YtbfgijpfhgmepaaGreatDoorPart9
import Derived.Test.YtbfgijpfhgmepaaGreatDoorPart14
import Derived.Test.YtbfgijpfhgmepaaGreatDoorPart8
set_option linter.constructorNameAsVariable false
set_option linter.unusedSectionVars false
set_option linter.unusedSimpArgs false
set_option linter.unusedVariables false
namespace Go.Am
open Go Go.Proofs
set_option maxHeartbeats 1000000
attribute [local irreducible] AS BT Lex Bc Au Spec
variable {TB:Bt}
theorem KK(l:List W)(h:l.length≤1048576):Spec Tryz.prog TB 157 [] 0 [CP l] (fun x σ nx=>x=.o (.arr 0 1 0 l.length)∧nx=1∧σ=[(0,.cells 9 1 (l.map Ez))]):=by
 refine eN Tryz.func157 rfl (by kernel_rfl) rfl ?_;intro Γ hΓ
 (repeat first|refine aU rfl ?_)
 (refine Ai rfl ?_;refine Bs (fun _ _=>Br rfl) rfl ?_)
 (repeat first|refine tM rfl ?_ |refine aU rfl ?_ |refine Aa ?_)
 (refine pW rfl ?_ rfl (by rfl);refine Le rfl ?_;intro b0 hb0)
 (repeat first|refine Aa ?_)
 (refine aC rfl ?_ ?_<;>rintro⟨⟩)
 ·obtain rfl:l=[]:=by simpa using hb0 rfl
  (repeat first|refine aU rfl ?_)
  (refine pW rfl ?_ rfl (by rfl);refine Hk 1 9 ?_)
  (repeat first|refine Aa ?_)
  refine aR ⟨_,rfl,rfl,rfl,rfl⟩
 ·refine aK ?_
  (repeat first|refine aU rfl ?_)
  (refine pW rfl ?_ rfl (by rfl);refine BP rfl rfl rfl rfl (by simp) (by rfl) (by rfl) (by rfl) (by rfl) ?_)
  (repeat first|refine tM rfl ?_)
  (refine pW rfl ?_ rfl (by rfl);refine AH rfl rfl rfl (by first| (simp;done)|(simp;(omega))) rfl (by intro r hr;simp at hr;obtain⟨a,_,rfl⟩:=hr;rfl) (by rfl) (Nat.le_of_ble_eq_true rfl) (by simp;omega) ?_)
  (repeat first|refine tM rfl ?_ |refine Aa ?_)
  refine Au.names [1] [(2,.o (.arr 0 1 0 l.length))] [(0,.cells 9 1 (l.map Ez))] (by intro i hi;rw [hΓ] at hi;omega) (by simp) (by simp[cX,zC,hΓ]) (by simp[cX,zC,hΓ]) ?_
  refine aR ⟨_,rfl,rfl,rfl,rfl⟩
theorem ca(l:List W)(s:W):Pure Tryz.prog TB 209 [CP l,eT s] (eI .i64 (if s∈l then (l.idxOf s:Int) else -1)):=by
 refine eN Tryz.func209 rfl (by kernel_rfl) rfl ?_;intro Γ hΓ
 refine Au.bound 0 rfl fun hB0=>?_
 have hB:=hB0 (l.map Ed) .refl
 (repeat first|refine sN rfl ?_ |refine tM rfl ?_ |refine aU rfl ?_ |refine Aa ?_)
 refine aB ?_
 refine Au.AP (α:={k:Nat // k≤l.length∧s∉l.take k}) (fun ⟨k,hk,hs⟩=>[(0,CP l),(1,eT s),(7,eI .i64 l.length),(8,eI .i64 k)]) (fun ⟨k,hk,hs⟩=>[]) 0 (fun ⟨k,hk,hs⟩=>l.length - k) (⟨0,by omega,by simp⟩) [] (Di hΓ rfl rfl) (by (simp[cX,zC,hΓ])) ?_;rintro⟨k,hk,hs⟩;(try dsimp only)
 (repeat first|refine s2 rfl fun _ _hb=>?_ |refine aU rfl ?_ |refine Aa ?_)
 (refine aC rfl ?_ ?_<;>rintro⟨⟩)
 ·have hlt:k < l.length:=by (simp only[oZ] at *;omega)
  obtain⟨x,hx⟩:=get_some (l:=l) (k:=k) hlt
  have hx':=get_map (g:=Ed) hx
  refine aK ?_
  refine aS (aB ?_)
  (repeat first|refine tM rfl ?_ |(refine s4 rfl ‹_› rfl ?_ ?_;omega) |refine s2 rfl fun _ _hb=>?_ |refine aU rfl ?_ |refine Aa ?_)
  (refine aC rfl ?_ ?_<;>rintro⟨⟩)
  ·have he:s=x:=by (simp only[oZ] at *;omega)
   subst he
   (repeat first|refine tM rfl ?_ |refine aU rfl ?_ |refine Aa ?_)
   refine aR ⟨_,rfl,?_⟩
   have hm:s∈l:=List.mem_of_getElem? hx
   have hi:l.idxOf s=k:=by
    have e:l=l.take k++s::l.drop (k+1):=by rw [←Bo hx,List.take_append_drop]
    rw [e,List.idxOf_append,if_neg hs,List.idxOf_cons_self]
    simp;omega
   rw [if_pos hm,hi]
  ·have he:¬s=x:=by simpa using _hb
   have hs2:s∉l.take (k+1):=by
    rw [List.take_add_one,hx]
    simp [hs,he]
   refine aK ?_
   (repeat first|(refine sM rfl ?_ ?_;first|exact tI|simp only[oZ] at *;omega) |refine aU rfl ?_ |refine Aa ?_)
   refine⟨⟨k+1,by omega,hs2⟩,by dsimp only;(omega),[],?_⟩
   simp[cX,zC,hΓ]
 ·obtain rfl:k=l.length:=by (simp only[oZ] at *;omega)
  rw [List.take_length] at hs
  refine aE ?_
  (repeat first|refine tM rfl ?_ |refine aU rfl ?_ |refine Aa ?_)
  refine aR ⟨_,rfl,?_⟩
  rw [if_neg hs]
theorem MY(l:List W)(s:W):Pure Tryz.prog TB 167 [CP l,eT s] (eB (decide (s∈l))):=by
 refine eN Tryz.func167 rfl (by kernel_rfl) rfl ?_;intro Γ hΓ
 (repeat' first|refine tA rfl ?_ |refine s2 rfl fun _ _hb=>?_ |refine sP rfl (ca l s) rfl ?_ |refine aU rfl ?_ |refine Aa ?_|(refine aC rfl ?_ ?_<;>rintro⟨⟩)|refine aK ?_|refine aE ?_|refine aB ?_|refine aR ⟨_,rfl,?_⟩)
 all_goals (show E.o _=E.o _;congr;subst _hb;by_cases h:s∈l<;>simp [h])
def Fu(t:AW)(col:W):Option AW:=if t.cols.length=20∨col∈t.cols then none else some ⟨t.rows,t.cols++[col]⟩
def IB(o:Option AW):E:=match o with
 | some t=>.t [(true,[.d (Ch t.rows),.d (Ch t.cols)]),(false,[.d (bD true)])]
 | none=>.t [(true,[.d (.l []),.d (.l [])]),(false,[.d (bD false)])]
theorem Sc(t:AW)(col:W)(hr:t.rows.length≤4096)(hcl:t.cols.length≤4096):Pure Tryz.prog TB 114 [DW t,eT col] (IB (Fu t col)):=by
 have hc1:=KK (TB:=TB) t.rows (by omega)
 have hc2:=KK (TB:=TB) t.cols (by omega)
 refine AD.Hv (AD.ofM 2 (Nat.le_refl _) Tryz.func114 rfl rfl (by kernel_rfl) (Nat.le_of_ble_eq_true rfl) ?_);intro Γ hΓ
 (repeat first|refine aU rfl ?_)
 (refine Ai rfl ?_;refine Bs (fun _ _=>C0 rfl rfl rfl) rfl ?_)
 (repeat first|refine sN rfl ?_ |refine tM rfl ?_ |refine s2 rfl fun _ _hb=>?_ |(refine sC rfl (MY t.cols col) ?_;intro _ _hb) |refine s3 rfl ?_ ?_<;>rintro rfl |refine aU rfl ?_ |refine Aa ?_)
 ·(refine aC rfl ?_ ?_<;>rintro⟨⟩)
  have hn:Fu t col=none:=by unfold Fu;rw [if_pos (.inl (by (simp only[oZ] at *;omega)))]
  (repeat first|refine tM rfl ?_|(refine Ai rfl ?_;refine gA rfl ?_;first| refine gS (fun _ _=>AQ rfl rfl (by rfl) (by rfl)) ?_) |refine aU rfl ?_ |refine Aa ?_)
  refine Au.freeze [0] [(4,.o (.ip [.l [],.l []])),(5,eB false)] ⟨⟨_,rfl,.o (.ptr (by simp) rfl rfl rfl)⟩,⟨_,rfl,.AE⟩,trivial⟩ ?_
  refine aR ⟨_,rfl,?_⟩
  rw [hn];rfl
 (repeat first|refine tM rfl ?_ |(refine sC rfl (MY t.cols col) ?_;intro _ _hb) |refine Aa ?_)
 (refine aC rfl ?_ ?_<;>rintro⟨⟩)
 ·have hn:Fu t col=none:=by unfold Fu;rw [if_pos (.inr (by (simp only[oZ] at *;omega)))]
  (repeat first|refine tM rfl ?_|(refine Ai rfl ?_;refine gA rfl ?_;first| refine gS (fun _ _=>AQ rfl rfl (by rfl) (by rfl)) ?_) |refine aU rfl ?_ |refine Aa ?_)
  refine Au.freeze [0] [(4,.o (.ip [.l [],.l []])),(5,eB false)] ⟨⟨_,rfl,.o (.ptr (by simp) rfl rfl rfl)⟩,⟨_,rfl,.AE⟩,trivial⟩ ?_
  refine aR ⟨_,rfl,?_⟩
  rw [hn];rfl
 ·refine aK ?_
  refine aS ?_
  refine rG (mL [0,1,3,4,6,7,2,5,8,9,10,11] [2,5,8,10] [0,1,3,4,6,7]) (by kernel_rfl) ?_
  (repeat first|refine tA rfl ?_)
  (refine pW rfl ?_ rfl (by rfl);refine Bx [] rfl rfl hc1 ⟨rfl,by simp,by simp⟩ rfl trivial ?_;rintro x0 σ1 nx1 ⟨rfl,rfl,rfl⟩ _)
  (refine pW rfl ?_ rfl (by rfl);refine Bx [] rfl rfl hc2 ⟨rfl,by simp,by simp⟩ rfl trivial ?_;rintro x0 σ1 nx1 ⟨rfl,rfl,rfl⟩ _)
  (refine pW rfl ?_ rfl (by rfl);refine AH rfl rfl rfl (by first| (simp;done)|(simp;(omega))) rfl (by intro r hr;simp at hr;subst hr;rfl) (by rfl) (Nat.le_of_ble_eq_true rfl) (by simp;omega) ?_)
  (repeat first|refine tA rfl ?_|(refine Ai rfl ?_;refine gA rfl ?_;first| refine gS (fun _ _=>AQ rfl rfl (by rfl) (by rfl)) ?_) |refine Aa ?_)
  have hnm:col∉t.cols:=by simpa using _hb
  have hn:Fu t col=some ⟨t.rows,t.cols++[col]⟩:=by
   unfold Fu
   rw [if_neg]
   rintro(h|h)
   ·(simp only[oZ] at *;omega)
   ·exact hnm h
  refine Au.names [0,1,3] [(4,.o (.ptr 0 2 0 0)),(5,eB true)] [(0,.cells 99 2 [[.arr 1 1 0 t.rows.length,.arr 2 1 0 (t.cols.length+1)]]),(1,.cells 9 1 (t.rows.map Ez)),(2,.cells 9 1 ((t.cols++[col]).map Ez))] (by intro i hi;rw [hΓ] at hi;omega) (by simp) (by simp[cX,zC,hΓ,IC]) (by simp[cX,zC,hΓ,IC,Ab.A3,BN,Bi,eC,Af]) ?_
  refine Au.N6 [1,2] [(4,.o (.ptr 0 2 0 0)),(5,eB true)] [(0,.cells 99 2 [[.d (Ch t.rows),.d (Ch (t.cols++[col]))]])] ⟨⟨_,rfl,.AE⟩,⟨_,rfl,.AE⟩,trivial⟩ ⟨⟨_,rfl,by simp,.cons (.full (by simp) rfl (by simp [Function.comp_def]) (by simp)) (.cons (.full (by simp) rfl (by simp [Function.comp_def]) (by simp)) .nil)⟩,trivial⟩ ?_
  refine Au.freeze [0] [(4,.o (.ip [Ch t.rows,Ch (t.cols++[col])])),(5,eB true)] ⟨⟨_,rfl,.o (.ptr (by simp) rfl rfl rfl)⟩,⟨_,rfl,.AE⟩,trivial⟩ ?_
  refine aR ⟨_,rfl,?_⟩
  rw [hn];rfl
structure GY (al:Int) (b:Nat) (t:AW):Prop where
 onR:∀w∈t.rows,AK (AZ al) w∧w.length≤b
 onC:∀x∈t.cols,AK (AZ al) x∧x.length≤20000
 rl:t.rows.length≤12
 cl:t.cols.length≤20
def RZ(ok:W→Prop)(al:Int):Prop:=∀w,AK (AZ al) w→w.length≤50000→ok w
def MV(ls:List UInt8)(t:AW)(v:W):Prop:=∃r∈t.rows,∃m:W,(m=[]∨∃l∈ls,m=[l])∧∃x:W,(x=[]∨x∈t.cols)∧v=r++m++x
def IN(ok:W→Prop)(ls:List UInt8)(t:AW):Prop:=∀v,MV ls t v→ok v
def EI(L:W→Bool)(ls:List UInt8):Nat→AW→List AW
 | 0,t=>[t]
 | n+1,t=>t::match A8 L ls t with
  | none=>[]
  | some w=>if t.rows.length=12 then [] else EI L ls n ⟨t.rows++[w],t.cols⟩
theorem WA{L:W→Bool}{ls:List UInt8}{n:Nat}{t:AW}:t∈EI L ls n t:=by cases n<;>simp [EI]
theorem GY.ib{ok:W→Prop}{al:Int}{b:Nat}{t:AW}(h:GY al b t)(hf:IN ok (AZ al) t)(hb:b≤20100):aY ok t∧∀w∈t.rows,∀l∈AZ al,∀x∈t.cols,ok (w++[l]++x):=
  ⟨⟨fun w hw x hx=>hf _ ⟨w,hw,[],.inl rfl,x,.inr hx,by simp⟩,fun w hw=>by have:=(h.onR w hw).2;omega,fun x hx=>by have:=(h.onC x hx).2;omega,by have:=h.rl;omega,by have:=h.cl;omega⟩,
   fun w hw l hl x hx=>hf _ ⟨w,hw,[l],.inr ⟨l,hl,rfl⟩,x,.inr hx,rfl⟩⟩
theorem GY.on{ok:W→Prop}{al:Int}{b:Nat}{t:AW}(h:GY al b t)(hf:RZ ok al)(hb:b≤20100):IN ok (AZ al) t:=by
 rintro v ⟨r,hr,m,hm,x,hx,rfl⟩
 have h1:=h.onR r hr
 have h2:AK (AZ al) m∧m.length≤1:=by
  rcases hm with rfl|⟨l,hl,rfl⟩
  ·exact⟨fun c hc=>by simp at hc,by simp⟩
  ·exact⟨fun c hc=>by simp at hc;subst hc;exact hl,by simp⟩
 have h3:AK (AZ al) x∧x.length≤20000:=by
  rcases hx with rfl|hx
  ·exact⟨fun c hc=>by simp at hc,by simp⟩
  ·exact h.onC x hx
 refine hf _ (fun c hc=>?_) (by simp;omega)
 simp only [List.mem_append] at hc
 rcases hc with (hc|hc)|hc
 ·exact h1.1 c hc
 ·exact h2.1 c hc
 ·exact h3.1 c hc
theorem GY.push{L:W→Bool}{al:Int}{b:Nat}{t:AW}{w:W}(h:GY al b t)(ho:A8 L (AZ al) t=some w)(hl:t.rows.length < 12):GY al (b+1) ⟨t.rows++[w],t.cols⟩:=by
 obtain⟨⟨r,hr,l,hl2,rfl⟩,_⟩:=Ir ho
 refine⟨fun u hu=>?_,h.onC,by simp;omega,h.cl⟩
 rcases List.mem_append.1 hu with hu|hu
 ·have:=h.onR u hu;exact⟨this.1,by omega⟩
 ·simp at hu
  subst hu
  have:=h.onR r hr
  refine⟨fun c hc=>?_,by simp;omega⟩
  rcases List.mem_append.1 hc with hc|hc
  ·exact this.1 c hc
  ·simp at hc;subst hc;exact hl2
theorem GY.grow{L:W→Bool}{al:Int}:∀ {n b:Nat} {t y:AW},GY al b t→y∈EI L (AZ al) n t→GY al (b+n) y
 | 0,b,t,y,h,hy=>by simp [EI] at hy;subst hy;exact h
 | n + 1, b,t,y,h,hy=>by
  have hm:∀ {b':Nat} {z:AW},b'≤b+(n+1)→GY al b' z→GY al (b+(n+1)) z:=fun hb hz=>⟨fun w hw=>⟨(hz.onR w hw).1,Nat.le_trans (hz.onR w hw).2 hb⟩,hz.onC,hz.rl,hz.cl⟩
  unfold EI at hy
  rcases List.mem_cons.1 hy with rfl|hy
  ·exact hm (by omega) h
  ·cases ho:A8 L (AZ al) t with
   | none=>rw [ho] at hy;simp at hy
   | some w=>
    rw [ho] at hy
    dsimp only at hy
    split at hy
    ·simp at hy
    ·have:=h.rl
     exact hm (by omega) (GY.grow (h.push ho (by omega)) hy)
theorem GY.mQ{L:W→Bool}{ok:W→Prop}{al:Int}{b:Nat}{t:AW}(h:GY al b t)(hf:RZ ok al)(hb:b≤20000):∀y∈EI L (AZ al) 13 t,IN ok (AZ al) y:=fun y hy=>(h.grow hy).on hf (by omega)
theorem IU{c:C}{L:W→Bool}{ok:W→Prop}(hc:JL Tryz.prog TB c L ok)(al:Int)(t:AW)(hf:∀y∈EI L (AZ al) 13 t,IN ok (AZ al) y)(ht:GY al 20000 t) :
 Pure Tryz.prog TB 107 [IX al c,DW t] (IB (Bf L (AZ al) 13 t)):=by
 have hr:=EO c hc.Cp
 have hrl:=ht.rl
 have hcl:=ht.cl
 have hc1:=KK (TB:=TB) t.rows (by omega)
 have hc2:=KK (TB:=TB) t.cols (by omega)
 refine AD.Hv (AD.ofM 2 (Nat.le_refl _) Tryz.func107 rfl rfl (by kernel_rfl) (Nat.le_of_ble_eq_true rfl) ?_);intro Γ hΓ
 (repeat first|refine aU rfl ?_)
 (refine pW rfl ?_ rfl (by rfl);refine Da rfl rfl ?_)
 (refine Ai rfl ?_;refine Bs (fun _ _=>C0 rfl rfl rfl) rfl ?_)
 (repeat first|refine tM rfl ?_ |refine aU rfl ?_ |refine Aa ?_)
 refine R.NR [(7,3),(0,2),(1,2),(3,2),(4,2),(2,1),(5,1),(6,0),(8,5)] mixed (by kernel_rfl) rfl (by kernel_rfl) ?_
 (repeat ((refine R.Ai rfl ?_;first|(refine R.yQ (md:=false) rfl rfl rfl ?_ ?_;exact tI) |refine R.yP rfl rfl rfl rfl ?_ )))
 (refine R.Ai rfl ?_;refine R.NQ (fun _=>?_) rfl rfl;refine Bx [] rfl rfl hc1 ⟨rfl,by simp,by simp⟩ rfl trivial ?_;rintro x0 σ1 nx1 ⟨rfl,rfl,rfl⟩ _)
 (refine R.Ai rfl ?_;refine R.NQ (fun _=>?_) rfl rfl;refine Bx [] rfl rfl hc2 ⟨rfl,by simp,by simp⟩ rfl trivial ?_;rintro x0 σ1 nx1 ⟨rfl,rfl,rfl⟩ _)
 (repeat ((refine R.Ai rfl ?_;first|refine R.yA rfl rfl rfl rfl ?_|refine R.Bs (fun _ _ _=>AQ rfl rfl (by rfl) (by rfl)) rfl rfl ?_ )))
 refine R.NM ?_
 refine aB ?_
 have hz:∀x:AW,A8 L (AZ al) x=none∨∃w,A8 L (AZ al) x=some w:=fun x=>by cases A8 L (AZ al) x<;>simp
 refine Au.AP (α:={p:Nat×AW // p.1≤13∧13≤p.1+p.2.rows.length∧GY al (20000+p.2.rows.length) p.2∧Bf L (AZ al) 13 t=Bf L (AZ al) p.1 p.2∧∀y∈EI L (AZ al) p.1 p.2,IN ok (AZ al) y}) (fun ⟨⟨m,u⟩,hm,hmu,hu,he,hgr⟩=>[(2,.o (.ptr 0 2 0 0)),(4,.o (.ptr 1 2 0 0)),(6,.o (.ptr 4 2 0 0))]) (fun ⟨⟨m,u⟩,hm,hmu,hu,he,hgr⟩=>[(0,.cells 92 2 [[.d (iD al),c]]),(1,.cells 99 2 [[.d (.l []),.d (.l [])]]),(2,.cells 9 1 (u.rows.map Ez)),(3,.cells 9 1 (u.cols.map Ez)),(4,.cells 99 2 [[.arr 2 1 0 u.rows.length,.arr 3 1 0 u.cols.length]])]) 5 (fun ⟨⟨m,u⟩,hm,hmu,hu,he,hgr⟩=>m) (⟨(13,t),by simp,by simp,⟨fun w hw=>⟨(ht.onR w hw).1,by have:=(ht.onR w hw).2;omega⟩,ht.onC,ht.rl,ht.cl⟩,rfl,hf⟩) [0,1,2,3,4] (Di hΓ rfl rfl) (by (simp[cX,zC,hΓ,hr,eC,Ab.A3,BN,IC,Bi,Af])) ?_;rintro⟨⟨m,u⟩,hm,hmu,hu,he,hgr⟩;(try dsimp only)
 dsimp only at hm hmu hu he hgr
 have htk:∀l:List W,((l.map Ez).drop 0).take l.length=(l.map Ed).map (fun r=>r.map C.d):=fun l=>by rw [List.drop_zero,List.take_of_length_le (by simp)];simp [Function.comp_def]
 have hur:=hu.rl
 have huc:=hu.cl
 have hask:=hu.ib (hgr u WA) (by omega)
 have hfo:=Sq (TB:=TB) hc al u hask.1 hask.2
 have hev:gY [(0,.cells 92 2 [[.d (iD al),c]]),(1,.cells 99 2 [[.d (.l []),.d (.l [])]]),(2,.cells 9 1 (u.rows.map Ez)),(3,.cells 9 1 (u.cols.map Ez)),(4,.cells 99 2 [[.arr 2 1 0 u.rows.length,.arr 3 1 0 u.cols.length]])] [.a [.d (iD al),c],.a [.arr 2 1 0 u.rows.length,.arr 3 1 0 u.cols.length]] [IX al c,DW u]:=
  .cons (.cons (.pure rfl) (.cons (.pure hc.Cp) .nil)) (.cons (.cons (.arr rfl (by simp) (htk _)) (.cons (.arr rfl (by simp) (htk _)) .nil)) .nil)
 refine aB ?_
 rcases hz u with ho|⟨w,ho⟩
 ·rw [ho] at hfo
  (repeat first|refine tM rfl ?_ |refine s2 rfl fun _ _hb=>?_|(refine Ai rfl ?_;refine gA rfl ?_;first| refine gQ (Iu rfl rfl (hev) (hfo) rfl) rfl ?_) |refine aU rfl ?_ |refine Aa ?_)
  (refine aC rfl ?_ ?_<;>rintro⟨⟩)
  ·(repeat first|refine tM rfl ?_ |refine aU rfl ?_ |refine Aa ?_)
   have hn:Bf L (AZ al) 13 t=some u:=by
    rw [he]
    obtain⟨m',rfl⟩:∃m',m=m'+1:=⟨m - 1,by omega⟩
    simp [Bf,ho]
   refine Au.names [1,2,3] [(4,.o (.ptr 0 2 0 0)),(5,eB true)] [(0,.cells 99 2 [[.arr 1 1 0 u.rows.length,.arr 2 1 0 u.cols.length]]),(1,.cells 9 1 (u.rows.map Ez)),(2,.cells 9 1 (u.cols.map Ez))] (by intro i hi;rw [hΓ] at hi;omega) (by simp) (by simp[cX,zC,hΓ,IC]) (by simp[cX,zC,hΓ,IC,Ab.A3,BN,Bi,eC,Af]) ?_
   refine Au.N6 [1,2] [(4,.o (.ptr 0 2 0 0)),(5,eB true)] [(0,.cells 99 2 [[.d (Ch u.rows),.d (Ch u.cols)]])] ⟨⟨_,rfl,.AE⟩,⟨_,rfl,.AE⟩,trivial⟩ ⟨⟨_,rfl,by simp,.cons (.full (by simp) rfl (by simp [Function.comp_def]) (by simp)) (.cons (.full (by simp) rfl (by simp [Function.comp_def]) (by simp)) .nil)⟩,trivial⟩ ?_
   refine Au.freeze [0] [(4,.o (.ip [Ch u.rows,Ch u.cols])),(5,eB true)] ⟨⟨_,rfl,.o (.ptr (by simp) rfl rfl rfl)⟩,⟨_,rfl,.AE⟩,trivial⟩ ?_
   refine aR ⟨_,rfl,?_⟩
   rw [hn];rfl
  ·simp at _hb
 ·rw [ho] at hfo
  (repeat first|refine tM rfl ?_ |refine s2 rfl fun _ _hb=>?_|(refine Ai rfl ?_;refine gA rfl ?_;first| refine gQ (Iu rfl rfl (hev) (hfo) rfl) rfl ?_) |refine aU rfl ?_ |refine Aa ?_)
  (refine aC rfl ?_ ?_<;>rintro⟨⟩)
  ·simp at _hb
  ·refine aK ?_
   (repeat first|refine tM rfl ?_ |refine s2 rfl fun _ _hb=>?_ |refine aU rfl ?_ |refine Aa ?_)
   (refine aC rfl ?_ ?_<;>rintro⟨⟩)
   ·(repeat first|refine tM rfl ?_|(refine Ai rfl ?_;refine gA rfl ?_;first| refine gS (fun _ _=>AQ rfl rfl (by rfl) (by rfl)) ?_) |refine aU rfl ?_ |refine Aa ?_)
    have hn:Bf L (AZ al) 13 t=none:=by
     have h12:u.rows.length=12:=by (simp only[oZ] at *;omega)
     rw [he]
     obtain⟨m',rfl⟩:∃m',m=m'+1:=⟨m - 1,by omega⟩
     simp [Bf,ho,h12]
    refine Au.freeze [1] [(4,.o (.ip [.l [],.l []])),(5,eB false)] ⟨⟨_,rfl,.o (.ptr (by simp) rfl rfl rfl)⟩,⟨_,rfl,.AE⟩,trivial⟩ ?_
    refine aR ⟨_,rfl,?_⟩
    rw [hn];rfl
   ·refine aK ?_
    have hlt:u.rows.length < 12:=by (simp only[oZ] at *;omega)
    obtain⟨m',rfl⟩:∃m',m=m'+1:=⟨m - 1,by omega⟩
    have hn:Bf L (AZ al) 13 t=Bf L (AZ al) m' ⟨u.rows++[w],u.cols⟩:=by
     rw [he]
     conv=>lhs;unfold Bf
     rw [ho]
     dsimp only
     rw [if_neg (by omega)]
    have hp:=hu.push ho hlt
    (repeat first|refine tA rfl ?_ |refine aU rfl ?_)
    (refine pW rfl ?_ rfl (by rfl);refine AH rfl rfl rfl (by first| (simp;done)|(simp;(omega))) rfl (by intro r hr;simp at hr;subst hr;rfl) (by rfl) (Nat.le_of_ble_eq_true rfl) (by simp;omega) ?_)
    (repeat first|refine tM rfl ?_ |refine Aa ?_)
    refine⟨⟨⟨m',⟨u.rows++[w],u.cols⟩⟩,by dsimp only;omega,by simp;omega,by simpa [Nat.add_assoc] using hp,hn,fun y hy=>hgr y (by unfold EI;rw [ho];dsimp only;rw [if_neg (by omega)];exact List.mem_cons_of_mem _ hy)⟩,by dsimp only;(omega),[0,1,5,3,4],?_⟩
    simp[cX,zC,hΓ,hr,eC,Ab.A3,BN,IC,Bi,Af]
def Bl:AW:=⟨[[]],[[]]⟩
theorem JH(al:Int):GY al 20000 Bl:=by
 refine⟨fun w hw=>?_,fun w hw=>?_,by decide,by decide⟩<;>(simp [Bl] at hw;subst hw;exact⟨fun c hc=>by simp at hc,by simp⟩)
theorem SO{c:C}{L:W→Bool}{ok:W→Prop}(hc:JL Tryz.prog TB c L ok)(al:Int)(hf:∀y∈EI L (AZ al) 13 Bl,IN ok (AZ al) y) :
 Pure Tryz.prog TB 60 [IX al c] (IB (Bf L (AZ al) 13 Bl)):=by
 have hr:=EO c hc.Cp
 have h:=IU hc al Bl hf (JH al)
 refine AD.Hv (AD.ofM 2 (Nat.le_refl _) Tryz.func60 rfl rfl (by kernel_rfl) (Nat.le_of_ble_eq_true rfl) ?_);intro Γ hΓ
 generalize Bf L (AZ al) 13 Bl=o at h ⊢
 (repeat first|refine aU rfl ?_)
 (refine pW rfl ?_ rfl (by rfl);refine Da rfl rfl ?_)
 (repeat first|refine tM rfl ?_ |refine aU rfl ?_ |refine Aa ?_)
 have hpu:([IX al c,DW Bl].all E.Cp && C.Dr [])=true:=by simp [IX,DW,E.Cp,C.Dr,C.Cp,hc.Cp]
 cases o with
 | none=>
  (repeat first|refine tA rfl ?_|(refine Ai rfl ?_;refine gA rfl ?_;first| refine gS (fun _ _=>AO rfl rfl hpu h rfl) ?_|refine gS (fun _ _=>AQ rfl rfl (by rfl) (by rfl)) ?_) |refine Aa ?_)
  refine Au.freeze [1] [(2,.o (.ip [.l [],.l []])),(3,eB false)] ⟨⟨_,rfl,.o (.ptr (by simp) rfl rfl rfl)⟩,⟨_,rfl,.AE⟩,trivial⟩ ?_
  refine aR ⟨_,rfl,?_⟩
  rfl
 | some u=>
  (repeat first|refine tA rfl ?_|(refine Ai rfl ?_;refine gA rfl ?_;first| refine gS (fun _ _=>AO rfl rfl hpu h rfl) ?_|refine gS (fun _ _=>AQ rfl rfl (by rfl) (by rfl)) ?_) |refine Aa ?_)
  refine Au.freeze [1] [(2,.o (.ip [Ch u.rows,Ch u.cols])),(3,eB true)] ⟨⟨_,rfl,.o (.ptr (by simp) rfl rfl rfl)⟩,⟨_,rfl,.AE⟩,trivial⟩ ?_
  refine aR ⟨_,rfl,?_⟩
  rfl
def AT(L:W→Bool)(al:Int)(t:AW):AU:=⟨al,t.rows.map fun r=>(Ac al).map fun l=>((CX L t (r++[lb l]):Nat):Int),t.rows.map L⟩
theorem UB{L:W→Bool}{al:Int}{t:AW}(ho:A8 L (AZ al) t=none){r:W}(hr:r∈t.rows){l:Int}(hl:l∈Ac al) :
 (CM (BS L t t.rows.length) (marks L t.cols (r++[lb l]))).getD 0=((CX L t (r++[lb l]):Nat):Int):=by
 have hm:marks L t.cols (r++[lb l])∈AF L t:=by
  have:=List.find?_eq_none.1 ho (r++[lb l]) (by
   unfold CJ
   exact List.mem_flatMap.2 ⟨r,hr,List.mem_map.2 ⟨lb l,List.mem_map.2 ⟨l,hl,rfl⟩,rfl⟩⟩)
  simpa using this
 rw [UO,if_pos hm]
 rfl
end Go.Am
namespace Go.Am
set_option linter.unusedVariables false
theorem ZT(L:W→Bool)(cols:List W)(v w:W):marks L (cols++[v]) w=marks L cols w++[Rp (L (w++v))]:=by simp [marks]
theorem BL.row{L:W→Bool}{ls:List UInt8}{t:AW}(h:BL L ls t){i j:Nat}{r s:W}(hi:t.rows[i]? = some r)(hj:t.rows[j]? = some s)(he:marks L t.cols r=marks L t.cols s):i=j:=by
 have h1:(AF L t)[i]? = some (marks L t.cols r):=by simp [AF,hi]
 have h2:(AF L t)[j]? = some (marks L t.cols r):=by simp [AF,hj,he]
 have l1:=(List.getElem?_eq_some_iff.1 h1).1
 have l2:=(List.getElem?_eq_some_iff.1 h2).1
 have e1:=(List.getElem?_eq_some_iff.1 h1).2
 have e2:=(List.getElem?_eq_some_iff.1 h2).2
 have hp:=List.pairwise_iff_getElem.1 h.nd
 rcases Nat.lt_trichotomy i j with h3|h3|h3
 ·exact absurd (e1.trans e2.symm) (hp i j l1 l2 h3)
 ·exact h3
 ·exact absurd (e2.trans e1.symm) (hp j i l2 l1 h3)
structure Split (L:W→Bool) (ls:List UInt8) (t:AW) (u v:W):Prop where
 suf:∃p,p≠[]∧u=p++v
 new:v∉t.cols
 opens:∃r∈t.rows,∃c∈ls,marks L (t.cols++[v]) (r++[c])∉AF L ⟨t.rows,t.cols++[v]⟩
theorem Vs{L:W→Bool}{ls:List UInt8}{t:AW}(h:BL L ls t)(b:Bool):∀(u:W) (i:Nat) (r:W),AK ls u→t.rows[i]? = some r→L (r++u)=b→L (t.rows.getD (runM L t i u) [])≠b→∃v,splitAt L t b i u=some v∧Split L ls t u v
 | [],i,r,_,hi,hb,hn=>by
  have h1:t.rows.getD i []=r:=by simp [hi]
  rw [List.append_nil] at hb
  exact absurd (by show L (t.rows.getD i [])=b;rw [h1];exact hb) hn
 | c :: v,i,r,hu,hi,hb,hn=>by
  have hc:c∈ls:=hu c (by simp)
  have hgd:t.rows.getD i []=r:=by simp [hi]
  obtain⟨r',h1,h2⟩:=h.idx hi hc
  have hgd':t.rows.getD (CX L t (r++[c])) []=r':=by simp [h1]
  unfold splitAt
  rw [hgd,hgd']
  by_cases hv:L (r'++v)≠b
  ·rw [if_pos hv]
   have hrc:r++c::v=(r++[c])++v:=by simp
   have hne:L ((r++[c])++v)≠L (r'++v):=by rw [←hrc,hb];exact fun e=>hv e.symm
   refine⟨v,rfl,⟨[c],by simp,rfl⟩,fun hm=>hne ((UE.1 h2 v hm).symm),r,List.mem_of_getElem? hi,c,hc,fun hm=>?_⟩
   unfold AF at hm
   obtain⟨s,hs,he⟩:=List.mem_map.1 hm
   simp only [ZT] at he
   obtain⟨e1,e2⟩:=List.append_inj' he rfl
   obtain⟨q,hq,hqe⟩:=List.getElem_of_mem hs
   have hsq:t.rows[q]? = some s:=by rw [List.getElem?_eq_getElem hq,hqe]
   have:=h.row hsq h1 (e1.trans h2.symm)
   subst this
   rw [hsq] at h1
   injection h1 with h1
   subst h1
   have e3:Rp (L (s++v))=Rp (L (r++[c]++v)):=by simpa using e2
   exact hne (YB e3).symm
  ·rw [if_neg hv]
   have hv':L (r'++v)=b:=by simpa using hv
   have hn':L (t.rows.getD (runM L t (CX L t (r++[c])) v) [])≠b:=by
    have:runM L t i (c::v)=runM L t (CX L t (r++[c])) v:=by show runM L t (CX L t (t.rows.getD i []++[c])) v=_;rw [hgd]
    rwa [this] at hn
   obtain⟨w,h3,⟨p,hp,h4⟩,h5,h6⟩:=Vs h b v _ r' (fun x hx=>hu x (by simp [hx])) h1 hv' hn'
   exact⟨w,h3,⟨c::p,by simp,by rw [h4];rfl⟩,h5,h6⟩
theorem fH{L:W→Bool}{ls:List UInt8}{t:AW}{r:W}{c:UInt8}(hr:r∈t.rows)(hc:c∈ls)(hm:marks L t.cols (r++[c])∉AF L t):A8 L ls t≠none:=fun h=>hm (GM h r hr c hc)
def LZ(L:W→Bool)(t:AW)(w:W):Bool:=L (t.rows.getD (runM L t 0 w) [])
def kD(L:W→Bool)(ls:List UInt8)(t:AW)(w:W):Option AW:=(splitAt L t (L w) 0 w).bind fun v=>Bf L ls 13 ⟨t.rows,t.cols++[v]⟩
structure Next (L:W→Bool) (ls:List UInt8) (t:AW) (w v:W) (t':AW):Prop where
 split:splitAt L t (L w) 0 w=some v
 close:Bf L ls 13 ⟨t.rows,t.cols++[v]⟩=some t'
 next:kD L ls t w=some t'
 ok:BL L ls t'
 cols:t'.cols=t.cols++[v]
 new:v∉t.cols
 suf:∃p,p≠[]∧w=p++v
 more:t.rows.length < t'.rows.length
 pre:t.rows <+: t'.rows
structure Wr (L:W→Bool) (ls:List UInt8) (wr:AW→Option W):Prop where
 on:∀t w,wr t=some w→BL L ls t→AK ls w∧LZ L t w≠L w
def Fh(a:AU):Int→W→Int
 | q,[]=>q
 | q,c::w=>Fh a (Cy a q.toNat ((c.toNat:Int) - 97)) w
def LA(a:AU)(w:W):Bool:=a.ac.getD (Fh a 0 w).toNat false
theorem U9(a:AU):∀(u w:W) (q:Int),Fh a q (u++w)=Fh a (Fh a q u) w
 | [],_,_=>rfl
 | c::u,w,q=>U9 a u w _
theorem Mt{l:Int}(h0:0≤l)(h1:l < 6):((lb l).toNat:Int) - 97=l:=by
 unfold lb
 have:(97+l.toNat) % 256=97+l.toNat:=by omega
 simp [this]
 omega
theorem Ip{al:Int}{c:UInt8}(h:c∈AZ al):0≤(c.toNat:Int) - 97∧(c.toNat:Int) - 97 < 6:=by
 obtain⟨l,hl,rfl⟩:=List.mem_map.1 h
 have h1:=Ak hl
 rw [Mt h1.1 (by omega)]
 omega
theorem Tk{a:AU}(ha:AN a=true){al:Int}:∀(w:W) (q:Int),AK (AZ al) w→0≤q∧q < a.nx.length→0≤Fh a q w∧Fh a q w < a.nx.length
 | [],q,_,hq=>hq
 | c::w,q,hw,hq=>by
  have h1:=Ip (hw c (by simp))
  have h2:=Dg ha (q:=q.toNat) (by omega) h1.1 h1.2
  exact Tk ha w _ (fun x hx=>hw x (by simp [hx])) h2
theorem Oa{al:Int}{l:Int}(h:l∈Ac al):lb l∈AZ al:=List.mem_map.2 ⟨l,h,rfl⟩
theorem KI{L:W→Bool}{al:Int}{t:AW}(hal:A4 al=true)(h:BL L (AZ al) t)(hr:t.rows.length≤12):AN (AT L al t)=true:=by
 have h0:0 < t.rows.length:=(List.getElem?_eq_some_iff.1 h.r0).1
 unfold AN
 simp only [Bool.and_eq_true,decide_eq_true_eq,List.all_eq_true]
 refine⟨⟨⟨hal,by simp [AT];omega⟩,by simp [AT]⟩,fun row hrow=>?_⟩
 simp only [AT,List.mem_map] at hrow
 obtain⟨r,hr,rfl⟩:=hrow
 unfold FY
 simp only [Bool.and_eq_true,decide_eq_true_eq,List.all_eq_true]
 refine⟨by simp [AT],fun y hy=>?_⟩
 obtain⟨l,hl,rfl⟩:=List.mem_map.1 hy
 obtain⟨i,hi,he⟩:=List.getElem_of_mem hr
 obtain⟨r',h2,_⟩:=h.idx (i:=i) (r:=r) (by rw [List.getElem?_eq_getElem hi,he]) (Oa hl)
 have h3:=(List.getElem?_eq_some_iff.1 h2).1
 unfold Tp
 simp [AT]
 exact h3
theorem KU{L:W→Bool}{al:Int}{t:AW}{q:Nat}{c:UInt8}(hq:q < t.rows.length)(hc:c∈AZ al):Cy (AT L al t) q ((c.toNat:Int) - 97)=((CX L t (t.rows.getD q []++[c]):Nat):Int):=by
 obtain⟨l,hl,rfl⟩:=List.mem_map.1 hc
 have h1:=Ak hl
 rw [Mt h1.1 (by omega)]
 obtain⟨k,hk,he⟩:=List.getElem_of_mem hl
 have h2:(AI al 6)[k]? = some l:=by rw [List.getElem?_eq_getElem hk,he]
 have h3:=JX h2
 unfold Cy
 have h4:A0 (AT L al t).al l.toNat=true:=h1.2.2
 rw [if_pos h4]
 have h5:(AI (AT L al t).al l.toNat).length=k:=h3
 rw [h5]
 have h6:(AT L al t).nx.getD q []=(Ac al).map fun l=>((CX L t (t.rows.getD q []++[lb l]):Nat):Int):=by
  simp [AT,List.getD,hq]
 rw [h6]
 simp [List.getD,h2]
theorem RF{L:W→Bool}{al:Int}{t:AW}(h:BL L (AZ al) t):∀(w:W) (q:Nat),AK (AZ al) w→q < t.rows.length→Fh (AT L al t) q w=((runM L t q w:Nat):Int)
 | [],q,_,_=>rfl
 | c::w,q,hw,hq=>by
  have h1:t.rows[q]? = some t.rows[q]:=List.getElem?_eq_getElem hq
  have hc:=hw c (by simp)
  obtain⟨_,h2,_⟩:=h.idx h1 hc
  have h3:t.rows.getD q []=t.rows[q]:=by simp [h1]
  have h4:=(List.getElem?_eq_some_iff.1 h2).1
  show Fh (AT L al t) (Cy (AT L al t) ((q:Int)).toNat ((c.toNat:Int) - 97)) w=_
  rw [Int.toNat_natCast,KU hq hc]
  rw [←h3] at h4
  exact RF h w _ (fun x hx=>hw x (by simp [hx])) h4
theorem KC{L:W→Bool}{al:Int}{t:AW}(h:BL L (AZ al) t){w:W}(hw:AK (AZ al) w):LA (AT L al t) w=LZ L t w:=by
 have h0:0 < t.rows.length:=(List.getElem?_eq_some_iff.1 h.r0).1
 have h1:=h.run w 0 hw h0
 unfold LA LZ
 have h2:=RF h w 0 hw h0
 rw [show ((0:Nat):Int)=0 from rfl] at h2
 rw [h2,Int.toNat_natCast]
 simp [AT,List.getD,h1]
end Go.Am
namespace Go.Am
open Go
set_option linter.unusedVariables false
theorem JE{g:Gr}:∀ {u v:List Int} {a x:Int},reach g (u++v) a x↔∃y,reach g u a y∧reach g v y x
 | [],v,a,x=>⟨fun h=>⟨a,rfl,h⟩,fun ⟨y,h1,h2⟩=>by cases h1;exact h2⟩
 | l :: u,v,a,x=>by
  simp only [List.cons_append,reach]
  constructor
  ·rintro⟨y,hy,h⟩
   obtain⟨z,h1,h2⟩:=JE.1 h
   exact⟨z,⟨y,hy,h1⟩,h2⟩
  ·rintro⟨z,⟨y,hy,h1⟩,h2⟩
   exact⟨y,hy,JE.2 ⟨z,h1,h2⟩⟩
theorem ja(n:Nat)(f:Nat→Int)(h:∀i,i≤n→0≤f i∧f i < n):∃i j,i < j∧j≤n∧f i=f j:=by
 apply Classical.byContradiction
 intro hno
 have h1:((List.range (n+1)).map fun i=>(f i).toNat).Nodup:=by
  unfold List.Nodup
  rw [List.pairwise_map]
  refine List.pairwise_lt_range.imp_of_mem fun {a b} ha hb hab he=>hno ⟨a,b,hab,?_,?_⟩
  ·have:=List.mem_range.1 hb;omega
  ·have h2:=h a (by have:=List.mem_range.1 ha;omega)
   have h3:=h b (by have:=List.mem_range.1 hb;omega)
   omega
 have h2:=UN n _ h1 fun x hx=>by
  obtain⟨i,hi,rfl⟩:=List.mem_map.1 hx
  have:=h i (by have:=List.mem_range.1 hi;omega)
  omega
 simp at h2
 omega
theorem Cs.short{g:Gr}(hg:IQ g){w:List Int}(h:Cs g (some w)):w.length < g.N:=by
 obtain⟨h1,⟨x,hx,hgx⟩,h3⟩:=h
 apply Classical.byContradiction
 intro hlen
 have hsp:∀k,∃y,reach g (w.take k) g.s0 y∧reach g (w.drop k) y x:=fun k=>JE.1 (by rw [List.take_append_drop];exact hx)
 obtain⟨f,hf⟩:=Classical.axiomOfChoice hsp
 obtain⟨i,j,hij,hj,he⟩:=ja g.N f fun i _=>Dz hg (fun l hl=>h1 l (List.mem_of_mem_take hl)) hg.s0 (hf i).1
 refine h3 (w.take i++w.drop j) (fun l hl=>?_) ⟨x,JE.2 ⟨f i,(hf i).1,he ▸ (hf j).2⟩,hgx⟩ (.inl ?_)
 ·rcases List.mem_append.1 hl with hl|hl
  ·exact h1 l (List.mem_of_mem_take hl)
  ·exact h1 l (List.mem_of_mem_drop hl)
 ·simp;omega
theorem er{al:Int}:∀ {w:List Int},(∀l∈w,l∈Ac al)→AK (AZ al) (Dk w):=fun {w} h c hc=>by
 obtain⟨l,hl,rfl⟩:=List.mem_map.1 hc
 exact Oa (h l hl)
theorem MN(L:W→Bool)(ls:List UInt8):TOk L ls Bl:=by
 refine⟨rfl,rfl,fun i w hi h0=>?_,fun w hw=>?_,fun w hw=>?_,by simp [AF,Bl],by simp [Bl]⟩
 ·have:=(List.getElem?_eq_some_iff.1 hi).1
  simp [Bl] at this;omega
 ·simp [Bl] at hw;subst hw;exact fun c hc=>(by cases hc)
 ·simp [Bl] at hw;subst hw;exact fun c hc=>(by cases hc)
theorem TOk.short{L:W→Bool}{ls:List UInt8}{t:AW}(h:TOk L ls t):∀(i:Nat) w,t.rows[i]? = some w→w.length≤i:=by
 intro i
 induction i using Nat.strongRecOn with
 | _ i ih=>
  intro w hw
  rcases Nat.eq_zero_or_pos i with h0|h0
  ·subst h0
   rw [h.r0] at hw
   injection hw with hw
   subst hw;simp
  ·obtain⟨h1,j,hj,h2⟩:=h.pre i w hw h0
   have:=ih j hj _ h2
   simp at this
   omega
def cd:Option TypeDesc→Bool
 | some (.func ..)=>true
 | _=>false
class gF (P:Program) (t:TypeId):Prop where
 out:cd (P.underlying t)=true
theorem fZ{P:Program}{t:TypeId}(h:cd (P.underlying t)=true)(w:World):(Op.equal t .nilFunc .nilFunc).run P w=.ok true w∧∀(g:Fn) (a b:Array Value),(Op.equal t (.func g a b) .nilFunc).run P w=.ok false w:=by
 unfold cd at h
 split at h
 ·rename_i he
  unfold Op.equal Op.maxDepth
  rw [show 10000=9999+1 from rfl,Op.equalIn]
  refine⟨by simp [run_underlying he,go_sem],fun g a b=>?_⟩
  rw [Op.equalIn]
  simp [run_underlying he,go_sem]
 ·cases h
section
variable {P:Program}{TB:Bt}{Γ:Ctx}{d:Option Tmp}{ty:TypeId}{pos:String}{af:Array Edge}{g:Option (Nat×Bool)}{f:Env}{σ:Ab}{nx:Nat}
theorem jk{t yt:TypeId}{x y:Operand}{gg:FuncId}{cap:List C}[hp:gF P t](hx:ev f x=some (.o (.fn gg cap)))(hy:ev f y=some (.o (.d (.v .nilFunc)))):AS P TB Γ ⟨d,.binOp .neq t x y yt,ty,pos,af,g⟩ f σ nx (eB true):=
 AJ fun V ρ h1 _=>by
  obtain⟨vs,hv,_⟩:=Mm (h1.get (by simp [Op.operands]) hx)
  have h3:ρ y=.nilFunc:=AB.val (h1.get (by simp [Op.operands]) hy)
  refine⟨.bool true,?_,.d (.v rfl)⟩
  have h6:binOp .neq t (.func (.func gg) #[] vs) .nilFunc=(do pure (.bool (!(←Op.equal t (.func (.func gg) #[] vs) .nilFunc)))):=rfl
  have h7:eqGuard .neq t x y (.func (.func gg) #[] vs) .nilFunc=pure ():=rfl
  have h9:execOp ρ ⟨d,.binOp .neq t x y yt,ty,pos,af,g⟩=(do let v ←(do eqGuard .neq t x y (ρ x) (ρ y);binOp .neq t (ρ x) (ρ y));pure (.value v)):=rfl
  rw [h9,hv,h3,h6,h7]
  simp [(fZ hp.out V.w).2,go_sem]
end
def OW(L:List (Nat×E)):List Nat→Option (List (Nat×E))
 | []=>some []
 | k::r=>match look L k,OW L r with
  | some e,some l=>some ((k,e)::l)
  | _,_=>none
def Yv(σ:Ab):List Nat→Option Ab
 | []=>some []
 | k::r=>match look σ k,Yv σ r with
  | some e,some l=>some ((k,e)::l)
  | _,_=>none
section
variable {P:Program}{TB:Bt}{Γ:Ctx}{N:Nat}
theorem Au.ku{c:Code}{Q:Exit→Env→Ab→Nat→Prop}{L0 Lk:List (Nat×E)}{σ Sk:Ab}{nx:Nat}{α:Type}(ks is:List Nat)(hk:OW L0 ks=some Lk)(hi:Yv σ is=some Sk)(v:α→List (Nat×E))(s:α→Ab)(n:Nat)(μ:α→Nat)
 (x:α) (l0:List Nat) (hl0:(∀i,i < Γ.V.nx→l0[i]? = some i)∧l0.Nodup∧l0.length=n) (h0:DO (nm l0 nx) (look L0) (v x++Lk)∧A7 (nm l0 nx) σ (s x++Sk))
 (round:∀x,Au P TB Γ N c (LG (fun f σ nx=>∃y,μ y < μ x∧∃l:List Nat,(∀i,i < Γ.V.nx→l[i]? = some i)∧l.Nodup∧l.length=n∧DO (nm l nx) f (v y++Lk)∧A7 (nm l nx) σ (s y++Sk)) Q) (look (v x++Lk)) (s x++Sk) n) :
 Au P TB Γ N (.loop c) Q (look L0) σ nx:=Au.AP (fun x=>v x++Lk) (fun x=>s x++Sk) n μ x l0 hl0 h0 round
theorem aL{c:Code}{Q:Exit→Env→Ab→Nat→Prop}{L0 Lk:List (Nat×E)}{σ Sk:Ab}{nx:Nat}{α:Type}(ks is:List Nat)(hk:OW L0 ks=some Lk)(hi:Yv σ is=some Sk)(v:α→List (Nat×E))(s:α→Ab)(n:Nat)(μ:α→Nat)
 (x:α) {m:Nat} (hΓ:Γ.V.nx=m) (hn:Nat.ble m n=true) (h0:DO (nm (List.range n) nx) (look L0) (v x++Lk)∧A7 (nm (List.range n) nx) σ (s x++Sk))
 (round:∀x,Au P TB Γ N c (LG (fun f σ nx=>∃y,μ y < μ x∧∃l:List Nat,(∀i,i < Γ.V.nx→l[i]? = some i)∧l.Nodup∧l.length=n∧DO (nm l nx) f (v y++Lk)∧A7 (nm l nx) σ (s y++Sk)) Q) (look (v x++Lk)) (s x++Sk) n) :
 Au P TB Γ N (.loop c) Q (look L0) σ nx:=Au.ku ks is hk hi v s n μ x (List.range n) (rg hΓ hn) h0 round
end
inductive FZ (σ:Ab):C→D→Prop
 | d {x:D}:FZ σ (.d x) x
 | fn {g:FuncId}:FZ σ (.fn g []) (.v (.func (.func g) #[] #[]))
 | arr {id k off len:Nat} {T:TypeId} {rows:List (List C)} {ds:List (List D)} {rs:Nat→List C} {cs:Nat→Nat→C}:look σ id=some (.cells T k rows)→off+len≤rows.length→ds.length=len→
  (∀i r',ds[i]? = some r'→rows[off+i]? = some (rs i)∧(rs i).length=r'.length)→(∀i j r' x,ds[i]? = some r'→r'[j]? = some x→(rs i)[j]? = some (cs i j))→
  (∀i j r' x,ds[i]? = some r'→r'[j]? = some x→FZ σ (cs i j) x)→FZ σ (.arr id k off len) (.l ds)
 | ptr {id k i j:Nat} {T:TypeId} {rows:List (List C)} {r:List C} {ds:List D} {cs:Nat→C}:look σ id=some (.cells T k rows)→rows[i]? = some r→(∀q x,ds[q]? = some x→r[j+q]? = some (cs q))→(∀q x,ds[q]? = some x→FZ σ (cs q) x)→FZ σ (.ptr id k i j) (.p ds)
 | sld {id:Nat} {T:TypeId} {l:List (Value×List Value)} {v:Value} {row:List Value}:look σ id=some (.sld T l)→(v,row)∈l→FZ σ (.d (.v v)) (.l (row.map fun x=>[.v x]))
 | nl {b:Option Addr}:FZ σ (.d (.v (.slice b 0 0))) (.l [])
inductive NF (σ:Ab):List C→List D→Prop
 | nil:NF σ [] []
 | cons {c:C} {d:D} {cs:List C} {ds:List D}:FZ σ c d→NF σ cs ds→NF σ (c::cs) (d::ds)
theorem NF.get{σ:Ab}{cs:List C}{ds:List D}(h:NF σ cs ds):cs.length=ds.length∧∀(j:Nat) x,ds[j]? = some x→∃c,cs[j]? = some c∧FZ σ c x:=by
 induction h with
 | nil=>exact⟨rfl,fun j x h=>by simp at h⟩
 | @cons c d cs ds h1 _ ih=>
  refine⟨by simp [ih.1],fun j x hj=>?_⟩
  cases j with
  | zero=>simp at hj;subst hj;exact⟨c,rfl,h1⟩
  | succ j=>exact ih.2 j x (by simpa using hj)
theorem NF.refl{σ:Ab}:∀(ds:List D),NF σ (ds.map .d) ds
 | []=>.nil
 | d::ds=>.cons .d (NF.refl ds)
theorem FZ.rows{σ:Ab}{id k len:Nat}{T:TypeId}{rows:List (List C)}{ds:List (List D)}(hl:look σ id=some (.cells T k rows))(hn:ds.length=len)(hr:rows.length=len)(h:∀(i:Nat) (r':List D),ds[i]? = some r'→∃r,rows[i]? = some r∧NF σ r r'):FZ σ (.arr id k 0 len) (.l ds):=by
 refine .arr (rs:=fun i=>(rows[i]?).getD []) (cs:=fun i j=>(((rows[i]?).getD [])[j]?).getD (.d (.l []))) hl (by omega) hn (fun i r' hi=>?_) (fun i j r' x hi hj=>?_) (fun i j r' x hi hj=>?_)
 ·obtain⟨r,h1,h2⟩:=h i r' hi
  rw [Nat.zero_add,h1]
  exact⟨rfl,h2.get.1⟩
 ·obtain⟨r,h1,h2⟩:=h i r' hi
  obtain⟨c,h3,h4⟩:=h2.get.2 j x hj
  simp [h1,h3]
 ·obtain⟨r,h1,h2⟩:=h i r' hi
  obtain⟨c,h3,h4⟩:=h2.get.2 j x hj
  simp [h1,h3,h4]
theorem FZ.full{σ:Ab}{id k len:Nat}{T:TypeId}{rows:List (List C)}{ds:List (List D)}(hl:look σ id=some (.cells T k rows))(hr:rows=ds.map (fun r=>r.map .d))(hn:rows.length=len):FZ σ (.arr id k 0 len) (.l ds):=by
 refine .rows hl (by rw [←hn,hr];simp) hn fun i r' hi=>⟨r'.map .d,?_,NF.refl _⟩
 rw [hr];simp [hi]
theorem FZ.box{σ:Ab}{id k:Nat}{T:TypeId}{r:List C}{ds:List D}(hl:look σ id=some (.cells T k [r]))(h:NF σ r ds):FZ σ (.ptr id k 0 0) (.p ds):=by
 refine .ptr (cs:=fun q=>(r[q]?).getD (.d (.l []))) hl rfl (fun q x hq=>?_) (fun q x hq=>?_)
 ·obtain⟨c,h3,h4⟩:=h.get.2 q x hq
  rw [Nat.zero_add,h3];rfl
 ·obtain⟨c,h3,h4⟩:=h.get.2 q x hq
  simp [h3,h4]
inductive EZ (σ:Ab):E→E→Prop
 | AE {e:E}:e.Cp=true→EZ σ e e
 | o {c:C} {d:D}:FZ σ c d→EZ σ (.o c) (.o (.d d))
 | a {cs:List C} {ds:List D}:NF σ cs ds→EZ σ (.a cs) (.a (ds.map .d))
def TE(σ:Ab)(f:Env):List (Nat×E)→Prop
 | []=>True
 | (t,e')::L=>(∃e,f t=some e∧EZ σ e e')∧TE σ f L
theorem TE.get{σ:Ab}{f:Env}:∀ {L:List (Nat×E)},TE σ f L→∀t e',look L t=some e'→∃e,f t=some e∧EZ σ e e'
 | [],_,t,e,h=>by cases h
 | (k,x)::L,hs,t,e,h=>by
  rw [Ay] at h
  by_cases hk:k=t
  ·rw [if_pos hk] at h;injection h with h;subst h;subst hk;exact hs.1
  ·rw [if_neg hk] at h;exact TE.get hs.2 t e h
def EW(V:View)(σ:Ab):View:={ V with I:=fun b=>V.I b∨∃id o,look σ id=some o∧¬V.nl id∧EF V id o b }
theorem KF{V:View}{σ:Ab}:Ext V (EW V σ):=⟨fun _ h=>.inl h,fun _ _=>rfl,Nat.le_refl _,fun _ _=>rfl,fun _ _=>rfl,fun _ _=>Iff.rfl,Nat.le_refl _⟩
section
variable {P:Program}{TB:Bt}{Γ:Ctx}{N:Nat}{σ:Ab}
theorem KD.data{I:Nat→Prop}{w:World}{T:TypeId}{v:Value}{row:List Value}(h:KD w T v row)(hI:∀b,Kc v b→I b):CU I w (.l (row.map fun x=>[.v x])) v:=by
 rcases h with ⟨rfl,rfl⟩|⟨b,cap,cur,rfl,h2,h3,h4,h5,h6⟩
 ·exact .nil
 ·have hn:row.length=(row.map fun x=>[D.v x]).length:=by simp
  have hg:∀(i:Nat) (r:List D) (j:Nat) (d:D),(row.map fun x=>[D.v x])[i]? = some r→r[j]? = some d→j=0∧∃x,row[i]? = some x∧d=.v x:=fun i r j d hi hj=>by
   simp only [List.getElem?_map,Option.map_eq_some_iff] at hi
   obtain⟨x,hx,rfl⟩:=hi
   have hj0:j=0:=by have:=(List.getElem?_eq_some_iff.1 hj).1;simp at this;omega
   subst hj0
   simp at hj
   exact⟨rfl,x,hx,hj.symm⟩
  rw [hn]
  refine .l (k:=1) (vs:=fun i _=>(row[i]?).getD undef) (hI b ⟨_,_,_,rfl⟩) (by simpa using h4) h5 (fun i r hi=>?_) (fun i r j d hi hj=>?_) (fun i r j d hi hj=>?_)
  ·simp only [List.getElem?_map,Option.map_eq_some_iff] at hi
   obtain⟨x,hx,rfl⟩:=hi;rfl
  ·obtain⟨rfl,x,hx,rfl⟩:=hg i r j d hi hj
   simp [World.cell?,h2,hx,(h6 i x hx).1]
  ·obtain⟨rfl,x,hx,rfl⟩:=hg i r j d hi hj
   simp only [hx,Option.getD_some]
   exact .v (h6 i x hx).2
theorem FZ.rel{V:View}(hi:Inv TB Γ V σ){c:C}{d:D}(h:FZ σ c d):∀ {v:Value},AB V c v→CU (EW V σ).I V.w d v:=by
 induction h with
 | d=>intro v hc;cases hc with|d h=>exact h.ext (V:=V) (V':=EW V σ) KF
 | @sld id T l v row hl hm=>
  intro v' hc
  have hv:v'=v:=AB.val hc
  subst hv
  have h1:=hi.st.obj id _ hl
  exact(h1.2.2 _ hm).data fun b hb=>.inr ⟨id,_,hl,h1.1,⟨_,hm,hb⟩⟩
 | @nl b=>
  intro v' hc
  have hv:v'=_:=AB.val hc
  subst hv
  cases b
  ·exact .nil
  ·exact .e (Nat.zero_le _)
 | fn =>
  intro v hc
  cases hc with
  | @fn f cap vs h1 _=>
   have:vs = #[]:=Array.eq_empty_of_size_eq_zero (by simpa using h1)
   subst this
   exact .v rfl
 | @arr id k off len T rows ds rs cs hl hle hn h1 h2 _ ih=>
  intro v hc
  cases hc with
  | nil h3 h4=>
   have:ds=[]:=List.length_eq_zero_iff.1 hn
   subst this
   exact .nil
  | arr h3 hnl h4=>
   rcases hi.st.obj id _ hl with ⟨h5,_⟩|⟨_,cur,h5,h6,h7,h8,h9,h10⟩
   ·exact absurd h5 hnl
   ·have hcell:∀(i:Nat) (r:List D) (j:Nat) (x:D),ds[i]? = some r→r[j]? = some x→∃v,cur[(off+i)*k+j]? = some v∧CU (EW V σ).I V.w x v:=fun i r j x hi' hj=>by
     obtain⟨v,h11,h12⟩:=h10 (off+i) (rs i) j (cs i j) (h1 i r hi').1 (h2 i j r x hi' hj)
     exact⟨v,h11,ih i j r x hi' hj h12⟩
    rw [←hn] at h4 ⊢
    refine .l (b:=V.ρ id) (o:=off*k) (k:=k) (vs:=fun i j=>cur.getD ((off+i)*k+j) undef) (.inr ⟨id,_,hl,hnl,rfl⟩) (by omega) (by omega) (fun i r hi'=>?_) (fun i r j x hi' hj=>?_) (fun i r j x hi' hj=>?_)
    ·have h13:=h1 i r hi'
     rw [←h13.2]
     exact h9 _ (List.mem_of_getElem? h13.1)
    ·obtain⟨v,h11,_⟩:=hcell i r j x hi' hj
     have e:off*k+i*k+j=(off+i)*k+j:=by rw [Nat.add_mul]
     rw [e]
     simp [World.cell?,h5,h11]
    ·obtain⟨v,h11,h12⟩:=hcell i r j x hi' hj
     have:cur.getD ((off+i)*k+j) undef=v:=by simp [h11]
     simp only [this]
     exact h12
 | @ptr id k i j T rows r ds cs hl hri h1 _ ih=>
  intro v hc
  cases hc with
  | ptr h3 hnl=>
   rcases hi.st.obj id _ hl with ⟨h5,_⟩|⟨_,cur,h5,h6,h7,h8,h9,h10⟩
   ·exact absurd h5 hnl
   ·have hcell:∀(q:Nat) (x:D),ds[q]? = some x→∃v,cur[i*k+j+q]? = some v∧CU (EW V σ).I V.w x v:=fun q x hq=>by
     obtain⟨v,h11,h12⟩:=h10 i r (j+q) (cs q) hri (h1 q x hq)
     exact⟨v,by rw [Nat.add_assoc];exact h11,ih q x hq h12⟩
    refine .p (b:=V.ρ id) (o:=i*k+j) (vs:=fun q=>cur.getD (i*k+j+q) undef) (.inr ⟨id,_,hl,hnl,rfl⟩) (fun q x hq=>?_) (fun q x hq=>?_)
    ·obtain⟨v,h11,_⟩:=hcell q x hq
     simp [World.cell?,h5,h11]
    ·obtain⟨v,h11,h12⟩:=hcell q x hq
     have:cur.getD (i*k+j+q) undef=v:=by simp [h11]
     simp only [this]
     exact h12
theorem EZ.rel{V:View}(hi:Inv TB Γ V σ){e e':E}(h:EZ σ e e'){v:Value}(hv:Bd V e v):Bd (EW V σ) e' v:=by
 cases h with
 | AE=>exact hv.ext KF
 | o h=>exact AB.d (V:=EW V σ) (h.rel hi hv)
 | @a cs ds h=>
  obtain⟨vs,rfl,h1,h2⟩:=hv
  refine⟨vs,rfl,by rw [h1,h.get.1];simp,fun j c v hj hv=>?_⟩
  simp only [List.getElem?_map,Option.map_eq_some_iff] at hj
  obtain⟨x,hx,rfl⟩:=hj
  obtain⟨c,h3,h4⟩:=h.get.2 j x hx
  exact AB.d (V:=EW V σ) (h4.rel hi (h2 j c v h3 hv))
theorem Au.settle{c:Code}{Q:Exit→Env→Ab→Nat→Prop}{f:Env}{nx:Nat}(L:List (Nat×E))(hE:TE σ f L)(h:Au P TB Γ N c Q (look L) [] nx):Au P TB Γ N c Q f σ nx:=by
 intro V a hr
 refine h (EW V σ) a ⟨fun t x hx=>?_,fun t x hx=>?_,hr.size,?_,hr.nx,hr.defers⟩
 ·obtain⟨y,h1,h2⟩:=hE.get t x hx
  exact h2.rel hr.inv (hr.env t y h1)
 ·obtain⟨y,h1,_⟩:=hE.get t x hx
  exact hr.lt t y h1
 ·have hi:=hr.inv
  refine⟨hi.os,hi.tape,hi.output,hi.old,?_,?_,hi.ext.trans KF,Es,fun id o ho=>(by cases ho),fun x hx=>⟨.inl (hi.tabs x hx).1,(hi.tabs x hx).2⟩,hi.hid.same rfl (fun _ h=>.inl h) (fun b hb=>hb.elim .inl fun ⟨id,o,hl,hn,he⟩=>.inr ⟨id,o,hl,hn,he⟩) fun b ⟨_,_,h,_⟩=>by cases h⟩
  ·rintro b (hb|⟨id,o,hl,hn,hb⟩)
   ·exact hi.iLt b hb
   ·exact(hi.st.obj id o hl).blt hn hb
  ·rintro b (hb|⟨id,o,hl,hn,hb⟩)
   ·exact hi.iNew b hb
   ·exact .inr (hi.live id o hl hn b hb)
theorem QU{ids:List Nat}{L0:List (Nat×E)}:∀ {ks:List Nat} {Lk:List (Nat×E)},OW L0 ks=some Lk→Eh σ ids (look L0) Lk
 | [],Lk,h=>by injection h with h;subst h;trivial
 | k :: ks,Lk,h=>by
  unfold OW at h
  split at h
  ·rename_i e l h1 h2
   injection h with h
   subst h
   exact⟨⟨e,h1,.AE⟩,QU h2⟩
  ·cases h
theorem Eh.app{ids:List Nat}{f:Env}:∀ {L M:List (Nat×E)},Eh σ ids f L→Eh σ ids f M→Eh σ ids f (L++M)
 | [],_,_,h=>h
 | _::_,_,h,h'=>⟨h.1,Eh.app h.2 h'⟩
theorem Au.X8{c:Code}{Q:Exit→Env→Ab→Nat→Prop}{L0 Lk:List (Nat×E)}{nx:Nat}(ids ks:List Nat)(hk:OW L0 ks=some Lk)(L:List (Nat×E))(hE:Eh σ ids (look L0) L)(h:Au P TB Γ N c Q (look (L++Lk)) (BN ids σ) nx):Au P TB Γ N c Q (look L0) σ nx:=
 Au.freeze ids (L++Lk) (hE.app (QU hk)) h
section
variable {d:Option Tmp}{ty:TypeId}{pos:String}{af:Array Edge}{g:Option (Nat×Bool)}{f:Env}{nx:Nat}
theorem Tc{t:TypeId}{x lo:Operand}{s:List UInt8}{m:Int}{k:IntKind}[ht:DQ P t](hx:ev f x=some (eT s))(hl:ev f lo=some (eI k m))(h0:0≤m)(h1:m≤s.length):AS P TB Γ ⟨d,.slice t x (some lo) none none,ty,pos,af,g⟩ f σ nx (eT (s.drop m.toNat)):=by
 have h:=YR (P:=P) (TB:=TB) (Γ:=Γ) (d:=d) (ty:=ty) (pos:=pos) (af:=af) (g:=g) (σ:=σ) (nx:=nx) (t:=t) (x:=x) (lo:=some lo) (hi:=none) (l:=some (k,m)) (h:=none) hx (by simp [eU,hl]) rfl h0 h1 (Int.le_refl _)
 simpa [OR,O5] using h
theorem fU{t:TypeId}{x hi:Operand}{s:List UInt8}{m:Int}{k:IntKind}[ht:DQ P t](hx:ev f x=some (eT s))(hl:ev f hi=some (eI k m))(h0:0≤m)(h1:m≤s.length):AS P TB Γ ⟨d,.slice t x none (some hi) none,ty,pos,af,g⟩ f σ nx (eT (s.take m.toNat)):=by
 have h:=YR (P:=P) (TB:=TB) (Γ:=Γ) (d:=d) (ty:=ty) (pos:=pos) (af:=af) (g:=g) (σ:=σ) (nx:=nx) (t:=t) (x:=x) (lo:=none) (hi:=some hi) (l:=none) (h:=some (k,m)) hx rfl (by simp [eU,hl]) (Int.le_refl _) h0 h1
 simpa [OR,O5] using h
theorem Tf{t e:TypeId}{b n:Nat}{x hi:Operand}{rows:List (List D)}{m:Int}{k:IntKind}[hsl:CK P t e n b](hx:ev f x=some (.o (.d (.l rows))))(hl:ev f hi=some (eI k m))(hn:∀r∈rows,r.length=n)(h0:0≤m)(h1:m≤rows.length):AS P TB Γ ⟨d,.slice t x none (some hi) none,ty,pos,af,g⟩ f σ nx (.o (.d (.l (rows.take m.toNat)))):=by
 have h:=fR (P:=P) (TB:=TB) (Γ:=Γ) (d:=d) (ty:=ty) (pos:=pos) (af:=af) (g:=g) (σ:=σ) (nx:=nx) (t:=t) (x:=x) (lo:=none) (hi:=some hi) (l:=none) (h:=some (k,m)) hx rfl (by simp [eU,hl]) hn (Int.le_refl _) h0 h1
 simpa [OR,O5] using h
end
end
end Go.Am
namespace Go.Am
open Go Go.Proofs
instance:gF Tryz.prog 64:=⟨by kernel_rfl⟩
end Go.Am
namespace Go.Am
open Go Go.Proofs
set_option maxHeartbeats 1000000
attribute [local irreducible] AS BT Lex Bc Au Spec
variable {TB:Bt}
end Go.Am
namespace Go.Am
open Go
section
variable {P:Program}{TB:Bt}{Γ:Ctx}{d:Option Tmp}{ty:TypeId}{pos:String}{af:Array Edge}{g:Option (Nat×Bool)}{f:Env}{σ:Ab}{nx:Nat}
variable {K:E→Ab→Nat→Prop}
theorem Mw{t:TypeId}{z:List Value}{fl:List (Nat×Nat)}{parts:Array (Nat×Operand)}{es:List E}{qs:List (Nat×List C)}[hz:BM P t z][hf:ED P t fl](p k e q k' e':Nat)(hp:z[p]? = some (.slice none 0 0))(hp':z[q]? = some (.slice none 0 0))(hpq:p≠q)(hes:JP f (parts.toList.map (·.2))=some es)(hq:FD fl parts.toList es=some qs)
 (hok:z.all P4=true) (hle:(qs.all fun x=>Nat.ble (x.1+x.2.length) z.length)=true) (hK:K (.a (Bi qs (((z.map zC).set p (.arr nx k 0 0)).set q (.arr (nx+1) k' 0 0)))) ((nx+1,.cells e' k' [])::(nx,.cells e k [])::σ) (nx+2)):BT P TB Γ ⟨d,.build t parts,ty,pos,af,g⟩ f σ nx K:=
 Dx fun V ρ h1 h2 h3=>by
  subst h3
  obtain⟨i,zv,hi,hzv,hzz⟩:=Hw hz.out
  obtain⟨hi1,he1⟩:=h2.alloc (c:=0) (nl:=True) (w:=V.w) (ob:=.cells e k []) rfl rfl rfl rfl (Nat.le_refl _) (fun _ _=>rfl) (.inl ⟨by simp [Aw],rfl⟩)
  obtain⟨hi2,he2⟩:=hi1.alloc (c:=0) (nl:=True) (w:=V.w) (ob:=.cells e' k' []) rfl rfl rfl rfl (Nat.le_refl _) (fun _ _=>rfl) (.inl ⟨by simp [Aw],rfl⟩)
  have he3:=he1.trans he2
  have hfo:=De (V:=Aw (Aw V V.w.heap.size 0 True V.w) V.w.heap.size 0 True V.w) (ρ:=ρ) parts.toList es qs (fun x hx e he=>(h1.get (by simp only [Op.operands];simpa using hx) he).ext he3) hes hq
  have hzr:C7 (Aw (Aw V V.w.heap.size 0 True V.w) V.w.heap.size 0 True V.w) (((z.map zC).set p (.arr V.nx k 0 0)).set q (.arr (V.nx+1) k' 0 0)) zv.cells:=by
   refine⟨by rw [List.length_set,List.length_set,List.length_map,←hzz];simp,fun j c v hj hv=>?_⟩
   have hzj:z[j]? = some v:=by rw [←hzz,Array.getElem?_toList];exact hv
   by_cases hjq:q=j
   ·subst hjq
    rw [hp'] at hzj
    injection hzj with hzj
    subst hzj
    rw [List.getElem?_set_self (by rw [List.length_set,List.length_map];exact(List.getElem?_eq_some_iff.1 hp').1)] at hj
    injection hj with hj
    subst hj
    exact AB.nil (by simp [Aw]) (by simp [Aw])
   ·rw [List.getElem?_set_ne hjq] at hj
    by_cases hjp:p=j
    ·subst hjp
     rw [hp] at hzj
     injection hzj with hzj
     subst hzj
     rw [List.getElem?_set_self (by rw [List.length_map];exact(List.getElem?_eq_some_iff.1 hp).1)] at hj
     injection hj with hj
     subst hj
     exact AB.nil (by simp [Aw];omega) (by simp [Aw])
    ·rw [List.getElem?_set_ne hjp,List.getElem?_map,hzj] at hj
     injection hj with hj
     subst hj
     exact Kz (List.all_eq_true.1 hok v (List.mem_of_getElem? hzj))
  obtain⟨cells,h4,h5⟩:=GA _ _ _ _ hfo hzr (fun x hx=>by rw [List.length_set,List.length_set,List.length_map];exact IY _ _ hle x hx)
  have hb:=run_build (P:=P) (ρ:=ρ) (parts:=parts) (V:=V) hi hzv hf.out h4
  refine⟨.agg cells,_,_,_,?_,he3,hi2,(show Bd _ (.a _) _ from ⟨cells,rfl,h5⟩),hK⟩
  show ((do let v ←Instr.build t (parts.map fun (i,x)=>(i,ρ x));pure (Go.Next.value v):Sem Go.Next)).run P V.w=_
  simp only [Sem.run_bind,hb,Result.andThen_ok]
  rfl
end
end Go.Am
namespace Go.Am
open Go Go.Proofs
set_option maxHeartbeats 1000000
attribute [local irreducible] AS BT Lex Bc Au Spec
variable {TB:Bt}
theorem Qd{c:C}{L:W→Bool}{ok:W→Prop}(hc:JL Tryz.prog TB c L ok)(al:Int)(t:AW)(hf:IN ok (AZ al) t)(ht:GY al 20012 t)(ho:A8 L (AZ al) t=none) :
 Pure Tryz.prog TB 61 [IX al c,DW t] (Bp (AT L al t)):=by
 have hr:=EO c hc.Cp
 have hrl:=ht.rl
 have hcl:=ht.cl
 have hla:(Ac al).length≤6:=AV al 6
 have hask:=ht.ib hf (by omega)
 have hnl:(AT L al t).nx.length=t.rows.length:=by simp [AT]
 have hal:(AT L al t).ac.length=t.rows.length:=by simp [AT]
 refine AD.Hv (AD.ofM 3 (Nat.le_refl _) Tryz.func61 rfl rfl (by kernel_rfl) (Nat.le_of_ble_eq_true rfl) ?_);intro Γ hΓ
 (repeat first|refine aU rfl ?_)
 (refine pW rfl ?_ rfl (by rfl);refine Da rfl rfl ?_)
 (refine Ai rfl ?_;refine Bs (fun _ _=>C0 rfl rfl rfl) rfl ?_)
 (repeat first|refine tA rfl ?_ |refine aU rfl ?_ |refine Aa ?_)
 (refine pW rfl ?_ rfl (by rfl);refine Bx [] rfl rfl (Hu hc al t hask.1) ⟨rfl,by simp,by simp⟩ (by simp [EM,E.A3,C.BB,C.A3,hr,eC]) trivial ?_;rintro x0 σ1 nx1 ⟨rfl,rfl,rfl⟩ _)
 (repeat first|refine tA rfl ?_ |refine aU rfl ?_ |refine Aa ?_)
 (refine pW rfl ?_ rfl (by rfl);refine Mw 1 1 62 2 1 4 rfl rfl (by decide) rfl rfl (by rfl) (by rfl) ?_)
 (repeat first|refine sN rfl ?_ |refine tA rfl ?_ |refine aU rfl ?_ |refine Aa ?_)
 refine aB ?_
 refine Au.AP (α:={k:Nat // k≤t.rows.length}) (fun ⟨k,hkl⟩=>[(2,.o (.ptr 0 2 0 0)),(3,.o (.ip (Vx t))),(4,.o (.ptr 1 3 0 0)),(5,.o (.mp 2)),(6,.o (.ptr 3 3 0 0)),(19,.o (.d (Ch t.rows))),(20,eI .i64 t.rows.length),(21,eI .i64 k)]) (fun ⟨k,hkl⟩=>[(0,.cells 92 2 [[.d (iD al),c]]),(1,.cells 29 3 [[.d (iD 0),.d (.l []),.d (.l [])]]),(2,.mp (IK (BS L t t.rows.length))),(3,.cells 29 3 [[.d (iD al),.arr 4 1 0 k,.arr 5 1 0 k]]),(4,.cells 62 1 (((AT L al t).nx.take k).map fun r=>[.d (FX r)])),(5,.cells 4 1 (((AT L al t).ac.take k).map fun b=>[.d (bD b)]))]) 6 (fun ⟨k,hkl⟩=>t.rows.length - k) (⟨0,by omega⟩) [0,1,2,5,3,4] (Di hΓ rfl rfl) (by (simp[cX,zC,hΓ,hr,eC,Ab.A3,BN,IC,Bi,Af])) ?_;rintro⟨k,hkl⟩;(try dsimp only)
 (repeat first|refine s2 rfl fun _ _hb=>?_ |refine aU rfl ?_ |refine Aa ?_)
 (refine aC rfl ?_ ?_<;>rintro⟨⟩)
 ·have hlt:k < t.rows.length:=by (simp only[oZ] at *;omega)
  obtain⟨r,hx⟩:=get_some (l:=t.rows) (k:=k) hlt
  have hx':=get_map (g:=Ed) hx
  have hxm:=List.mem_of_getElem? hx
  refine aK ?_
  refine aS (aB ?_)
  (repeat first|refine tM rfl ?_ |(refine s4 rfl ‹_› rfl ?_ ?_;omega) |refine aU rfl ?_ |refine Aa ?_)
  (refine pW rfl ?_ rfl (by rfl);refine Hk 1 3 ?_)
  (repeat first|refine sN rfl ?_ |refine tM rfl ?_ |refine sP rfl (CN al) rfl ?_ |refine aU rfl ?_ |refine Aa ?_)
  refine aB ?_
  refine Au.AP (α:={j:Nat // j≤(Ac al).length}) (fun ⟨j,hjl⟩=>[(2,.o (.ptr 0 2 0 0)),(3,.o (.ip (Vx t))),(4,.o (.ptr 1 3 0 0)),(5,.o (.mp 2)),(6,.o (.ptr 3 3 0 0)),(19,.o (.d (Ch t.rows))),(20,eI .i64 t.rows.length),(21,eI .i64 k),(8,eT r),(9,.o (.arr 6 1 0 j)),(27,Ag (Ac al)),(28,eI .i64 (Ac al).length),(29,eI .i64 j)]) (fun ⟨j,hjl⟩=>[(0,.cells 92 2 [[.d (iD al),c]]),(1,.cells 29 3 [[.d (iD 0),.d (.l []),.d (.l [])]]),(2,.mp (IK (BS L t t.rows.length))),(3,.cells 29 3 [[.d (iD al),.arr 4 1 0 k,.arr 5 1 0 k]]),(4,.cells 62 1 (((AT L al t).nx.take k).map fun r=>[.d (FX r)])),(5,.cells 4 1 (((AT L al t).ac.take k).map fun b=>[.d (bD b)])),(6,.cells 3 1 (((Ac al).take j).map fun l=>[.d (iD ((CX L t (r++[lb l]):Nat):Int))]))]) 7 (fun ⟨j,hjl⟩=>(Ac al).length - j) (⟨0,by omega⟩) [0,1,2,3,4,5,6] (Di hΓ rfl rfl) (by (simp[cX,zC,hΓ,hr,eC,Ab.A3,BN,IC])) ?_;rintro⟨j,hjl⟩;(try dsimp only)
  (repeat first|refine s2 rfl fun _ _hb=>?_ |refine aU rfl ?_ |refine Aa ?_)
  (refine aC rfl ?_ ?_<;>rintro⟨⟩)
  ·have hjlt:j < (Ac al).length:=by (simp only[oZ] at *;omega)
   obtain⟨l,hl⟩:=get_some (l:=Ac al) (k:=j) hjlt
   have hl':=get_map (g:=Bm) hl
   have hlm:=List.mem_of_getElem? hl
   have hlb:=Ak hlm
   have hrb:=ht.onR r hxm
   have hm:=K5 (TB:=TB) hc al t (r++[lb l]) (by omega) (fun x hx=>hask.2 r hxm _ (List.mem_map.2 ⟨l,hlm,rfl⟩) x hx) (fun y hy=>by have:=(ht.onC y hy).2;simp;omega)
   have hlk:=UB ho hxm hlm
   refine aK ?_
   refine aS (aB ?_)
   (repeat first|refine tA rfl ?_ |(refine s4 rfl ‹_› rfl ?_ ?_;omega) |refine aU rfl ?_ |refine Aa ?_)
   refine rG (IZ [13]) (by kernel_rfl) ?_
   (repeat first|(refine sA rfl ?_ ?_;first|exact tI|omega|simp only[oZ] at *;omega) |refine sP rfl (Fp l hlb.1 (by omega)) rfl ?_|(refine Ai rfl ?_;refine gA rfl ?_;first| refine gS (fun _ _=>WY rfl (by omega) (by omega)) ?_))
   rw [cu hlb.1]
   (repeat first| (refine Ai rfl ?_;refine gA rfl ?_;first| refine gS (fun _ _=>AO rfl rfl (by simp [E.Cp,C.Dr,C.Cp,hc.Cp]) hm rfl) ?_|refine gQ (YO rfl rfl rfl) (by rfl) ?_))
   (repeat first|refine tA rfl ?_)
   (refine pW rfl ?_ rfl (by rfl);refine AH rfl rfl rfl (by first| (simp;done)|(simp;(omega))) rfl (by intro r hr;simp at hr;subst hr;rfl) (by rfl) (Nat.le_of_ble_eq_true rfl) (by simp;omega) ?_)
   (repeat first|(refine sA rfl ?_ ?_;first|exact tI|omega) |refine aU rfl ?_ |refine Aa ?_)
   rw [hlk]
   refine⟨⟨j+1,by omega⟩,by dsimp only;(omega),[0,1,2,3,4,5,7],?_⟩
   simp[cX,zC,hΓ,hr,List.take_add_one,hl]
  ·obtain rfl:j=(Ac al).length:=by (simp only[oZ] at *;omega)
   have hok:=hf r ⟨r,hxm,[],.inl rfl,[],.inl rfl,by simp⟩
   have hnx:(AT L al t).nx.take (k+1)=(AT L al t).nx.take k++[(Ac al).map fun l=>((CX L t (r++[lb l]):Nat):Int)]:=by
    rw [List.take_add_one];simp [AT,hx]
   have hac:(AT L al t).ac.take (k+1)=(AT L al t).ac.take k++[L r]:=by
    rw [List.take_add_one];simp [AT,hx]
   refine aE ?_
   rw [List.take_length]
   refine Au.X8 [6] [2,3,4,5,6,8,19,20,21] rfl [(9,Ag ((Ac al).map fun l=>((CX L t (r++[lb l]):Nat):Int)))] ⟨⟨_,rfl,.o (.full (by simp) rfl (by simp [Function.comp_def]) (by simp))⟩,trivial⟩ ?_;(try dsimp only[cA,cB])
   (repeat first|refine tA rfl ?_ |refine aU rfl ?_)
   (refine pW rfl ?_ rfl (by rfl);refine AH rfl rfl rfl (by first| (simp;done)|(simp;(omega))) rfl (by intro r hr;simp at hr;subst hr;rfl) (by rfl) (Nat.le_of_ble_eq_true rfl) (by simp;omega) ?_)
   (repeat first|refine tA rfl ?_ |refine Aa ?_)
   refine rG (IZ [7,9]) (by kernel_rfl) ?_
   (repeat first|refine tA rfl ?_|(refine Ai rfl ?_;refine gA rfl ?_;first| refine gS (fun _ _=>hc.ask rfl rfl hok) ?_))
   (refine pW rfl ?_ rfl (by rfl);refine AH rfl rfl rfl (by first| (simp;done)|(simp;(omega))) rfl (by intro r hr;simp at hr;subst hr;rfl) (by rfl) (Nat.le_of_ble_eq_true rfl) (by simp;omega) ?_)
   (repeat first|(refine sA rfl ?_ ?_;first|exact tI|omega) |refine aU rfl ?_ |refine Aa ?_)
   refine⟨⟨k+1,by omega⟩,by dsimp only;(omega),[0,1,2,3,7,8],?_⟩
   simp[cX,zC,hΓ,hr,eC,Ab.A3,BN,IC,Bi,Af,hnx,hac]
 ·obtain rfl:k=t.rows.length:=by (simp only[oZ] at *;omega)
  have ht1:(AT L al t).nx.take t.rows.length=(AT L al t).nx:=List.take_of_length_le (by simp [AT])
  have ht2:(AT L al t).ac.take t.rows.length=(AT L al t).ac:=List.take_of_length_le (by simp [AT])
  rw [ht1,ht2]
  refine aE ?_
  (repeat first|refine tM rfl ?_ |refine aU rfl ?_ |refine Aa ?_)
  refine Au.settle [(4,.o (.ip [iD al,CR (AT L al t).nx,E4 (AT L al t).ac]))] ⟨⟨_,rfl,.o (.box rfl (.cons .d (.cons (.full rfl (by simp [Function.comp_def]) (by simp [AT])) (.cons (.full rfl (by simp [Function.comp_def]) (by simp [AT])) .nil))))⟩,trivial⟩ ?_
  refine aR ⟨_,rfl,rfl⟩
end Go.Am
