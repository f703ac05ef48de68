/-
  Lists of words: copies, whether a word is in one.
-/
import Derived.Test.YtkdilmleinnfiaaGreatDoorPart14
import Derived.Test.YtkdilmleinnfiaaGreatDoorPart9
import Derived.Test.YtkdilmleinnfiaaGreatDoorPart13
import Derived.Test.YtkdilmleinnfiaaGreatDoorPart8
set_option linter.constructorNameAsVariable false
set_option linter.unusedSectionVars false
set_option linter.unusedSimpArgs false
set_option linter.unusedVariables false
namespace Go.Am
open Go Go.Proofs
set_option maxHeartbeats 1000000
set_option maxRecDepth 4000
attribute [local irreducible] AV BX Lex Bf Av Spec
variable {TB:Be}
theorem I0(l:List W)(h:l.length≤1048576):Spec Tryz.prog TB 150 [] 0 [Bl l] (fun x σ nx=>x=.o (.arr 0 1 0 l.length)∧nx=1∧σ=[(0,.cells 9 1 (l.map Bg))]):=by
 refine eN Tryz.func150 rfl (by kernel_rfl) rfl ?_;intro Γ hΓ
 (repeat first|refine aU rfl ?_)
 (refine Ai rfl ?_;refine B5 (fun _ _=>BQ rfl) rfl ?_)
 (repeat first|refine tM rfl ?_ |refine aU rfl ?_ |refine Aa ?_)
 (refine pW rfl ?_ rfl (by rfl);refine WJ rfl ?_;intro b0 hb0)
 (repeat first|refine Aa ?_)
 (refine aC rfl ?_ ?_<;>rintro⟨⟩)
 ·obtain rfl:l=[]:=by simpa using hb0 rfl
  (repeat first|refine aU rfl ?_)
  (refine pW rfl ?_ rfl (by rfl);refine N6 1 9 ?_)
  (repeat first|refine Aa ?_)
  refine aR ⟨_,rfl,rfl,rfl,rfl⟩
 ·refine aK ?_
  (repeat first|refine aU rfl ?_)
  (refine pW rfl ?_ rfl (by rfl);refine C5 rfl rfl rfl rfl (by simp) (by rfl) (by rfl) (by rfl) (by rfl) ?_)
  (repeat first|refine tM rfl ?_)
  (refine pW rfl ?_ rfl (by rfl);refine AY rfl rfl rfl (by first| (simp;done)|(simp;(omega))) rfl (by intro r hr;simp at hr;obtain⟨a,_,rfl⟩:=hr;rfl) (by rfl) (Nat.le_of_ble_eq_true rfl) (by simp;omega) ?_)
  (repeat first|refine tM rfl ?_ |refine Aa ?_)
  refine Av.names [1] [(2,.o (.arr 0 1 0 l.length))] [(0,.cells 9 1 (l.map Bg))] (by intro i hi;rw [hΓ] at hi;omega) (by simp) (by simp[cX,zC,hΓ]) (by simp[cX,zC,hΓ]) ?_
  refine aR ⟨_,rfl,rfl,rfl,rfl⟩
theorem Wt(l:List W)(s:W):Pure Tryz.prog TB 210 [Bl l,eT s] (eI .i64 (if s∈l then (l.idxOf s:Int) else -1)):=by
 refine eN Tryz.func210 rfl (by kernel_rfl) rfl ?_;intro Γ hΓ
 refine Av.bound 0 rfl fun hB0=>?_
 have hB:=hB0 (l.map BD) .refl
 (repeat first|refine sN rfl ?_ |refine tM rfl ?_ |refine aU rfl ?_ |refine Aa ?_)
 refine aB ?_
 refine Av.AR (α:={k:Nat // k≤l.length∧s∉l.take k}) (fun ⟨k,hk,hs⟩=>[(0,Bl l),(1,eT s),(7,eI .i64 l.length),(8,eI .i64 k)]) (fun ⟨k,hk,hs⟩=>[]) 0 (fun ⟨k,hk,hs⟩=>l.length - k) (⟨0,by omega,by simp⟩) [] (Dq hΓ rfl rfl) (by (simp[cX,zC,hΓ])) ?_;rintro⟨k,hk,hs⟩;(try dsimp only)
 (repeat first|refine s2 rfl fun _ _hb=>?_ |refine aU rfl ?_ |refine Aa ?_)
 (refine aC rfl ?_ ?_<;>rintro⟨⟩)
 ·have hlt:k < l.length:=by (simp only[oZ] at *;omega)
  obtain⟨x,hx⟩:=get_some (l:=l) (k:=k) hlt
  have hx':=get_map (g:=BD) hx
  refine aK ?_
  refine aS (aB ?_)
  (repeat first|refine tM rfl ?_ |(refine s4 rfl ‹_› rfl ?_ ?_;omega) |refine s2 rfl fun _ _hb=>?_ |refine aU rfl ?_ |refine Aa ?_)
  (refine aC rfl ?_ ?_<;>rintro⟨⟩)
  ·have he:s=x:=by (simp only[oZ] at *;omega)
   subst he
   (repeat first|refine tM rfl ?_ |refine aU rfl ?_ |refine Aa ?_)
   refine aR ⟨_,rfl,?_⟩
   have hm:s∈l:=List.mem_of_getElem? hx
   have hi:l.idxOf s=k:=by
    have e:l=l.take k++s::l.drop (k+1):=by rw [←BJ hx,List.take_append_drop]
    rw [e,List.idxOf_append,if_neg hs,List.idxOf_cons_self]
    simp;omega
   rw [if_pos hm,hi]
  ·have he:¬s=x:=by simpa using _hb
   have hs2:s∉l.take (k+1):=by
    rw [List.take_add_one,hx]
    simp [hs,he]
   refine aK ?_
   (repeat first|(refine sM rfl ?_ ?_;first|exact tI|simp only[oZ] at *;omega) |refine aU rfl ?_ |refine Aa ?_)
   refine⟨⟨k+1,by omega,hs2⟩,by dsimp only;(omega),[],?_⟩
   simp[cX,zC,hΓ]
 ·obtain rfl:k=l.length:=by (simp only[oZ] at *;omega)
  rw [List.take_length] at hs
  refine aE ?_
  (repeat first|refine tM rfl ?_ |refine aU rfl ?_ |refine Aa ?_)
  refine aR ⟨_,rfl,?_⟩
  rw [if_neg hs]
theorem E9(l:List W)(s:W):Pure Tryz.prog TB 148 [Bl l,eT s] (eB (decide (s∈l))):=by
 refine eN Tryz.func148 rfl (by kernel_rfl) rfl ?_;intro Γ hΓ
 (repeat' first|refine tA rfl ?_ |refine s2 rfl fun _ _hb=>?_ |refine sP rfl (Wt l s) rfl ?_ |refine aU rfl ?_ |refine Aa ?_|(refine aC rfl ?_ ?_<;>rintro⟨⟩)|refine aK ?_|refine aE ?_|refine aB ?_|refine aR ⟨_,rfl,?_⟩)
 all_goals (show E.o _=E.o _;congr;subst _hb;by_cases h:s∈l<;>simp [h])
def Dr(t:AN)(Pm:W):Option AN:=if t.cols.length=20∨Pm∈t.cols then none else some ⟨t.rows,t.cols++[Pm]⟩
def EP(o:Option AN):E:=match o with
 | some t=>.t [(true,[.d (Ba t.rows),.d (Ba t.cols)]),(false,[.d (bD true)])]
 | none=>.t [(true,[.d (.l []),.d (.l [])]),(false,[.d (bD false)])]
theorem IV(t:AN)(Pm:W)(hr:t.rows.length≤4096)(hcl:t.cols.length≤4096):Pure Tryz.prog TB 78 [B8 t,eT Pm] (EP (Dr t Pm)):=by
 have hc1:=I0 (TB:=TB) t.rows (by omega)
 have hc2:=I0 (TB:=TB) t.cols (by omega)
 refine A3.Fv (A3.ofM 2 (Nat.le_refl _) Tryz.func78 rfl rfl (by kernel_rfl) (Nat.le_of_ble_eq_true rfl) ?_);intro Γ hΓ
 (repeat first|refine aU rfl ?_)
 (refine Ai rfl ?_;refine B5 (fun _ _=>CE rfl rfl rfl) rfl ?_)
 (repeat first|refine sN rfl ?_ |refine tM rfl ?_ |refine s2 rfl fun _ _hb=>?_ |(refine sC rfl (E9 t.cols Pm) ?_;intro _ _hb) |refine s3 rfl ?_ ?_<;>rintro rfl |refine aU rfl ?_ |refine Aa ?_)
 ·(refine aC rfl ?_ ?_<;>rintro⟨⟩)
  have hn:Dr t Pm=none:=by unfold Dr;rw [if_pos (.inl (by (simp only[oZ] at *;omega)))]
  (repeat first|refine tM rfl ?_|(refine Ai rfl ?_;refine gA rfl ?_;first| refine gS (fun _ _=>AJ rfl rfl (by rfl) (by rfl)) ?_) |refine aU rfl ?_ |refine Aa ?_)
  refine Av.freeze [0] [(4,.o (.ip [.l [],.l []])),(5,eB false)] ⟨⟨_,rfl,.o (.ptr (by simp) rfl rfl rfl)⟩,⟨_,rfl,.AU⟩,trivial⟩ ?_
  refine aR ⟨_,rfl,?_⟩
  rw [hn];rfl
 (repeat first|refine tM rfl ?_ |(refine sC rfl (E9 t.cols Pm) ?_;intro _ _hb) |refine Aa ?_)
 (refine aC rfl ?_ ?_<;>rintro⟨⟩)
 ·have hn:Dr t Pm=none:=by unfold Dr;rw [if_pos (.inr (by (simp only[oZ] at *;omega)))]
  (repeat first|refine tM rfl ?_|(refine Ai rfl ?_;refine gA rfl ?_;first| refine gS (fun _ _=>AJ rfl rfl (by rfl) (by rfl)) ?_) |refine aU rfl ?_ |refine Aa ?_)
  refine Av.freeze [0] [(4,.o (.ip [.l [],.l []])),(5,eB false)] ⟨⟨_,rfl,.o (.ptr (by simp) rfl rfl rfl)⟩,⟨_,rfl,.AU⟩,trivial⟩ ?_
  refine aR ⟨_,rfl,?_⟩
  rw [hn];rfl
 ·refine aK ?_
  refine aS ?_
  refine rG (fN [0,1,3,4,6,7,2,5,8,9,10,11] [2,5,8,10] [0,1,3,4,6,7]) (by kernel_rfl) ?_
  (repeat first|refine tA rfl ?_)
  (refine pW rfl ?_ rfl (by rfl);refine Cr [] rfl rfl hc1 ⟨rfl,by simp,by simp⟩ rfl trivial ?_;rintro x0 σ1 nx1 ⟨rfl,rfl,rfl⟩ _)
  (refine pW rfl ?_ rfl (by rfl);refine Cr [] rfl rfl hc2 ⟨rfl,by simp,by simp⟩ rfl trivial ?_;rintro x0 σ1 nx1 ⟨rfl,rfl,rfl⟩ _)
  (refine pW rfl ?_ rfl (by rfl);refine AY rfl rfl rfl (by first| (simp;done)|(simp;(omega))) rfl (by intro r hr;simp at hr;subst hr;rfl) (by rfl) (Nat.le_of_ble_eq_true rfl) (by simp;omega) ?_)
  (repeat first|refine tA rfl ?_|(refine Ai rfl ?_;refine gA rfl ?_;first| refine gS (fun _ _=>AJ rfl rfl (by rfl) (by rfl)) ?_) |refine Aa ?_)
  have hnm:Pm∉t.cols:=by simpa using _hb
  have hn:Dr t Pm=some ⟨t.rows,t.cols++[Pm]⟩:=by
   unfold Dr
   rw [if_neg]
   rintro(h|h)
   ·(simp only[oZ] at *;omega)
   ·exact hnm h
  refine Av.names [0,1,3] [(4,.o (.ptr 0 2 0 0)),(5,eB true)] [(0,.cells 38 2 [[.arr 1 1 0 t.rows.length,.arr 2 1 0 (t.cols.length+1)]]),(1,.cells 9 1 (t.rows.map Bg)),(2,.cells 9 1 ((t.cols++[Pm]).map Bg))] (by intro i hi;rw [hΓ] at hi;omega) (by simp) (by simp[cX,zC,hΓ,GO]) (by simp[cX,zC,hΓ,GO,Ab.AW,BH,Ef,eC,AE]) ?_
  refine Av.La [1,2] [(4,.o (.ptr 0 2 0 0)),(5,eB true)] [(0,.cells 38 2 [[.d (Ba t.rows),.d (Ba (t.cols++[Pm]))]])] ⟨⟨_,rfl,.AU⟩,⟨_,rfl,.AU⟩,trivial⟩ ⟨⟨_,rfl,by simp,.cons (.full (by simp) rfl (by simp [Function.comp_def]) (by simp)) (.cons (.full (by simp) rfl (by simp [Function.comp_def]) (by simp)) .nil)⟩,trivial⟩ ?_
  refine Av.freeze [0] [(4,.o (.ip [Ba t.rows,Ba (t.cols++[Pm])])),(5,eB true)] ⟨⟨_,rfl,.o (.ptr (by simp) rfl rfl rfl)⟩,⟨_,rfl,.AU⟩,trivial⟩ ?_
  refine aR ⟨_,rfl,?_⟩
  rw [hn];rfl
structure ED (al:Int) (b:Nat) (t:AN):Prop where
 onR:∀w∈t.rows,AB (AO al) w∧w.length≤b
 onC:∀x∈t.cols,AB (AO al) x∧x.length≤20000
 rl:t.rows.length≤12
 cl:t.cols.length≤20
def GS(ok:W→Prop)(al:Int):Prop:=∀w,AB (AO al) w→w.length≤50000→ok w
def Lw(ls:List UInt8)(t:AN)(v:W):Prop:=∃r∈t.rows,∃m:W,(m=[]∨∃l∈ls,m=[l])∧∃x:W,(x=[]∨x∈t.cols)∧v=r++m++x
def GQ(ok:W→Prop)(ls:List UInt8)(t:AN):Prop:=∀v,Lw ls t v→ok v
def Dl(L:W→Bool)(ls:List UInt8):Nat→AN→List AN
 | 0,t=>[t]
 | n+1,t=>t::match AM L ls t with
  | none=>[]
  | some w=>if t.rows.length=12 then [] else Dl L ls n ⟨t.rows++[w],t.cols⟩
theorem BO{L:W→Bool}{ls:List UInt8}{n:Nat}{t:AN}:t∈Dl L ls n t:=by cases n<;>simp [Dl]
theorem ED.Uf{ok:W→Prop}{al:Int}{b:Nat}{t:AN}(h:ED al b t)(hf:GQ ok (AO al) t)(hb:b≤20100):SG ok t∧∀w∈t.rows,∀l∈AO al,∀x∈t.cols,ok (w++[l]++x):=
  ⟨⟨fun w hw x hx=>hf _ ⟨w,hw,[],.inl rfl,x,.inr hx,by simp⟩,fun w hw=>by have:=(h.onR w hw).2;omega,fun x hx=>by have:=(h.onC x hx).2;omega,by have:=h.rl;omega,by have:=h.cl;omega⟩,
   fun w hw l hl x hx=>hf _ ⟨w,hw,[l],.inr ⟨l,hl,rfl⟩,x,.inr hx,rfl⟩⟩
theorem ED.on{ok:W→Prop}{al:Int}{b:Nat}{t:AN}(h:ED al b t)(hf:GS ok al)(hb:b≤20100):GQ ok (AO al) t:=by
 rintro v ⟨r,hr,m,hm,x,hx,rfl⟩
 have h1:=h.onR r hr
 have h2:AB (AO al) m∧m.length≤1:=by
  rcases hm with rfl|⟨l,hl,rfl⟩
  ·exact⟨fun c hc=>by simp at hc,by simp⟩
  ·exact⟨fun c hc=>by simp at hc;subst hc;exact hl,by simp⟩
 have h3:AB (AO al) x∧x.length≤20000:=by
  rcases hx with rfl|hx
  ·exact⟨fun c hc=>by simp at hc,by simp⟩
  ·exact h.onC x hx
 refine hf _ (fun c hc=>?_) (by simp;omega)
 simp only [List.mem_append] at hc
 rcases hc with (hc|hc)|hc
 ·exact h1.1 c hc
 ·exact h2.1 c hc
 ·exact h3.1 c hc
theorem ED.push{L:W→Bool}{al:Int}{b:Nat}{t:AN}{w:W}(h:ED al b t)(ho:AM L (AO al) t=some w)(hl:t.rows.length < 12):ED al (b+1) ⟨t.rows++[w],t.cols⟩:=by
 obtain⟨⟨r,hr,l,hl2,rfl⟩,_⟩:=IE ho
 refine⟨fun u hu=>?_,h.onC,by simp;omega,h.cl⟩
 rcases List.mem_append.1 hu with hu|hu
 ·have:=h.onR u hu;exact⟨this.1,by omega⟩
 ·simp at hu
  subst hu
  have:=h.onR r hr
  refine⟨fun c hc=>?_,by simp;omega⟩
  rcases List.mem_append.1 hc with hc|hc
  ·exact this.1 c hc
  ·simp at hc;subst hc;exact hl2
theorem ED.grow{L:W→Bool}{al:Int}:∀ {n b:Nat} {t y:AN},ED al b t→y∈Dl L (AO al) n t→ED al (b+n) y
 | 0,b,t,y,h,hy=>by simp [Dl] at hy;subst hy;exact h
 | n + 1, b,t,y,h,hy=>by
  have hm:∀ {b':Nat} {z:AN},b'≤b+(n+1)→ED al b' z→ED al (b+(n+1)) z:=fun hb hz=>⟨fun w hw=>⟨(hz.onR w hw).1,Nat.le_trans (hz.onR w hw).2 hb⟩,hz.onC,hz.rl,hz.cl⟩
  unfold Dl at hy
  rcases List.mem_cons.1 hy with rfl|hy
  ·exact hm (by omega) h
  ·cases ho:AM L (AO al) t with
   | none=>rw [ho] at hy;simp at hy
   | some w=>
    rw [ho] at hy
    dsimp only at hy
    split at hy
    ·simp at hy
    ·have:=h.rl
     exact hm (by omega) (ED.grow (h.push ho (by omega)) hy)
theorem ED.ed{L:W→Bool}{ok:W→Prop}{al:Int}{b:Nat}{t:AN}(h:ED al b t)(hf:GS ok al)(hb:b≤20000):∀y∈Dl L (AO al) 13 t,GQ ok (AO al) y:=fun y hy=>(h.grow hy).on hf (by omega)
theorem EO{c:C}{L:W→Bool}{ok:W→Prop}(hc:En Tryz.prog TB c L ok)(al:Int)(t:AN)(hf:∀y∈Dl L (AO al) 13 t,GQ ok (AO al) y)(ht:ED al 20000 t) :
 Pure Tryz.prog TB 91 [FF al c,B8 t] (EP (AZ L (AO al) 13 t)):=by
 have hr:=BW c hc.AL
 have hrl:=ht.rl
 have hcl:=ht.cl
 have hc1:=I0 (TB:=TB) t.rows (by omega)
 have hc2:=I0 (TB:=TB) t.cols (by omega)
 refine A3.Fv (A3.ofM 2 (Nat.le_refl _) Tryz.func91 rfl rfl (by kernel_rfl) (Nat.le_of_ble_eq_true rfl) ?_);intro Γ hΓ
 (repeat first|refine aU rfl ?_)
 (refine pW rfl ?_ rfl (by rfl);refine CT rfl rfl ?_)
 (refine Ai rfl ?_;refine B5 (fun _ _=>CE rfl rfl rfl) rfl ?_)
 (repeat first|refine tM rfl ?_ |refine aU rfl ?_ |refine Aa ?_)
 refine R.bk [(7,3),(0,2),(1,2),(3,2),(4,2),(2,1),(5,1),(6,0),(8,5)] mixed (by kernel_rfl) rfl (by kernel_rfl) ?_
 (repeat ((refine R.Ai rfl ?_;first|(refine R.yQ (md:=false) rfl rfl rfl ?_ ?_;exact tI) |refine R.yP rfl rfl rfl rfl ?_ )))
 (refine R.Ai rfl ?_;refine R.RZ (fun _=>?_) rfl rfl;refine Cr [] rfl rfl hc1 ⟨rfl,by simp,by simp⟩ rfl trivial ?_;rintro x0 σ1 nx1 ⟨rfl,rfl,rfl⟩ _)
 (refine R.Ai rfl ?_;refine R.RZ (fun _=>?_) rfl rfl;refine Cr [] rfl rfl hc2 ⟨rfl,by simp,by simp⟩ rfl trivial ?_;rintro x0 σ1 nx1 ⟨rfl,rfl,rfl⟩ _)
 (repeat ((refine R.Ai rfl ?_;first|refine R.yA rfl rfl rfl rfl ?_|refine R.B5 (fun _ _ _=>AJ rfl rfl (by rfl) (by rfl)) rfl rfl ?_ )))
 refine R.aw ?_
 refine aB ?_
 have hz:∀x:AN,AM L (AO al) x=none∨∃w,AM L (AO al) x=some w:=fun x=>by cases AM L (AO al) x<;>simp
 refine Av.AR (α:={p:Nat×AN // p.1≤13∧13≤p.1+p.2.rows.length∧ED al (20000+p.2.rows.length) p.2∧AZ L (AO al) 13 t=AZ L (AO al) p.1 p.2∧∀y∈Dl L (AO al) p.1 p.2,GQ ok (AO al) y}) (fun ⟨⟨m,u⟩,hm,hmu,hu,he,hgr⟩=>[(2,.o (.ptr 0 2 0 0)),(4,.o (.ptr 1 2 0 0)),(6,.o (.ptr 4 2 0 0))]) (fun ⟨⟨m,u⟩,hm,hmu,hu,he,hgr⟩=>[(0,.cells 100 2 [[.d (iD al),c]]),(1,.cells 38 2 [[.d (.l []),.d (.l [])]]),(2,.cells 9 1 (u.rows.map Bg)),(3,.cells 9 1 (u.cols.map Bg)),(4,.cells 38 2 [[.arr 2 1 0 u.rows.length,.arr 3 1 0 u.cols.length]])]) 5 (fun ⟨⟨m,u⟩,hm,hmu,hu,he,hgr⟩=>m) (⟨(13,t),by simp,by simp,⟨fun w hw=>⟨(ht.onR w hw).1,by have:=(ht.onR w hw).2;omega⟩,ht.onC,ht.rl,ht.cl⟩,rfl,hf⟩) [0,1,2,3,4] (Dq hΓ rfl rfl) (by (simp[cX,zC,hΓ,hr,eC,Ab.AW,BH,GO,Ef,AE])) ?_;rintro⟨⟨m,u⟩,hm,hmu,hu,he,hgr⟩;(try dsimp only)
 dsimp only at hm hmu hu he hgr
 have htk:∀l:List W,((l.map Bg).drop 0).take l.length=(l.map BD).map (fun r=>r.map C.d):=fun l=>by rw [List.drop_zero,List.take_of_length_le (by simp)];simp [Function.comp_def]
 have hur:=hu.rl
 have huc:=hu.cl
 have hask:=hu.Uf (hgr u BO) (by omega)
 have hfo:=Ja (TB:=TB) hc al u hask.1 hask.2
 have hev:ZB [(0,.cells 100 2 [[.d (iD al),c]]),(1,.cells 38 2 [[.d (.l []),.d (.l [])]]),(2,.cells 9 1 (u.rows.map Bg)),(3,.cells 9 1 (u.cols.map Bg)),(4,.cells 38 2 [[.arr 2 1 0 u.rows.length,.arr 3 1 0 u.cols.length]])] [.a [.d (iD al),c],.a [.arr 2 1 0 u.rows.length,.arr 3 1 0 u.cols.length]] [FF al c,B8 u]:=
  .cons (.cons (.pure rfl) (.cons (.pure hc.AL) .nil)) (.cons (.cons (.arr rfl (by simp) (htk _)) (.cons (.arr rfl (by simp) (htk _)) .nil)) .nil)
 refine aB ?_
 rcases hz u with ho|⟨w,ho⟩
 ·rw [ho] at hfo
  (repeat first|refine tM rfl ?_ |refine s2 rfl fun _ _hb=>?_|(refine Ai rfl ?_;refine gA rfl ?_;first| refine gQ (Gz rfl rfl (hev) (hfo) rfl) rfl ?_) |refine aU rfl ?_ |refine Aa ?_)
  (refine aC rfl ?_ ?_<;>rintro⟨⟩)
  ·(repeat first|refine tM rfl ?_ |refine aU rfl ?_ |refine Aa ?_)
   have hn:AZ L (AO al) 13 t=some u:=by
    rw [he]
    obtain⟨m',rfl⟩:∃m',m=m'+1:=⟨m - 1,by omega⟩
    simp [AZ,ho]
   refine Av.names [1,2,3] [(4,.o (.ptr 0 2 0 0)),(5,eB true)] [(0,.cells 38 2 [[.arr 1 1 0 u.rows.length,.arr 2 1 0 u.cols.length]]),(1,.cells 9 1 (u.rows.map Bg)),(2,.cells 9 1 (u.cols.map Bg))] (by intro i hi;rw [hΓ] at hi;omega) (by simp) (by simp[cX,zC,hΓ,GO]) (by simp[cX,zC,hΓ,GO,Ab.AW,BH,Ef,eC,AE]) ?_
   refine Av.La [1,2] [(4,.o (.ptr 0 2 0 0)),(5,eB true)] [(0,.cells 38 2 [[.d (Ba u.rows),.d (Ba u.cols)]])] ⟨⟨_,rfl,.AU⟩,⟨_,rfl,.AU⟩,trivial⟩ ⟨⟨_,rfl,by simp,.cons (.full (by simp) rfl (by simp [Function.comp_def]) (by simp)) (.cons (.full (by simp) rfl (by simp [Function.comp_def]) (by simp)) .nil)⟩,trivial⟩ ?_
   refine Av.freeze [0] [(4,.o (.ip [Ba u.rows,Ba u.cols])),(5,eB true)] ⟨⟨_,rfl,.o (.ptr (by simp) rfl rfl rfl)⟩,⟨_,rfl,.AU⟩,trivial⟩ ?_
   refine aR ⟨_,rfl,?_⟩
   rw [hn];rfl
  ·simp at _hb
 ·rw [ho] at hfo
  (repeat first|refine tM rfl ?_ |refine s2 rfl fun _ _hb=>?_|(refine Ai rfl ?_;refine gA rfl ?_;first| refine gQ (Gz rfl rfl (hev) (hfo) rfl) rfl ?_) |refine aU rfl ?_ |refine Aa ?_)
  (refine aC rfl ?_ ?_<;>rintro⟨⟩)
  ·simp at _hb
  ·refine aK ?_
   (repeat first|refine tM rfl ?_ |refine s2 rfl fun _ _hb=>?_ |refine aU rfl ?_ |refine Aa ?_)
   (refine aC rfl ?_ ?_<;>rintro⟨⟩)
   ·(repeat first|refine tM rfl ?_|(refine Ai rfl ?_;refine gA rfl ?_;first| refine gS (fun _ _=>AJ rfl rfl (by rfl) (by rfl)) ?_) |refine aU rfl ?_ |refine Aa ?_)
    have hn:AZ L (AO al) 13 t=none:=by
     have h12:u.rows.length=12:=by (simp only[oZ] at *;omega)
     rw [he]
     obtain⟨m',rfl⟩:∃m',m=m'+1:=⟨m - 1,by omega⟩
     simp [AZ,ho,h12]
    refine Av.freeze [1] [(4,.o (.ip [.l [],.l []])),(5,eB false)] ⟨⟨_,rfl,.o (.ptr (by simp) rfl rfl rfl)⟩,⟨_,rfl,.AU⟩,trivial⟩ ?_
    refine aR ⟨_,rfl,?_⟩
    rw [hn];rfl
   ·refine aK ?_
    have hlt:u.rows.length < 12:=by (simp only[oZ] at *;omega)
    obtain⟨m',rfl⟩:∃m',m=m'+1:=⟨m - 1,by omega⟩
    have hn:AZ L (AO al) 13 t=AZ L (AO al) m' ⟨u.rows++[w],u.cols⟩:=by
     rw [he]
     conv=>lhs;unfold AZ
     rw [ho]
     dsimp only
     rw [if_neg (by omega)]
    have hp:=hu.push ho hlt
    (repeat first|refine tA rfl ?_ |refine aU rfl ?_)
    (refine pW rfl ?_ rfl (by rfl);refine AY rfl rfl rfl (by first| (simp;done)|(simp;(omega))) rfl (by intro r hr;simp at hr;subst hr;rfl) (by rfl) (Nat.le_of_ble_eq_true rfl) (by simp;omega) ?_)
    (repeat first|refine tM rfl ?_ |refine Aa ?_)
    refine⟨⟨⟨m',⟨u.rows++[w],u.cols⟩⟩,by dsimp only;omega,by simp;omega,by simpa [Nat.add_assoc] using hp,hn,fun y hy=>hgr y (by unfold Dl;rw [ho];dsimp only;rw [if_neg (by omega)];exact List.mem_cons_of_mem _ hy)⟩,by dsimp only;(omega),[0,1,5,3,4],?_⟩
    simp[cX,zC,hΓ,hr,eC,Ab.AW,BH,GO,Ef,AE]
def BZ:AN:=⟨[[]],[[]]⟩
theorem Kt(al:Int):ED al 20000 BZ:=by
 refine⟨fun w hw=>?_,fun w hw=>?_,by decide,by decide⟩<;>(simp [BZ] at hw;subst hw;exact⟨fun c hc=>by simp at hc,by simp⟩)
theorem OV{c:C}{L:W→Bool}{ok:W→Prop}(hc:En Tryz.prog TB c L ok)(al:Int)(hf:∀y∈Dl L (AO al) 13 BZ,GQ ok (AO al) y) :
 Pure Tryz.prog TB 170 [FF al c] (EP (AZ L (AO al) 13 BZ)):=by
 have hr:=BW c hc.AL
 have h:=EO hc al BZ hf (Kt al)
 refine A3.Fv (A3.ofM 2 (Nat.le_refl _) Tryz.func170 rfl rfl (by kernel_rfl) (Nat.le_of_ble_eq_true rfl) ?_);intro Γ hΓ
 generalize AZ L (AO al) 13 BZ=o at h ⊢
 (repeat first|refine aU rfl ?_)
 (refine pW rfl ?_ rfl (by rfl);refine CT rfl rfl ?_)
 (repeat first|refine tM rfl ?_ |refine aU rfl ?_ |refine Aa ?_)
 have hpu:([FF al c,B8 BZ].all E.AL && C.A5 [])=true:=by simp [FF,B8,E.AL,C.A5,C.AL,hc.AL]
 cases o with
 | none=>
  (repeat first|refine tA rfl ?_|(refine Ai rfl ?_;refine gA rfl ?_;first| refine gS (fun _ _=>AD rfl rfl hpu h rfl) ?_|refine gS (fun _ _=>AJ rfl rfl (by rfl) (by rfl)) ?_) |refine Aa ?_)
  refine Av.freeze [1] [(2,.o (.ip [.l [],.l []])),(3,eB false)] ⟨⟨_,rfl,.o (.ptr (by simp) rfl rfl rfl)⟩,⟨_,rfl,.AU⟩,trivial⟩ ?_
  refine aR ⟨_,rfl,?_⟩
  rfl
 | some u=>
  (repeat first|refine tA rfl ?_|(refine Ai rfl ?_;refine gA rfl ?_;first| refine gS (fun _ _=>AD rfl rfl hpu h rfl) ?_|refine gS (fun _ _=>AJ rfl rfl (by rfl) (by rfl)) ?_) |refine Aa ?_)
  refine Av.freeze [1] [(2,.o (.ip [Ba u.rows,Ba u.cols])),(3,eB true)] ⟨⟨_,rfl,.o (.ptr (by simp) rfl rfl rfl)⟩,⟨_,rfl,.AU⟩,trivial⟩ ?_
  refine aR ⟨_,rfl,?_⟩
  rfl
theorem Qh{c:C}{L:W→Bool}{ok:W→Prop}(hc:En Tryz.prog TB c L ok)(al:Int)(hf:GS ok al) :
 Pure Tryz.prog TB 170 [FF al c] (EP (AZ L (AO al) 13 BZ)):=OV hc al ((Kt al).ed hf (by omega))
def AT(L:W→Bool)(al:Int)(t:AN):Bn:=⟨al,t.rows.map fun r=>(Ac al).map fun l=>((CD L t (r++[lb l]):Nat):Int),t.rows.map L⟩
theorem Wz{L:W→Bool}{al:Int}{t:AN}(ho:AM L (AO al) t=none){r:W}(hr:r∈t.rows){l:Int}(hl:l∈Ac al) :
 (BU (A9 L t t.rows.length) (marks L t.cols (r++[lb l]))).getD 0=((CD L t (r++[lb l]):Nat):Int):=by
 have hm:marks L t.cols (r++[lb l])∈Az L t:=by
  have:=List.find?_eq_none.1 ho (r++[lb l]) (by
   unfold BP
   exact List.mem_flatMap.2 ⟨r,hr,List.mem_map.2 ⟨lb l,List.mem_map.2 ⟨l,hl,rfl⟩,rfl⟩⟩)
  simpa using this
 rw [Ql,if_pos hm]
 rfl
end Go.Am
namespace Go.Am
set_option linter.unusedVariables false
theorem NX(L:W→Bool)(cols:List W)(v w:W):marks L (cols++[v]) w=marks L cols w++[OR (L (w++v))]:=by simp [marks]
theorem A7.row{L:W→Bool}{ls:List UInt8}{t:AN}(h:A7 L ls t){i j:Nat}{r s:W}(hi:t.rows[i]? = some r)(hj:t.rows[j]? = some s)(he:marks L t.cols r=marks L t.cols s):i=j:=by
 have h1:(Az L t)[i]? = some (marks L t.cols r):=by simp [Az,hi]
 have h2:(Az L t)[j]? = some (marks L t.cols r):=by simp [Az,hj,he]
 have l1:=(List.getElem?_eq_some_iff.1 h1).1
 have l2:=(List.getElem?_eq_some_iff.1 h2).1
 have e1:=(List.getElem?_eq_some_iff.1 h1).2
 have e2:=(List.getElem?_eq_some_iff.1 h2).2
 have hp:=List.pairwise_iff_getElem.1 h.nd
 rcases Nat.lt_trichotomy i j with h3|h3|h3
 ·exact absurd (e1.trans e2.symm) (hp i j l1 l2 h3)
 ·exact h3
 ·exact absurd (e2.trans e1.symm) (hp j i l2 l1 h3)
structure Split (L:W→Bool) (ls:List UInt8) (t:AN) (u v:W):Prop where
 suf:∃p,p≠[]∧u=p++v
 new:v∉t.cols
 opens:∃r∈t.rows,∃c∈ls,marks L (t.cols++[v]) (r++[c])∉Az L ⟨t.rows,t.cols++[v]⟩
theorem MM{L:W→Bool}{ls:List UInt8}{t:AN}(h:A7 L ls t)(b:Bool):∀(u:W) (i:Nat) (r:W),AB ls u→t.rows[i]? = some r→L (r++u)=b→L (t.rows.getD (runM L t i u) [])≠b→∃v,splitAt L t b i u=some v∧Split L ls t u v
 | [],i,r,_,hi,hb,hn=>by
  have h1:t.rows.getD i []=r:=by simp [hi]
  rw [List.append_nil] at hb
  exact absurd (by show L (t.rows.getD i [])=b;rw [h1];exact hb) hn
 | c :: v,i,r,hu,hi,hb,hn=>by
  have hc:c∈ls:=hu c (by simp)
  have hgd:t.rows.getD i []=r:=by simp [hi]
  obtain⟨r',h1,h2⟩:=h.idx hi hc
  have hgd':t.rows.getD (CD L t (r++[c])) []=r':=by simp [h1]
  unfold splitAt
  rw [hgd,hgd']
  by_cases hv:L (r'++v)≠b
  ·rw [if_pos hv]
   have hrc:r++c::v=(r++[c])++v:=by simp
   have hne:L ((r++[c])++v)≠L (r'++v):=by rw [←hrc,hb];exact fun e=>hv e.symm
   refine⟨v,rfl,⟨[c],by simp,rfl⟩,fun hm=>hne ((Qc.1 h2 v hm).symm),r,List.mem_of_getElem? hi,c,hc,fun hm=>?_⟩
   unfold Az at hm
   obtain⟨s,hs,he⟩:=List.mem_map.1 hm
   simp only [NX] at he
   obtain⟨e1,e2⟩:=List.append_inj' he rfl
   obtain⟨q,hq,hqe⟩:=List.getElem_of_mem hs
   have hsq:t.rows[q]? = some s:=by rw [List.getElem?_eq_getElem hq,hqe]
   have:=h.row hsq h1 (e1.trans h2.symm)
   subst this
   rw [hsq] at h1
   injection h1 with h1
   subst h1
   have e3:OR (L (s++v))=OR (L (r++[c]++v)):=by simpa using e2
   exact hne (Tn e3).symm
  ·rw [if_neg hv]
   have hv':L (r'++v)=b:=by simpa using hv
   have hn':L (t.rows.getD (runM L t (CD L t (r++[c])) v) [])≠b:=by
    have:runM L t i (c::v)=runM L t (CD L t (r++[c])) v:=by show runM L t (CD L t (t.rows.getD i []++[c])) v=_;rw [hgd]
    rwa [this] at hn
   obtain⟨w,h3,⟨p,hp,h4⟩,h5,h6⟩:=MM h b v _ r' (fun x hx=>hu x (by simp [hx])) h1 hv' hn'
   exact⟨w,h3,⟨c::p,by simp,by rw [h4];rfl⟩,h5,h6⟩
theorem TOk.Pm{L:W→Bool}{ls:List UInt8}{t:AN}{v:W}(h:TOk L ls t)(hv:AB ls v)(hn:v∉t.cols):TOk L ls ⟨t.rows,t.cols++[v]⟩:=by
 have h0:0 < t.cols.length:=(List.getElem?_eq_some_iff.1 h.c0).1
 refine⟨h.r0,by show (t.cols++[v])[0]? = _;rw [List.getElem?_append_left h0];exact h.c0,h.pre,h.onR,fun c hc=>?_,?_,?_⟩
 ·rcases List.mem_append.1 hc with hc|hc
  ·exact h.onC c hc
  ·simp at hc;subst hc;exact hv
 ·have hnd:=h.nd
  unfold Az List.Nodup at *
  rw [List.pairwise_map] at *
  refine hnd.imp fun {a b} hne he=>hne ?_
  simp only [NX] at he
  exact(List.append_inj' he rfl).1
 ·rw [List.nodup_append]
  exact⟨h.ndC,by simp,fun a ha b hb e=>by simp at hb;subst hb;exact hn (e ▸ ha)⟩
theorem Tz{L:W→Bool}{ls:List UInt8}{t:AN}{r:W}{c:UInt8}(hr:r∈t.rows)(hc:c∈ls)(hm:marks L t.cols (r++[c])∉Az L t):AM L ls t≠none:=fun h=>hm (DU h r hr c hc)
def IU(L:W→Bool)(t:AN)(w:W):Bool:=L (t.rows.getD (runM L t 0 w) [])
def Qi(L:W→Bool)(ls:List UInt8)(t:AN)(w:W):Option AN:=(splitAt L t (L w) 0 w).bind fun v=>AZ L ls 13 ⟨t.rows,t.cols++[v]⟩
structure Next (L:W→Bool) (ls:List UInt8) (t:AN) (w v:W) (t':AN):Prop where
 split:splitAt L t (L w) 0 w=some v
 close:AZ L ls 13 ⟨t.rows,t.cols++[v]⟩=some t'
 next:Qi L ls t w=some t'
 ok:A7 L ls t'
 cols:t'.cols=t.cols++[v]
 new:v∉t.cols
 suf:∃p,p≠[]∧w=p++v
 more:t.rows.length < t'.rows.length
 pre:t.rows <+: t'.rows
theorem TOk.closed{L:W→Bool}{ls:List UInt8}{t:AN}(h:TOk L ls t)(ho:AM L ls t=none):A7 L ls t:=⟨h,DU ho⟩
theorem OW{L:W→Bool}{ls:List UInt8}{n:Nat}(f:Fin L ls n)(hn:n≤12){t:AN}(h:A7 L ls t){w:W}(hw:AB ls w)(hd:IU L t w≠L w):∃v t',Next L ls t w v t':=by
 obtain⟨v,h1,⟨p,hp,h2⟩,h3,r,hr,c,hc,h4⟩:=MM h (L w) w 0 [] hw h.r0 rfl hd
 have hv:AB ls v:=fun x hx=>hw x (by rw [h2];simp [hx])
 have h5:=h.toTOk.Pm hv h3
 have h6:=Tz (t:=⟨t.rows,t.cols++[v]⟩) hr hc h4
 have h0:0 < t.rows.length:=(List.getElem?_eq_some_iff.1 h.r0).1
 obtain⟨t',e1,e2,e3,e4,e5,e6⟩:=JW f hn 13 _ h5 (by omega)
 exact⟨v,t',h1,e1,by simp [Qi,h1,e1],e2.closed e3,e5,h3,⟨p,hp,h2⟩,e6 h6,e4⟩
def El(L:W→Bool)(ls:List UInt8)(wr:AN→Option W)(t0:AN):Nat→AN
 | 0=>t0
 | k+1=>match wr (El L ls wr t0 k) with
  | none=>El L ls wr t0 k
  | some w=>(Qi L ls (El L ls wr t0 k) w).getD (El L ls wr t0 k)
structure Wr (L:W→Bool) (ls:List UInt8) (wr:AN→Option W):Prop where
 on:∀t w,wr t=some w→A7 L ls t→AB ls w∧IU L t w≠L w
theorem QO{L:W→Bool}{ls:List UInt8}{n:Nat}(f:Fin L ls n)(hn:n≤12){wr:AN→Option W}(hwr:Wr L ls wr){t0:AN}(h0:A7 L ls t0)(hc:t0.cols.length=1):∀k,(∀j,j < k→wr (El L ls wr t0 j)≠none)→
 A7 L ls (El L ls wr t0 k)∧k+1≤(El L ls wr t0 k).rows.length∧(El L ls wr t0 k).cols.length=k+1
 | 0,_=>⟨h0,(List.getElem?_eq_some_iff.1 h0.r0).1,hc⟩
 | k + 1,h=>by
  obtain⟨h1,h2,h3⟩:=QO f hn hwr h0 hc k fun j hj=>h j (by omega)
  have h4:=h k (by omega)
  unfold El
  cases hw:wr (El L ls wr t0 k) with
  | none=>exact absurd hw h4
  | some w=>
   obtain⟨h5,h6⟩:=hwr.on _ w hw h1
   obtain⟨v,t',hN⟩:=OW f hn h1 h5 h6
   simp only [hN.next,Option.getD_some]
   refine⟨hN.ok,by have:=hN.more;omega,by rw [hN.cols];simp [h3]⟩
theorem RO{L:W→Bool}{ls:List UInt8}{n:Nat}(f:Fin L ls n)(hn:n≤12){wr:AN→Option W}(hwr:Wr L ls wr){t0:AN}(h0:A7 L ls t0)(hc:t0.cols.length=1) :
 ∃k,k < 12∧wr (El L ls wr t0 k)=none∧∀j,j < k→wr (El L ls wr t0 j)≠none:=by
 have key : ∀m,(∃k,k < m∧wr (El L ls wr t0 k)=none∧∀j,j < k→wr (El L ls wr t0 j)≠none)∨∀j,j < m→wr (El L ls wr t0 j)≠none:=by
  intro m
  induction m with
  | zero=>exact .inr fun j hj=>by omega
  | succ m ih=>
   rcases ih with ⟨k,h1,h2,h3⟩|ih
   ·exact .inl ⟨k,by omega,h2,h3⟩
   ·by_cases hm:wr (El L ls wr t0 m)=none
    ·exact .inl ⟨m,by omega,hm,ih⟩
    ·refine .inr fun j hj=>?_
     by_cases hjm:j=m
     ·subst hjm;exact hm
     ·exact ih j (by omega)
 rcases key 12 with h|h
 ·exact h
 ·have h1:=QO f hn hwr h0 hc 12 h
  have:=h1.1.cF f
  omega
def Cz(a:Bn):Int→W→Int
 | q,[]=>q
 | q,c::w=>Cz a (B9 a q.toNat ((c.toNat:Int) - 97)) w
def LA(a:Bn)(w:W):Bool:=a.ac.getD (Cz a 0 w).toNat false
theorem Jy(a:Bn):∀(u w:W) (q:Int),Cz a q (u++w)=Cz a (Cz a q u) w
 | [],_,_=>rfl
 | c::u,w,q=>Jy a u w _
theorem OM{l:Int}(h0:0≤l)(h1:l < 6):((lb l).toNat:Int) - 97=l:=by
 unfold lb
 have:(97+l.toNat) % 256=97+l.toNat:=by omega
 simp [this]
 omega
theorem Fc{al:Int}{c:UInt8}(h:c∈AO al):0≤(c.toNat:Int) - 97∧(c.toNat:Int) - 97 < 6:=by
 obtain⟨l,hl,rfl⟩:=List.mem_map.1 h
 have h1:=AS hl
 rw [OM h1.1 (by omega)]
 omega
theorem EA{a:Bn}(ha:AK a=true){al:Int}:∀(w:W) (q:Int),AB (AO al) w→0≤q∧q < a.nx.length→0≤Cz a q w∧Cz a q w < a.nx.length
 | [],q,_,hq=>hq
 | c::w,q,hw,hq=>by
  have h1:=Fc (hw c (by simp))
  have h2:=Dc ha (q:=q.toNat) (by omega) h1.1 h1.2
  exact EA ha w _ (fun x hx=>hw x (by simp [hx])) h2
def Um{a:Bn}(ha:AK a=true)(al:Int):Fin (LA a) (AO al) a.nx.length where
 st w:=(Cz a 0 w).toNat
 lt w hw:=by
  have h1:=Aj ha
  have:=EA ha w 0 hw (by omega)
  omega
 same u w v hu hw hv h:=by
  have h1:=Aj ha
  have h2:=EA ha u 0 hu (by omega)
  have h3:=EA ha w 0 hw (by omega)
  have h4:Cz a 0 u=Cz a 0 w:=by omega
  unfold LA
  rw [Jy,Jy,h4]
theorem Lg{al:Int}{l:Int}(h:l∈Ac al):lb l∈AO al:=List.mem_map.2 ⟨l,h,rfl⟩
theorem IX{L:W→Bool}{al:Int}{t:AN}(hal:Bb al=true)(h:A7 L (AO al) t)(hr:t.rows.length≤12):AK (AT L al t)=true:=by
 have h0:0 < t.rows.length:=(List.getElem?_eq_some_iff.1 h.r0).1
 unfold AK
 simp only [Bool.and_eq_true,decide_eq_true_eq,List.all_eq_true]
 refine⟨⟨⟨hal,by simp [AT];omega⟩,by simp [AT]⟩,fun row hrow=>?_⟩
 simp only [AT,List.mem_map] at hrow
 obtain⟨r,hr,rfl⟩:=hrow
 unfold Ew
 simp only [Bool.and_eq_true,decide_eq_true_eq,List.all_eq_true]
 refine⟨by simp [AT],fun y hy=>?_⟩
 obtain⟨l,hl,rfl⟩:=List.mem_map.1 hy
 obtain⟨i,hi,he⟩:=List.getElem_of_mem hr
 obtain⟨r',h2,_⟩:=h.idx (i:=i) (r:=r) (by rw [List.getElem?_eq_getElem hi,he]) (Lg hl)
 have h3:=(List.getElem?_eq_some_iff.1 h2).1
 unfold Pa
 simp [AT]
 exact h3
theorem Jd{L:W→Bool}{al:Int}{t:AN}{q:Nat}{c:UInt8}(hq:q < t.rows.length)(hc:c∈AO al):B9 (AT L al t) q ((c.toNat:Int) - 97)=((CD L t (t.rows.getD q []++[c]):Nat):Int):=by
 obtain⟨l,hl,rfl⟩:=List.mem_map.1 hc
 have h1:=AS hl
 rw [OM h1.1 (by omega)]
 obtain⟨k,hk,he⟩:=List.getElem_of_mem hl
 have h2:(Ay al 6)[k]? = some l:=by rw [List.getElem?_eq_getElem hk,he]
 have h3:=HZ h2
 unfold B9
 have h4:DN (AT L al t).al l.toNat=true:=h1.2.2
 rw [if_pos h4]
 have h5:(Ay (AT L al t).al l.toNat).length=k:=h3
 rw [h5]
 have h6:(AT L al t).nx.getD q []=(Ac al).map fun l=>((CD L t (t.rows.getD q []++[lb l]):Nat):Int):=by
  simp [AT,List.getD,hq]
 rw [h6]
 simp [List.getD,h2]
theorem Og{L:W→Bool}{al:Int}{t:AN}(h:A7 L (AO al) t):∀(w:W) (q:Nat),AB (AO al) w→q < t.rows.length→Cz (AT L al t) q w=((runM L t q w:Nat):Int)
 | [],q,_,_=>rfl
 | c::w,q,hw,hq=>by
  have h1:t.rows[q]? = some t.rows[q]:=List.getElem?_eq_getElem hq
  have hc:=hw c (by simp)
  obtain⟨_,h2,_⟩:=h.idx h1 hc
  have h3:t.rows.getD q []=t.rows[q]:=by simp [h1]
  have h4:=(List.getElem?_eq_some_iff.1 h2).1
  show Cz (AT L al t) (B9 (AT L al t) ((q:Int)).toNat ((c.toNat:Int) - 97)) w=_
  rw [Int.toNat_natCast,Jd hq hc]
  rw [←h3] at h4
  exact Og h w _ (fun x hx=>hw x (by simp [hx])) h4
theorem K5{L:W→Bool}{al:Int}{t:AN}(h:A7 L (AO al) t){w:W}(hw:AB (AO al) w):LA (AT L al t) w=IU L t w:=by
 have h0:0 < t.rows.length:=(List.getElem?_eq_some_iff.1 h.r0).1
 have h1:=h.run w 0 hw h0
 unfold LA IU
 have h2:=Og h w 0 hw h0
 rw [show ((0:Nat):Int)=0 from rfl] at h2
 rw [h2,Int.toNat_natCast]
 simp [AT,List.getD,h1]
end Go.Am
namespace Go.Am
open Go
set_option linter.unusedVariables false
def Lc(a b:Bn)(s0:Int)(op:Bool→Bool→Bool):Gr:=
 ⟨a.nx.length*b.nx.length,fun x l=>[B9 a (x / b.nx.length).toNat l*b.nx.length+B9 b (x % b.nx.length).toNat l],fun x=>op (a.ac.getD (x / b.nx.length).toNat false) (b.ac.getD (x % b.nx.length).toNat false),Ac a.al,s0⟩
def Ds(a b:Bn)(kd:Int):Net:=⟨[],[a,b],[0,0],a.al,kd,0⟩
theorem Hh{a b:Bn}(hb:AK b=true){x:Int}(hx:0≤x∧x < (Lc a b 0 bne).N):0≤x / b.nx.length∧x / b.nx.length < a.nx.length∧0≤x % b.nx.length∧x % b.nx.length < b.nx.length:=by
 have h1:=Aj hb
 have h2:x < ((a.nx.length*b.nx.length:Nat):Int):=hx.2
 rw [Int.natCast_mul] at h2
 exact⟨Int.ediv_nonneg hx.1 (by omega),Int.ediv_lt_of_lt_mul (by omega) h2,Int.emod_nonneg _ (by omega),Int.emod_lt_of_pos _ (by omega)⟩
theorem VZ{a b:Bn}(ha:AK a=true)(hb:AK b=true){s0:Int}{op:Bool→Bool→Bool}(hs:0≤s0∧s0 < a.nx.length*b.nx.length):GR (Lc a b s0 op):=by
 refine⟨⟨hs.1,by show s0 < ((a.nx.length*b.nx.length:Nat):Int);rw [Int.natCast_mul];exact hs.2⟩,fun x hx l hl y hy=>?_,DA _ _⟩
 have hl:=AS (show l∈Ay a.al 6 from hl)
 have h1:=Hh hb hx
 have h2:=Dc ha (q:=(x / b.nx.length).toNat) (by omega) hl.1 (by omega)
 have h3:=Dc hb (q:=(x % b.nx.length).toNat) (by omega) hl.1 (by omega)
 have hy:y=B9 a (x / b.nx.length).toNat l*b.nx.length+B9 b (x % b.nx.length).toNat l:=by simpa [Lc] using hy
 subst hy
 generalize B9 a (x / b.nx.length).toNat l=u at *
 generalize B9 b (x % b.nx.length).toNat l=v at *
 show 0≤u*(b.nx.length:Int)+v∧u*(b.nx.length:Int)+v < ((a.nx.length*b.nx.length:Nat):Int)
 rw [Int.natCast_mul]
 have h4:0≤u*(b.nx.length:Int):=Int.mul_nonneg h2.1 (by omega)
 have h5:(u+1)*(b.nx.length:Int)≤a.nx.length*b.nx.length:=Int.mul_le_mul_of_nonneg_right (by omega) (by omega)
 rw [Int.add_mul] at h5
 omega
theorem Tt{a b:Bn}{kd:Int}(ha:AK a=true)(hb:AK b=true):DL (Ds a b kd)∧ZD (Ds a b kd)∧Fits (Ae (Ds a b kd)) (Ds a b kd).st:=by
 have h1:=Aj ha
 have h2:=Aj hb
 refine⟨⟨fun s hs=>(by cases hs),fun x hx=>?_,by simp [Ds],by simp [Ds]⟩,⟨fun _=>by simp [Ds],fun _=>by simp [Ds]⟩,?_⟩
 ·simp [Ds] at hx;rcases hx with rfl|rfl<;>assumption
 ·refine NP (zs:=Ae (Ds a b kd)) fun z hz=>?_
  simp [Ae,Ds] at hz
  rcases hz with rfl|rfl<;>omega
theorem Qg{a b:Bn}{kd:Int}{op:Bool→Bool→Bool}(ha:AK a=true)(hb:AK b=true)(ho:∀x y,op x y=if kd=1 then x != y else (x && !y))(hk:kd=1∨kd=2):GX (Lc a b 0 op)=GX (Fw (Ds a b kd)):=by
 obtain⟨hn,_,hst⟩:=Tt (kd:=kd) ha hb
 have han:=Aj ha
 have hbn:=Aj hb
 have hg:=VY hn hst
 refine VD (BM.congr hg ?_ ?_ (fun x hx l hl=>?_) (fun x hx=>?_) (GY _))
 ·rfl
 ·exact NK (Ae (Ds a b kd)) 2
 ·have hl:=AS (show l∈Ay a.al 6 from hl)
  show EW (Ds a b kd) (Ae (Ds a b kd)) (Bz (Ae (Ds a b kd)) x) l=_
  have e:=OX (l:=[]) (aus:=[a,b]) (st:=[0,0]) (ls:=a.al) (kd:=kd) (gl:=0) hn (node:=x) hl.1 (by omega)
  refine Eq.trans e ?_
  have hxN:x / b.nx.length % a.nx.length=x / b.nx.length:=by
   have h2:(Fw (Ds a b kd)).N=a.nx.length*b.nx.length:=by
    show (AG (Ae (Ds a b kd))).toNat=_
    simp only [Ae,Ds,List.map_nil,List.nil_append,List.map_cons,AG,Int.mul_one]
    rw [←Int.natCast_mul,Int.toNat_natCast]
   rw [h2] at hx
   have:=Hh (a:=a) hb (x:=x) hx
   exact Int.emod_eq_of_lt this.1 this.2.1
  simp only [List.map_cons,List.map_nil,AG,Int.mul_one,Bz,bI,List.zipWith_nil_left,List.zipWith_cons_cons,Ke,List.flatMap_cons,List.flatMap_nil,List.append_nil,Int.ediv_one,Int.add_zero,Int.zero_mul,Int.zero_add,hxN,Lc]
 ·show B3 (Ds a b kd) (Bz (Ae (Ds a b kd)) x) (Ek (Ds a b kd) x.toNat)=_
  have hxN:x / b.nx.length % a.nx.length=x / b.nx.length:=by
   have h2:(Fw (Ds a b kd)).N=a.nx.length*b.nx.length:=by
    show (AG (Ae (Ds a b kd))).toNat=_
    simp only [Ae,Ds,List.map_nil,List.nil_append,List.map_cons,AG,Int.mul_one]
    rw [←Int.natCast_mul,Int.toNat_natCast]
   rw [h2] at hx
   have:=Hh (a:=a) hb (x:=x) hx
   exact Int.emod_eq_of_lt this.1 this.2.1
  show _=op (a.ac.getD (x / b.nx.length).toNat false) (b.ac.getD (x % b.nx.length).toNat false)
  rw [ho]
  unfold B3 XR
  rcases hk with rfl|rfl
  ·simp [Ds,Ae,Bz,AG,List.getD,hxN]
  ·simp [Ds,Ae,Bz,AG,List.getD,hxN]
def Eu(a b:Bn):Bool:=AK a && AK b && decide (a.al=b.al)
noncomputable def JY(a b:Bn):Option (List Int):=if Eu a b then GX (Fw (Ds a b 1)) else none
theorem HK{g:Gr}:∀ {u v:List Int} {a x:Int},reach g (u++v) a x↔∃y,reach g u a y∧reach g v y x
 | [],v,a,x=>⟨fun h=>⟨a,rfl,h⟩,fun ⟨y,h1,h2⟩=>by cases h1;exact h2⟩
 | l :: u,v,a,x=>by
  simp only [List.cons_append,reach]
  constructor
  ·rintro⟨y,hy,h⟩
   obtain⟨z,h1,h2⟩:=HK.1 h
   exact⟨z,⟨y,hy,h1⟩,h2⟩
  ·rintro⟨z,⟨y,hy,h1⟩,h2⟩
   exact⟨y,hy,HK.2 ⟨z,h1,h2⟩⟩
theorem aM(n:Nat)(f:Nat→Int)(h:∀i,i≤n→0≤f i∧f i < n):∃i j,i < j∧j≤n∧f i=f j:=by
 apply Classical.byContradiction
 intro hno
 have h1:((List.range (n+1)).map fun i=>(f i).toNat).Nodup:=by
  unfold List.Nodup
  rw [List.pairwise_map]
  refine List.pairwise_lt_range.imp_of_mem fun {a b} ha hb hab he=>hno ⟨a,b,hab,?_,?_⟩
  ·have:=List.mem_range.1 hb;omega
  ·have h2:=h a (by have:=List.mem_range.1 ha;omega)
   have h3:=h b (by have:=List.mem_range.1 hb;omega)
   omega
 have h2:=Mk n _ h1 fun x hx=>by
  obtain⟨i,hi,rfl⟩:=List.mem_map.1 hx
  have:=h i (by have:=List.mem_range.1 hi;omega)
  omega
 simp at h2
 omega
theorem BM.short{g:Gr}(hg:GR g){w:List Int}(h:BM g (some w)):w.length < g.N:=by
 obtain⟨h1,⟨x,hx,hgx⟩,h3⟩:=h
 apply Classical.byContradiction
 intro hlen
 have hsp:∀k,∃y,reach g (w.take k) g.s0 y∧reach g (w.drop k) y x:=fun k=>HK.1 (by rw [List.take_append_drop];exact hx)
 obtain⟨f,hf⟩:=Classical.axiomOfChoice hsp
 obtain⟨i,j,hij,hj,he⟩:=aM g.N f fun i _=>CG hg (fun l hl=>h1 l (List.mem_of_mem_take hl)) hg.s0 (hf i).1
 refine h3 (w.take i++w.drop j) (fun l hl=>?_) ⟨x,HK.2 ⟨f i,(hf i).1,he ▸ (hf j).2⟩,hgx⟩ (.inl ?_)
 ·rcases List.mem_append.1 hl with hl|hl
  ·exact h1 l (List.mem_of_mem_take hl)
  ·exact h1 l (List.mem_of_mem_drop hl)
 ·simp;omega
theorem bC{al:Int}:∀ {w:List Int},(∀l∈w,l∈Ac al)→AB (AO al) (E7 w):=fun {w} h c hc=>by
 obtain⟨l,hl,rfl⟩:=List.mem_map.1 hc
 exact Lg (h l hl)
theorem Qs{a b:Bn}(ha:AK a=true)(hb:AK b=true){op:Bool→Bool→Bool}{s0:Int}:∀ {w:List Int} {i j x:Int},(∀l∈w,l∈Ac a.al)→(0≤i∧i < a.nx.length)→(0≤j∧j < b.nx.length)→
 (reach (Lc a b s0 op) w (i*b.nx.length+j) x↔x=Cz a i (E7 w)*b.nx.length+Cz b j (E7 w))
 | [],i,j,x,_,_,_=>⟨fun h=>h.symm,fun h=>h.symm⟩
 | l :: w,i,j,x,hw,hi,hj=>by
  have hl:=AS (hw l (by simp))
  have h1:(i*b.nx.length+j) / b.nx.length=i:=by
   rw [Int.add_comm,Int.add_mul_ediv_right _ _ (by omega),Int.ediv_eq_zero_of_lt hj.1 hj.2,Int.zero_add]
  have h2:(i*b.nx.length+j) % b.nx.length=j:=by
   rw [Int.add_comm,Int.add_mul_emod_self_right,Int.emod_eq_of_lt hj.1 hj.2]
  have h3:=Dc ha (q:=i.toNat) (by omega) hl.1 (by omega)
  have h4:=Dc hb (q:=j.toNat) (by omega) hl.1 (by omega)
  have ih:=Qs ha hb (op:=op) (s0:=s0) (w:=w) (x:=x) (fun m hm=>hw m (by simp [hm])) h3 h4
  have e:∀(c:Bn) (q:Int),Cz c q (E7 (l::w))=Cz c (B9 c q.toNat l) (E7 w):=fun c q=>by
   show Cz c (B9 c q.toNat (((lb l).toNat:Int) - 97)) (E7 w)=_
   rw [OM hl.1 (by omega)]
  rw [e,e,←ih]
  simp only [reach,Lc,h1,h2,List.mem_singleton,exists_eq_left]
theorem NH{a b:Bn}{w:List Int}(h:JY a b=some w):Eu a b=true∧AB (AO a.al) (E7 w)∧LA a (E7 w)≠LA b (E7 w)∧(E7 w).length≤144:=by
 unfold JY at h
 by_cases hv:Eu a b=true
 ·rw [if_pos hv] at h
  refine⟨hv,?_⟩
  unfold Eu at hv
  simp only [Bool.and_eq_true,decide_eq_true_eq] at hv
  obtain⟨⟨ha,hb⟩,hal⟩:=hv
  have han:=Aj ha
  have hbn:=Aj hb
  rw [←Qg (op:=bne) ha hb (fun x y=>by simp) (.inl rfl)] at h
  have hg:=VZ (op:=bne) (s0:=0) ha hb ⟨by omega,by rw [←Int.natCast_mul];have:=Nat.mul_pos (show 0 < a.nx.length by omega) (show 0 < b.nx.length by omega);omega⟩
  have hi:=GY (Lc a b 0 bne)
  rw [h] at hi
  have hs:=hi.short hg
  obtain⟨h1,⟨x,hx,hgx⟩,h3⟩:=hi
  have hon:=bC (al:=a.al) h1
  refine⟨hon,fun he=>?_,?_⟩
  ·have h4:=(Qs ha hb (op:=bne) (s0:=0) (i:=0) (j:=0) (x:=x) h1 ⟨by omega,by omega⟩ ⟨by omega,by omega⟩).1 (by simpa [Lc] using hx)
   have hra:=EA ha (E7 w) 0 hon (by omega)
   have hrb:=EA hb (E7 w) 0 (al:=a.al) hon (by omega)
   have h5:x / b.nx.length=Cz a 0 (E7 w):=by
    rw [h4,Int.add_comm,Int.add_mul_ediv_right _ _ (by omega),Int.ediv_eq_zero_of_lt hrb.1 hrb.2,Int.zero_add]
   have h6:x % b.nx.length=Cz b 0 (E7 w):=by
    rw [h4,Int.add_comm,Int.add_mul_emod_self_right,Int.emod_eq_of_lt hrb.1 hrb.2]
   have h7:(Lc a b 0 bne).goal x=(LA a (E7 w) != LA b (E7 w)):=by simp only [Lc,h5,h6,LA]
   rw [h7,he] at hgx
   simp at hgx
  ·have h8:a.nx.length*b.nx.length≤12*12:=Nat.mul_le_mul (by omega) (by omega)
   have h9:(Lc a b 0 bne).N=a.nx.length*b.nx.length:=rfl
   have h10:(E7 w).length=w.length:=by simp [E7]
   omega
 ·rw [if_neg hv] at h;cases h
noncomputable def Pj(p:Bn)(t:AN):Option W:=(JY (AT (LA p) p.al t) p).map E7
theorem MX(p:Bn):Wr (LA p) (AO p.al) (Pj p):=⟨fun t w h hc=>by
 unfold Pj at h
 obtain⟨v,hv,rfl⟩:=Option.map_eq_some_iff.1 h
 obtain⟨_,h1,h2,_⟩:=NH hv
 exact⟨h1,fun he=>h2 (by rw [K5 hc h1,he])⟩⟩
theorem Kw{p:Bn}{t:AN}{w:W}(h:Pj p t=some w):w.length≤144:=by
 unfold Pj at h
 obtain⟨v,hv,rfl⟩:=Option.map_eq_some_iff.1 h
 exact(NH hv).2.2.2
theorem Ot(L:W→Bool)(ls:List UInt8):TOk L ls BZ:=by
 refine⟨rfl,rfl,fun i w hi h0=>?_,fun w hw=>?_,fun w hw=>?_,by simp [Az,BZ],by simp [BZ]⟩
 ·have:=(List.getElem?_eq_some_iff.1 hi).1
  simp [BZ] at this;omega
 ·simp [BZ] at hw;subst hw;exact fun c hc=>(by cases hc)
 ·simp [BZ] at hw;subst hw;exact fun c hc=>(by cases hc)
noncomputable def Pe(p:Bn):AN:=(AZ (LA p) (AO p.al) 13 BZ).getD BZ
theorem JG{p:Bn}(hp:AK p=true):AZ (LA p) (AO p.al) 13 BZ=some (Pe p)∧A7 (LA p) (AO p.al) (Pe p)∧(Pe p).cols=[[]]:=by
 have h1:=Aj hp
 obtain⟨t',e1,e2,e3,e4,e5,_⟩:=JW (Um hp p.al) h1.2.2.1 13 BZ (Ot _ _) (by simp [BZ])
 have:Pe p=t':=by unfold Pe;rw [e1];rfl
 rw [this]
 exact⟨e1,e2.closed e3,e5⟩
noncomputable def BK(p:Bn)(k:Nat):AN:=El (LA p) (AO p.al) (Pj p) (Pe p) k
theorem YC{p:Bn}(hp:AK p=true):∃k,k < 12∧Pj p (BK p k)=none∧∀j,j < k→Pj p (BK p j)≠none:=
 RO (Um hp p.al) (Aj hp).2.2.1 (MX p) (JG hp).2.1 (by rw [(JG hp).2.2];rfl)
open Classical in
noncomputable def Dn(p:Bn):Nat:=if h:∃k,k < 12∧Pj p (BK p k)=none∧∀j,j < k→Pj p (BK p j)≠none then Classical.choose h else 0
theorem ER{p:Bn}(hp:AK p=true):Dn p < 12∧Pj p (BK p (Dn p))=none∧∀j,j < Dn p→Pj p (BK p j)≠none:=by
 have h:=YC hp
 unfold Dn
 rw [dif_pos h]
 exact Classical.choose_spec h
theorem TOk.short{L:W→Bool}{ls:List UInt8}{t:AN}(h:TOk L ls t):∀(i:Nat) w,t.rows[i]? = some w→w.length≤i:=by
 intro i
 induction i using Nat.strongRecOn with
 | _ i ih=>
  intro w hw
  rcases Nat.eq_zero_or_pos i with h0|h0
  ·subst h0
   rw [h.r0] at hw
   injection hw with hw
   subst hw;simp
  ·obtain⟨h1,j,hj,h2⟩:=h.pre i w hw h0
   have:=ih j hj _ h2
   simp at this
   omega
def ZR(n:Nat)(t:AN):Prop:=∀c∈t.cols,c.length≤n
theorem Fi{p:Bn}(hp:AK p=true):∀k,k≤Dn p→A7 (LA p) (AO p.al) (BK p k)∧k+1≤(BK p k).rows.length∧(BK p k).rows.length≤12∧(BK p k).cols.length=k+1∧ZR 144 (BK p k)
 | 0, hk=>by
  have h1:=JG hp
  have h2:=h1.2.1.cF (Um hp p.al)
  have h3:=Aj hp
  have h0:=(List.getElem?_eq_some_iff.1 h1.2.1.r0).1
  exact⟨h1.2.1,h0,by show (Pe p).rows.length≤12;omega,by show (Pe p).cols.length=1;rw [h1.2.2];rfl,fun c hc=>by
   have hc:c∈(Pe p).cols:=hc
   rw [h1.2.2] at hc
   simp at hc;subst hc;simp⟩
 | k + 1,hk=>by
  obtain⟨h1,h2,h3,h4,h5⟩:=Fi hp k (by omega)
  have h6:=(ER hp).2.2 k (by omega)
  have e:BK p (k+1)=match Pj p (BK p k) with
   | none=>BK p k
   | some w=>(Qi (LA p) (AO p.al) (BK p k) w).getD (BK p k):=rfl
  cases hw:Pj p (BK p k) with
  | none=>exact absurd hw h6
  | some w=>
   obtain⟨h7,h8⟩:=(MX p).on _ w hw h1
   have h10:=Aj hp
   obtain⟨v,t',hN⟩:=Am.OW (Um hp p.al) h10.2.2.1 h1 h7 h8
   rw [hw] at e
   simp only [hN.next,Option.getD_some] at e
   rw [e]
   refine⟨hN.ok,by have:=hN.more;omega,by have:=hN.ok.cF (Um hp p.al);omega,by rw [hN.cols];simp [h4],fun c hc=>?_⟩
   rw [hN.cols] at hc
   rcases List.mem_append.1 hc with hc|hc
   ·exact h5 c hc
   ·simp at hc
    subst hc
    have:=Kw hw
    obtain⟨q,_,hq⟩:=hN.suf
    rw [hq] at this
    simp at this;omega
theorem Oq{p:Bn}(hp:AK p=true){k:Nat}(hk:k < Dn p):∃w v,Pj p (BK p k)=some w∧Next (LA p) (AO p.al) (BK p k) w v (BK p (k+1)):=by
 have h1:=(Fi hp k (by omega)).1
 have h6:=(ER hp).2.2 k hk
 have e:BK p (k+1)=match Pj p (BK p k) with
  | none=>BK p k
  | some w=>(Qi (LA p) (AO p.al) (BK p k) w).getD (BK p k):=rfl
 cases hw:Pj p (BK p k) with
 | none=>exact absurd hw h6
 | some w=>
  obtain⟨h7,h8⟩:=(MX p).on _ w hw h1
  obtain⟨v,t',hN⟩:=Am.OW (Um hp p.al) (Aj hp).2.2.1 h1 h7 h8
  rw [hw] at e
  simp only [hN.next,Option.getD_some] at e
  rw [e]
  exact⟨w,v,rfl,hN⟩
def Wu:Option TypeDesc→Bool
 | some (.func ..)=>true
 | _=>false
class Vs (P:Program) (t:TypeId):Prop where
 out:Wu (P.underlying t)=true
theorem TT{P:Program}{t:TypeId}(h:Wu (P.underlying t)=true)(w:World):(Op.equal t .nilFunc .nilFunc).run P w=.ok true w∧∀(g:Fn) (a b:Array Value),(Op.equal t (.func g a b) .nilFunc).run P w=.ok false w:=by
 unfold Wu at h
 split at h
 ·rename_i he
  unfold Op.equal Op.maxDepth
  rw [show 10000=9999+1 from rfl,Op.equalIn]
  refine⟨by simp [run_underlying he,go_sem],fun g a b=>?_⟩
  rw [Op.equalIn]
  simp [run_underlying he,go_sem]
 ·cases h
section
variable {P:Program}{TB:Be}{Γ:Ctx}{d:Option Tmp}{ty:TypeId}{pos:String}{af:Array Edge}{g:Option (Nat×Bool)}{f:Env}{σ:Ab}{nx:Nat}
theorem TH{t yt:TypeId}{x y:Operand}[hp:Vs P t](hx:ev f x=some (.o (.d (.v .nilFunc))))(hy:ev f y=some (.o (.d (.v .nilFunc)))):AV P TB Γ ⟨d,.binOp .neq t x y yt,ty,pos,af,g⟩ f σ nx (eB false):=
 Bo hx hy rfl fun w=>by
  have h6:binOp .neq t .nilFunc .nilFunc=(do pure (.bool (!(←Op.equal t .nilFunc .nilFunc)))):=rfl
  have h7:eqGuard .neq t x y .nilFunc .nilFunc=pure ():=rfl
  rw [h6,h7]
  simp [(TT hp.out w).1,go_sem]
theorem fo{t yt:TypeId}{x y:Operand}{gg:FuncId}{cap:List C}[hp:Vs P t](hx:ev f x=some (.o (.fn gg cap)))(hy:ev f y=some (.o (.d (.v .nilFunc)))):AV P TB Γ ⟨d,.binOp .neq t x y yt,ty,pos,af,g⟩ f σ nx (eB true):=
 AA fun V ρ h1 _=>by
  obtain⟨vs,hv,_⟩:=Iu (h1.get (by simp [Op.operands]) hx)
  have h3:ρ y=.nilFunc:=Ax.val (h1.get (by simp [Op.operands]) hy)
  refine⟨.bool true,?_,.d (.v rfl)⟩
  have h6:binOp .neq t (.func (.func gg) #[] vs) .nilFunc=(do pure (.bool (!(←Op.equal t (.func (.func gg) #[] vs) .nilFunc)))):=rfl
  have h7:eqGuard .neq t x y (.func (.func gg) #[] vs) .nilFunc=pure ():=rfl
  have h9:execOp ρ ⟨d,.binOp .neq t x y yt,ty,pos,af,g⟩=(do let v ←(do eqGuard .neq t x y (ρ x) (ρ y);binOp .neq t (ρ x) (ρ y));pure (.value v)):=rfl
  rw [h9,hv,h3,h6,h7]
  simp [(TT hp.out V.w).2,go_sem]
end
def LY(L:List (Nat×E)):List Nat→Option (List (Nat×E))
 | []=>some []
 | k::r=>match look L k,LY L r with
  | some e,some l=>some ((k,e)::l)
  | _,_=>none
def Th(σ:Ab):List Nat→Option Ab
 | []=>some []
 | k::r=>match look σ k,Th σ r with
  | some e,some l=>some ((k,e)::l)
  | _,_=>none
section
variable {P:Program}{TB:Be}{Γ:Ctx}{N:Nat}
theorem Av.cO{c:Code}{Q:Exit→Env→Ab→Nat→Prop}{L0 Lk:List (Nat×E)}{σ Sk:Ab}{nx:Nat}{α:Type}(ks is:List Nat)(hk:LY L0 ks=some Lk)(hi:Th σ is=some Sk)(v:α→List (Nat×E))(s:α→Ab)(n:Nat)(μ:α→Nat)
 (x:α) (l0:List Nat) (hl0:(∀i,i < Γ.V.nx→l0[i]? = some i)∧l0.Nodup∧l0.length=n) (h0:CU (nm l0 nx) (look L0) (v x++Lk)∧AQ (nm l0 nx) σ (s x++Sk))
 (round:∀x,Av P TB Γ N c (JI (fun f σ nx=>∃y,μ y < μ x∧∃l:List Nat,(∀i,i < Γ.V.nx→l[i]? = some i)∧l.Nodup∧l.length=n∧CU (nm l nx) f (v y++Lk)∧AQ (nm l nx) σ (s y++Sk)) Q) (look (v x++Lk)) (s x++Sk) n) :
 Av P TB Γ N (.loop c) Q (look L0) σ nx:=Av.AR (fun x=>v x++Lk) (fun x=>s x++Sk) n μ x l0 hl0 h0 round
theorem aL{c:Code}{Q:Exit→Env→Ab→Nat→Prop}{L0 Lk:List (Nat×E)}{σ Sk:Ab}{nx:Nat}{α:Type}(ks is:List Nat)(hk:LY L0 ks=some Lk)(hi:Th σ is=some Sk)(v:α→List (Nat×E))(s:α→Ab)(n:Nat)(μ:α→Nat)
 (x:α) {m:Nat} (hΓ:Γ.V.nx=m) (hn:Nat.ble m n=true) (h0:CU (nm (List.range n) nx) (look L0) (v x++Lk)∧AQ (nm (List.range n) nx) σ (s x++Sk))
 (round:∀x,Av P TB Γ N c (JI (fun f σ nx=>∃y,μ y < μ x∧∃l:List Nat,(∀i,i < Γ.V.nx→l[i]? = some i)∧l.Nodup∧l.length=n∧CU (nm l nx) f (v y++Lk)∧AQ (nm l nx) σ (s y++Sk)) Q) (look (v x++Lk)) (s x++Sk) n) :
 Av P TB Γ N (.loop c) Q (look L0) σ nx:=Av.cO ks is hk hi v s n μ x (List.range n) (rg hΓ hn) h0 round
theorem aQ{d:Option Tmp}{op:Op}{ty:TypeId}{pos:String}{af:Array Edge}{g:Option (Nat×Bool)}{L:List (Nat×E)}{σ:Ab}{nx:Nat}{e:E}{t:Tmp}{gg:FuncId}(hx:look L t=some (.o (.d (.v (.func (.func gg) #[] #[])))))
 (h:AV P TB Γ ⟨d,op,ty,pos,af,g⟩ (look ((t,.o (.fn gg []))::L)) σ nx e):AV P TB Γ ⟨d,op,ty,pos,af,g⟩ (look L) σ nx e:=by
 intro V a h1 h2 h3
 refine h V a ?_ h2 h3
 intro t' e' ht' he'
 rw [Au] at he'
 by_cases he:t=t'
 ·subst he
  rw [if_pos rfl] at he'
  injection he' with he'
  subst he'
  have hv:=Ax.val (h1 t _ ht' hx)
  show Ax V (.fn gg []) _
  rw [hv]
  exact .fn rfl (fun j c v hj=>by simp at hj)
 ·rw [if_neg he] at he'
  exact h1 t' e' ht' he'
theorem Spec.eF{g f0:FuncId}{σ:Ab}{nx:Nat}{l m:List E}{post:E→Ab→Nat→Prop}(h:Spec P TB g σ nx (l++.o (.d (.v (.func (.func f0) #[] #[])))::m) post):Spec P TB g σ nx (l++.o (.fn f0 [])::m) post:=
 ⟨h.1, fun V vs S hg ha=>h.2 V vs S hg ⟨by simpa using ha.1,fun j e v hj hv=>by
  by_cases hlt:j < l.length
  ·exact ha.2 j e v (by rw [List.getElem?_append_left hlt] at hj ⊢;exact hj) hv
  ·by_cases hj0:j=l.length
   ·subst hj0
    have h1:=ha.2 l.length (.o (.fn f0 [])) v (by simp) hv
    rw [List.getElem?_append_right (Nat.le_refl _)] at hj
    simp at hj
    subst hj
    obtain⟨vs',rfl,h2⟩:=Iu h1
    have h3:vs' = #[]:=Array.eq_empty_of_size_eq_zero (by simpa using h2.1)
    subst h3
    exact Ax.d (.v rfl)
   ·refine ha.2 j e v ?_ hv
    rw [List.getElem?_append_right (by omega)] at hj ⊢
    obtain⟨q,hq⟩:∃q,j - l.length=q+1:=⟨j - l.length - 1,by omega⟩
    rw [hq] at hj ⊢
    simpa using hj⟩⟩
end
inductive FZ (σ:Ab):C→D→Prop
 | d {x:D}:FZ σ (.d x) x
 | fn {g:FuncId}:FZ σ (.fn g []) (.v (.func (.func g) #[] #[]))
 | arr {id k off len:Nat} {T:TypeId} {rows:List (List C)} {ds:List (List D)} {rs:Nat→List C} {cs:Nat→Nat→C}:look σ id=some (.cells T k rows)→off+len≤rows.length→ds.length=len→
  (∀i r',ds[i]? = some r'→rows[off+i]? = some (rs i)∧(rs i).length=r'.length)→(∀i j r' x,ds[i]? = some r'→r'[j]? = some x→(rs i)[j]? = some (cs i j))→
  (∀i j r' x,ds[i]? = some r'→r'[j]? = some x→FZ σ (cs i j) x)→FZ σ (.arr id k off len) (.l ds)
 | ptr {id k i j:Nat} {T:TypeId} {rows:List (List C)} {r:List C} {ds:List D} {cs:Nat→C}:look σ id=some (.cells T k rows)→rows[i]? = some r→(∀q x,ds[q]? = some x→r[j+q]? = some (cs q))→(∀q x,ds[q]? = some x→FZ σ (cs q) x)→FZ σ (.ptr id k i j) (.p ds)
 | sld {id:Nat} {T:TypeId} {l:List (Value×List Value)} {v:Value} {row:List Value}:look σ id=some (.sld T l)→(v,row)∈l→FZ σ (.d (.v v)) (.l (row.map fun x=>[.v x]))
 | nl {b:Option Addr}:FZ σ (.d (.v (.slice b 0 0))) (.l [])
inductive Vl (σ:Ab):List C→List D→Prop
 | nil:Vl σ [] []
 | cons {c:C} {d:D} {cs:List C} {ds:List D}:FZ σ c d→Vl σ cs ds→Vl σ (c::cs) (d::ds)
theorem Vl.get{σ:Ab}{cs:List C}{ds:List D}(h:Vl σ cs ds):cs.length=ds.length∧∀(j:Nat) x,ds[j]? = some x→∃c,cs[j]? = some c∧FZ σ c x:=by
 induction h with
 | nil=>exact⟨rfl,fun j x h=>by simp at h⟩
 | @cons c d cs ds h1 _ ih=>
  refine⟨by simp [ih.1],fun j x hj=>?_⟩
  cases j with
  | zero=>simp at hj;subst hj;exact⟨c,rfl,h1⟩
  | succ j=>exact ih.2 j x (by simpa using hj)
theorem Vl.refl{σ:Ab}:∀(ds:List D),Vl σ (ds.map .d) ds
 | []=>.nil
 | d::ds=>.cons .d (Vl.refl ds)
theorem FZ.rows{σ:Ab}{id k len:Nat}{T:TypeId}{rows:List (List C)}{ds:List (List D)}(hl:look σ id=some (.cells T k rows))(hn:ds.length=len)(hr:rows.length=len)(h:∀(i:Nat) (r':List D),ds[i]? = some r'→∃r,rows[i]? = some r∧Vl σ r r'):FZ σ (.arr id k 0 len) (.l ds):=by
 refine .arr (rs:=fun i=>(rows[i]?).getD []) (cs:=fun i j=>(((rows[i]?).getD [])[j]?).getD (.d (.l []))) hl (by omega) hn (fun i r' hi=>?_) (fun i j r' x hi hj=>?_) (fun i j r' x hi hj=>?_)
 ·obtain⟨r,h1,h2⟩:=h i r' hi
  rw [Nat.zero_add,h1]
  exact⟨rfl,h2.get.1⟩
 ·obtain⟨r,h1,h2⟩:=h i r' hi
  obtain⟨c,h3,h4⟩:=h2.get.2 j x hj
  simp [h1,h3]
 ·obtain⟨r,h1,h2⟩:=h i r' hi
  obtain⟨c,h3,h4⟩:=h2.get.2 j x hj
  simp [h1,h3,h4]
theorem FZ.full{σ:Ab}{id k len:Nat}{T:TypeId}{rows:List (List C)}{ds:List (List D)}(hl:look σ id=some (.cells T k rows))(hr:rows=ds.map (fun r=>r.map .d))(hn:rows.length=len):FZ σ (.arr id k 0 len) (.l ds):=by
 refine .rows hl (by rw [←hn,hr];simp) hn fun i r' hi=>⟨r'.map .d,?_,Vl.refl _⟩
 rw [hr];simp [hi]
theorem FZ.box{σ:Ab}{id k:Nat}{T:TypeId}{r:List C}{ds:List D}(hl:look σ id=some (.cells T k [r]))(h:Vl σ r ds):FZ σ (.ptr id k 0 0) (.p ds):=by
 refine .ptr (cs:=fun q=>(r[q]?).getD (.d (.l []))) hl rfl (fun q x hq=>?_) (fun q x hq=>?_)
 ·obtain⟨c,h3,h4⟩:=h.get.2 q x hq
  rw [Nat.zero_add,h3];rfl
 ·obtain⟨c,h3,h4⟩:=h.get.2 q x hq
  simp [h3,h4]
inductive EZ (σ:Ab):E→E→Prop
 | AU {e:E}:e.AL=true→EZ σ e e
 | o {c:C} {d:D}:FZ σ c d→EZ σ (.o c) (.o (.d d))
 | a {cs:List C} {ds:List D}:Vl σ cs ds→EZ σ (.a cs) (.a (ds.map .d))
def Pp(σ:Ab)(f:Env):List (Nat×E)→Prop
 | []=>True
 | (t,e')::L=>(∃e,f t=some e∧EZ σ e e')∧Pp σ f L
theorem Pp.get{σ:Ab}{f:Env}:∀ {L:List (Nat×E)},Pp σ f L→∀t e',look L t=some e'→∃e,f t=some e∧EZ σ e e'
 | [],_,t,e,h=>by cases h
 | (k,x)::L,hs,t,e,h=>by
  rw [Au] at h
  by_cases hk:k=t
  ·rw [if_pos hk] at h;injection h with h;subst h;subst hk;exact hs.1
  ·rw [if_neg hk] at h;exact Pp.get hs.2 t e h
def Ex(V:View)(σ:Ab):View:={ V with I:=fun b=>V.I b∨∃id o,look σ id=some o∧¬V.nl id∧Dv V id o b }
theorem K8{V:View}{σ:Ab}:Ext V (Ex V σ):=⟨fun _ h=>.inl h,fun _ _=>rfl,Nat.le_refl _,fun _ _=>rfl,fun _ _=>rfl,fun _ _=>Iff.rfl,Nat.le_refl _⟩
section
variable {P:Program}{TB:Be}{Γ:Ctx}{N:Nat}{σ:Ab}
theorem IT.data{I:Nat→Prop}{w:World}{T:TypeId}{v:Value}{row:List Value}(h:IT w T v row)(hI:∀b,Ip v b→I b):Ch I w (.l (row.map fun x=>[.v x])) v:=by
 rcases h with ⟨rfl,rfl⟩|⟨b,cap,cur,rfl,h2,h3,h4,h5,h6⟩
 ·exact .nil
 ·have hn:row.length=(row.map fun x=>[D.v x]).length:=by simp
  have hg:∀(i:Nat) (r:List D) (j:Nat) (d:D),(row.map fun x=>[D.v x])[i]? = some r→r[j]? = some d→j=0∧∃x,row[i]? = some x∧d=.v x:=fun i r j d hi hj=>by
   simp only [List.getElem?_map,Option.map_eq_some_iff] at hi
   obtain⟨x,hx,rfl⟩:=hi
   have hj0:j=0:=by have:=(List.getElem?_eq_some_iff.1 hj).1;simp at this;omega
   subst hj0
   simp at hj
   exact⟨rfl,x,hx,hj.symm⟩
  rw [hn]
  refine .l (k:=1) (vs:=fun i _=>(row[i]?).getD undef) (hI b ⟨_,_,_,rfl⟩) (by simpa using h4) h5 (fun i r hi=>?_) (fun i r j d hi hj=>?_) (fun i r j d hi hj=>?_)
  ·simp only [List.getElem?_map,Option.map_eq_some_iff] at hi
   obtain⟨x,hx,rfl⟩:=hi;rfl
  ·obtain⟨rfl,x,hx,rfl⟩:=hg i r j d hi hj
   simp [World.cell?,h2,hx,(h6 i x hx).1]
  ·obtain⟨rfl,x,hx,rfl⟩:=hg i r j d hi hj
   simp only [hx,Option.getD_some]
   exact .v (h6 i x hx).2
theorem FZ.rel{V:View}(hi:Inv TB Γ V σ){c:C}{d:D}(h:FZ σ c d):∀ {v:Value},Ax V c v→Ch (Ex V σ).I V.w d v:=by
 induction h with
 | d=>intro v hc;cases hc with|d h=>exact h.ext (V:=V) (V':=Ex V σ) K8
 | @sld id T l v row hl hm=>
  intro v' hc
  have hv:v'=v:=Ax.val hc
  subst hv
  have h1:=hi.st.obj id _ hl
  exact(h1.2.2 _ hm).data fun b hb=>.inr ⟨id,_,hl,h1.1,⟨_,hm,hb⟩⟩
 | @nl b=>
  intro v' hc
  have hv:v'=_:=Ax.val hc
  subst hv
  cases b
  ·exact .nil
  ·exact .e (Nat.zero_le _)
 | fn =>
  intro v hc
  cases hc with
  | @fn f cap vs h1 _=>
   have:vs = #[]:=Array.eq_empty_of_size_eq_zero (by simpa using h1)
   subst this
   exact .v rfl
 | @arr id k off len T rows ds rs cs hl hle hn h1 h2 _ ih=>
  intro v hc
  cases hc with
  | nil h3 h4=>
   have:ds=[]:=List.length_eq_zero_iff.1 hn
   subst this
   exact .nil
  | arr h3 hnl h4=>
   rcases hi.st.obj id _ hl with ⟨h5,_⟩|⟨_,cur,h5,h6,h7,h8,h9,h10⟩
   ·exact absurd h5 hnl
   ·have hcell:∀(i:Nat) (r:List D) (j:Nat) (x:D),ds[i]? = some r→r[j]? = some x→∃v,cur[(off+i)*k+j]? = some v∧Ch (Ex V σ).I V.w x v:=fun i r j x hi' hj=>by
     obtain⟨v,h11,h12⟩:=h10 (off+i) (rs i) j (cs i j) (h1 i r hi').1 (h2 i j r x hi' hj)
     exact⟨v,h11,ih i j r x hi' hj h12⟩
    rw [←hn] at h4 ⊢
    refine .l (b:=V.ρ id) (o:=off*k) (k:=k) (vs:=fun i j=>cur.getD ((off+i)*k+j) undef) (.inr ⟨id,_,hl,hnl,rfl⟩) (by omega) (by omega) (fun i r hi'=>?_) (fun i r j x hi' hj=>?_) (fun i r j x hi' hj=>?_)
    ·have h13:=h1 i r hi'
     rw [←h13.2]
     exact h9 _ (List.mem_of_getElem? h13.1)
    ·obtain⟨v,h11,_⟩:=hcell i r j x hi' hj
     have e:off*k+i*k+j=(off+i)*k+j:=by rw [Nat.add_mul]
     rw [e]
     simp [World.cell?,h5,h11]
    ·obtain⟨v,h11,h12⟩:=hcell i r j x hi' hj
     have:cur.getD ((off+i)*k+j) undef=v:=by simp [h11]
     simp only [this]
     exact h12
 | @ptr id k i j T rows r ds cs hl hri h1 _ ih=>
  intro v hc
  cases hc with
  | ptr h3 hnl=>
   rcases hi.st.obj id _ hl with ⟨h5,_⟩|⟨_,cur,h5,h6,h7,h8,h9,h10⟩
   ·exact absurd h5 hnl
   ·have hcell:∀(q:Nat) (x:D),ds[q]? = some x→∃v,cur[i*k+j+q]? = some v∧Ch (Ex V σ).I V.w x v:=fun q x hq=>by
     obtain⟨v,h11,h12⟩:=h10 i r (j+q) (cs q) hri (h1 q x hq)
     exact⟨v,by rw [Nat.add_assoc];exact h11,ih q x hq h12⟩
    refine .p (b:=V.ρ id) (o:=i*k+j) (vs:=fun q=>cur.getD (i*k+j+q) undef) (.inr ⟨id,_,hl,hnl,rfl⟩) (fun q x hq=>?_) (fun q x hq=>?_)
    ·obtain⟨v,h11,_⟩:=hcell q x hq
     simp [World.cell?,h5,h11]
    ·obtain⟨v,h11,h12⟩:=hcell q x hq
     have:cur.getD (i*k+j+q) undef=v:=by simp [h11]
     simp only [this]
     exact h12
theorem EZ.rel{V:View}(hi:Inv TB Γ V σ){e e':E}(h:EZ σ e e'){v:Value}(hv:A2 V e v):A2 (Ex V σ) e' v:=by
 cases h with
 | AU=>exact hv.ext K8
 | o h=>exact Ax.d (V:=Ex V σ) (h.rel hi hv)
 | @a cs ds h=>
  obtain⟨vs,rfl,h1,h2⟩:=hv
  refine⟨vs,rfl,by rw [h1,h.get.1];simp,fun j c v hj hv=>?_⟩
  simp only [List.getElem?_map,Option.map_eq_some_iff] at hj
  obtain⟨x,hx,rfl⟩:=hj
  obtain⟨c,h3,h4⟩:=h.get.2 j x hx
  exact Ax.d (V:=Ex V σ) (h4.rel hi (h2 j c v h3 hv))
theorem Av.settle{c:Code}{Q:Exit→Env→Ab→Nat→Prop}{f:Env}{nx:Nat}(L:List (Nat×E))(hE:Pp σ f L)(h:Av P TB Γ N c Q (look L) [] nx):Av P TB Γ N c Q f σ nx:=by
 intro V a hr
 refine h (Ex V σ) a ⟨fun t x hx=>?_,fun t x hx=>?_,hr.size,?_,hr.nx,hr.defers⟩
 ·obtain⟨y,h1,h2⟩:=hE.get t x hx
  exact h2.rel hr.inv (hr.env t y h1)
 ·obtain⟨y,h1,_⟩:=hE.get t x hx
  exact hr.lt t y h1
 ·have hi:=hr.inv
  refine⟨hi.os,hi.tape,hi.output,hi.old,?_,?_,hi.ext.trans K8,Dh,fun id o ho=>(by cases ho),fun x hx=>⟨.inl (hi.tabs x hx).1,(hi.tabs x hx).2⟩,hi.hid.same rfl (fun _ h=>.inl h) (fun b hb=>hb.elim .inl fun ⟨id,o,hl,hn,he⟩=>.inr ⟨id,o,hl,hn,he⟩) fun b ⟨_,_,h,_⟩=>by cases h⟩
  ·rintro b (hb|⟨id,o,hl,hn,hb⟩)
   ·exact hi.iLt b hb
   ·exact(hi.st.obj id o hl).blt hn hb
  ·rintro b (hb|⟨id,o,hl,hn,hb⟩)
   ·exact hi.iNew b hb
   ·exact .inr (hi.live id o hl hn b hb)
theorem NR{ids:List Nat}{L0:List (Nat×E)}:∀ {ks:List Nat} {Lk:List (Nat×E)},LY L0 ks=some Lk→C8 σ ids (look L0) Lk
 | [],Lk,h=>by injection h with h;subst h;trivial
 | k :: ks,Lk,h=>by
  unfold LY at h
  split at h
  ·rename_i e l h1 h2
   injection h with h
   subst h
   exact⟨⟨e,h1,.AU⟩,NR h2⟩
  ·cases h
theorem C8.app{ids:List Nat}{f:Env}:∀ {L M:List (Nat×E)},C8 σ ids f L→C8 σ ids f M→C8 σ ids f (L++M)
 | [],_,_,h=>h
 | _::_,_,h,h'=>⟨h.1,C8.app h.2 h'⟩
theorem Av.Jb{c:Code}{Q:Exit→Env→Ab→Nat→Prop}{L0 Lk:List (Nat×E)}{nx:Nat}(ids ks:List Nat)(hk:LY L0 ks=some Lk)(L:List (Nat×E))(hE:C8 σ ids (look L0) L)(h:Av P TB Γ N c Q (look (L++Lk)) (BH ids σ) nx):Av P TB Γ N c Q (look L0) σ nx:=
 Av.freeze ids (L++Lk) (hE.app (NR hk)) h
section
variable {d:Option Tmp}{ty:TypeId}{pos:String}{af:Array Edge}{g:Option (Nat×Bool)}{f:Env}{nx:Nat}
theorem O4{t:TypeId}{x lo:Operand}{s:List UInt8}{m:Int}{k:IntKind}[ht:CW P t](hx:ev f x=some (eT s))(hl:ev f lo=some (eI k m))(h0:0≤m)(h1:m≤s.length):AV P TB Γ ⟨d,.slice t x (some lo) none none,ty,pos,af,g⟩ f σ nx (eT (s.drop m.toNat)):=by
 have h:=TK (P:=P) (TB:=TB) (Γ:=Γ) (d:=d) (ty:=ty) (pos:=pos) (af:=af) (g:=g) (σ:=σ) (nx:=nx) (t:=t) (x:=x) (lo:=some lo) (hi:=none) (l:=some (k,m)) (h:=none) hx (by simp [XN,hl]) rfl h0 h1 (Int.le_refl _)
 simpa [Ld,Lf] using h
theorem TL{t:TypeId}{x hi:Operand}{s:List UInt8}{m:Int}{k:IntKind}[ht:CW P t](hx:ev f x=some (eT s))(hl:ev f hi=some (eI k m))(h0:0≤m)(h1:m≤s.length):AV P TB Γ ⟨d,.slice t x none (some hi) none,ty,pos,af,g⟩ f σ nx (eT (s.take m.toNat)):=by
 have h:=TK (P:=P) (TB:=TB) (Γ:=Γ) (d:=d) (ty:=ty) (pos:=pos) (af:=af) (g:=g) (σ:=σ) (nx:=nx) (t:=t) (x:=x) (lo:=none) (hi:=some hi) (l:=none) (h:=some (k,m)) hx rfl (by simp [XN,hl]) (Int.le_refl _) h0 h1
 simpa [Ld,Lf] using h
theorem TE{t e:TypeId}{b n:Nat}{x lo:Operand}{rows:List (List D)}{m:Int}{k:IntKind}[hsl:B0 P t e n b](hx:ev f x=some (.o (.d (.l rows))))(hl:ev f lo=some (eI k m))(hn:∀r∈rows,r.length=n)(h0:0≤m)(h1:m≤rows.length):AV P TB Γ ⟨d,.slice t x (some lo) none none,ty,pos,af,g⟩ f σ nx (.o (.d (.l (rows.drop m.toNat)))):=by
 have h:=TJ (P:=P) (TB:=TB) (Γ:=Γ) (d:=d) (ty:=ty) (pos:=pos) (af:=af) (g:=g) (σ:=σ) (nx:=nx) (t:=t) (x:=x) (lo:=some lo) (hi:=none) (l:=some (k,m)) (h:=none) hx (by simp [XN,hl]) rfl hn h0 h1 (Int.le_refl _)
 simpa [Ld,Lf] using h
theorem Ju{t e:TypeId}{b n:Nat}{x hi:Operand}{rows:List (List D)}{m:Int}{k:IntKind}[hsl:B0 P t e n b](hx:ev f x=some (.o (.d (.l rows))))(hl:ev f hi=some (eI k m))(hn:∀r∈rows,r.length=n)(h0:0≤m)(h1:m≤rows.length):AV P TB Γ ⟨d,.slice t x none (some hi) none,ty,pos,af,g⟩ f σ nx (.o (.d (.l (rows.take m.toNat)))):=by
 have h:=TJ (P:=P) (TB:=TB) (Γ:=Γ) (d:=d) (ty:=ty) (pos:=pos) (af:=af) (g:=g) (σ:=σ) (nx:=nx) (t:=t) (x:=x) (lo:=none) (hi:=some hi) (l:=none) (h:=some (k,m)) hx rfl (by simp [XN,hl]) hn (Int.le_refl _) h0 h1
 simpa [Ld,Lf] using h
end
end
end Go.Am
namespace Go.Am
open Go Go.Proofs
instance:Vs Tryz.prog 130:=⟨by kernel_rfl⟩
end Go.Am
