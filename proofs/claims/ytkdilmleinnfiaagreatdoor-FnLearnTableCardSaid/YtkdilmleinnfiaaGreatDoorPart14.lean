/-
  The table that is closed.
-/
import Derived.Test.YtkdilmleinnfiaaGreatDoorPart13
import Derived.Test.YtkdilmleinnfiaaGreatDoorPart9
import Derived.Test.YtkdilmleinnfiaaGreatDoorPart12
set_option linter.constructorNameAsVariable false
set_option linter.unusedSectionVars false
set_option linter.unusedSimpArgs false
set_option linter.unusedVariables false
namespace Go.Am
open Go Go.Proofs
set_option maxHeartbeats 1000000
set_option maxRecDepth 4000
attribute [local irreducible] AY B2 Lex Br Ak Spec
variable {TB:Bw}
structure Ev (al:Int) (b:Nat) (t:AZ):Prop where
 onR:∀w∈t.rows,Ay (AR al) w∧w.length≤b
 onC:∀x∈t.cols,Ay (AR al) x∧x.length≤20000
 rl:t.rows.length≤12
 cl:t.cols.length≤20
def Fq(ok:W→Prop)(al:Int):Prop:=∀w,Ay (AR al) w→w.length≤50000→ok w
theorem Ev.ask{ok:W→Prop}{al:Int}{b:Nat}{t:AZ}(h:Ev al b t)(hf:Fq ok al)(hb:b≤20100):NY ok t∧∀w∈t.rows,∀l∈AR al,∀x∈t.cols,ok (w++[l]++x):=by
 refine⟨⟨fun w hw x hx=>hf _ ?_ ?_,fun w hw=>by have:=(h.onR w hw).2;omega,fun x hx=>by have:=(h.onC x hx).2;omega,by have:=h.rl;omega,by have:=h.cl;omega⟩,fun w hw l hl x hx=>hf _ ?_ ?_⟩
 ·intro c hc
  rcases List.mem_append.1 hc with hc|hc
  ·exact(h.onR w hw).1 c hc
  ·exact(h.onC x hx).1 c hc
 ·have:=(h.onR w hw).2;have:=(h.onC x hx).2;simp;omega
 ·intro c hc
  rcases List.mem_append.1 hc with hc|hc
  ·rcases List.mem_append.1 hc with hc|hc
   ·exact(h.onR w hw).1 c hc
   ·simp at hc;subst hc;exact hl
  ·exact(h.onC x hx).1 c hc
 ·have:=(h.onR w hw).2;have:=(h.onC x hx).2;simp;omega
def TU(ls:List UInt8)(t:AZ)(v:W):Prop:=∃r∈t.rows,∃m:W,(m=[]∨∃l∈ls,m=[l])∧∃x:W,(x=[]∨x∈t.cols)∧v=r++m++x
def HS(ok:W→Prop)(ls:List UInt8)(t:AZ):Prop:=∀v,TU ls t v→ok v
def Gc(L:W→Bool)(ls:List UInt8):Nat→AZ→List AZ
 | 0,t=>[t]
 | n+1,t=>t::match A0 L ls t with
  | none=>[]
  | some w=>if t.rows.length=12 then [] else Gc L ls n ⟨t.rows++[w],t.cols⟩
theorem PO{L:W→Bool}{ls:List UInt8}{n:Nat}{t:AZ}:t∈Gc L ls n t:=by cases n<;>simp [Gc]
theorem Ev.XU{ok:W→Prop}{al:Int}{b:Nat}{t:AZ}(h:Ev al b t)(hf:HS ok (AR al) t)(hb:b≤20100):NY ok t∧∀w∈t.rows,∀l∈AR al,∀x∈t.cols,ok (w++[l]++x):=
  ⟨⟨fun w hw x hx=>hf _ ⟨w,hw,[],.inl rfl,x,.inr hx,by simp⟩,fun w hw=>by have:=(h.onR w hw).2;omega,fun x hx=>by have:=(h.onC x hx).2;omega,by have:=h.rl;omega,by have:=h.cl;omega⟩,
   fun w hw l hl x hx=>hf _ ⟨w,hw,[l],.inr ⟨l,hl,rfl⟩,x,.inr hx,rfl⟩⟩
theorem Ev.on{ok:W→Prop}{al:Int}{b:Nat}{t:AZ}(h:Ev al b t)(hf:Fq ok al)(hb:b≤20100):HS ok (AR al) t:=by
 rintro v ⟨r,hr,m,hm,x,hx,rfl⟩
 have h1:=h.onR r hr
 have h2:Ay (AR al) m∧m.length≤1:=by
  rcases hm with rfl|⟨l,hl,rfl⟩
  ·exact⟨fun c hc=>by simp at hc,by simp⟩
  ·exact⟨fun c hc=>by simp at hc;subst hc;exact hl,by simp⟩
 have h3:Ay (AR al) x∧x.length≤20000:=by
  rcases hx with rfl|hx
  ·exact⟨fun c hc=>by simp at hc,by simp⟩
  ·exact h.onC x hx
 refine hf _ (fun c hc=>?_) (by simp;omega)
 simp only [List.mem_append] at hc
 rcases hc with (hc|hc)|hc
 ·exact h1.1 c hc
 ·exact h2.1 c hc
 ·exact h3.1 c hc
theorem Ev.push{L:W→Bool}{al:Int}{b:Nat}{t:AZ}{w:W}(h:Ev al b t)(ho:A0 L (AR al) t=some w)(hl:t.rows.length < 12):Ev al (b+1) ⟨t.rows++[w],t.cols⟩:=by
 obtain⟨⟨r,hr,l,hl2,rfl⟩,_⟩:=HK ho
 refine⟨fun u hu=>?_,h.onC,by simp;omega,h.cl⟩
 rcases List.mem_append.1 hu with hu|hu
 ·have:=h.onR u hu;exact⟨this.1,by omega⟩
 ·simp at hu
  subst hu
  have:=h.onR r hr
  refine⟨fun c hc=>?_,by simp;omega⟩
  rcases List.mem_append.1 hc with hc|hc
  ·exact this.1 c hc
  ·simp at hc;subst hc;exact hl2
theorem Ev.grow{L:W→Bool}{al:Int}:∀ {n b:Nat} {t y:AZ},Ev al b t→y∈Gc L (AR al) n t→Ev al (b+n) y
 | 0,b,t,y,h,hy=>by simp [Gc] at hy;subst hy;exact h
 | n + 1, b,t,y,h,hy=>by
  have hm:∀ {b':Nat} {z:AZ},b'≤b+(n+1)→Ev al b' z→Ev al (b+(n+1)) z:=fun hb hz=>⟨fun w hw=>⟨(hz.onR w hw).1,Nat.le_trans (hz.onR w hw).2 hb⟩,hz.onC,hz.rl,hz.cl⟩
  unfold Gc at hy
  rcases List.mem_cons.1 hy with rfl|hy
  ·exact hm (by omega) h
  ·cases ho:A0 L (AR al) t with
   | none=>rw [ho] at hy;simp at hy
   | some w=>
    rw [ho] at hy
    dsimp only at hy
    split at hy
    ·simp at hy
    ·have:=h.rl
     exact hm (by omega) (Ev.grow (h.push ho (by omega)) hy)
theorem Ev.cP{L:W→Bool}{ok:W→Prop}{al:Int}{b:Nat}{t:AZ}(h:Ev al b t)(hf:Fq ok al)(hb:b≤20000):∀y∈Gc L (AR al) 13 t,HS ok (AR al) y:=fun y hy=>(h.grow hy).on hf (by omega)
theorem Gu{c:C}{L:W→Bool}{ok:W→Prop}(hc:Gf Tryz.prog TB c L ok)(al:Int)(t:AZ)(hf:∀y∈Gc L (AR al) 13 t,HS ok (AR al) y)(ht:Ev al 20000 t) :
 Pure Tryz.prog TB 91 [EP al c,CB t] (Gb (A8 L (AR al) 13 t)):=by
 have hr:=CX c hc.BK
 have hrl:=ht.rl
 have hcl:=ht.cl
 have hc1:=Ie (TB:=TB) t.rows (by omega)
 have hc2:=Ie (TB:=TB) t.cols (by omega)
 refine Bl.E2 (Bl.ofM 2 (Nat.le_refl _) Tryz.func91 rfl rfl (by kernel_rfl) (Nat.le_of_ble_eq_true rfl) ?_);intro Γ hΓ
 (repeat first|refine aU rfl ?_)
 (refine pW rfl ?_ rfl (by rfl);refine CG rfl rfl ?_)
 (refine Ag rfl ?_;refine Cq (fun _ _=>Cw rfl rfl rfl) rfl ?_)
 (repeat first|refine tM rfl ?_ |refine aU rfl ?_ |refine Aa ?_)
 refine R.Xh [(7,3),(0,2),(1,2),(3,2),(4,2),(2,1),(5,1),(6,0),(8,5)] mixed (by kernel_rfl) rfl (by kernel_rfl) ?_
 (repeat ((refine R.Ag rfl ?_;first|(refine R.yQ (md:=false) rfl rfl rfl ?_ ?_;exact tI) |refine R.yP rfl rfl rfl rfl ?_ )))
 (refine R.Ag rfl ?_;refine R.Mf (fun _=>?_) rfl rfl;refine AD [] rfl rfl hc1 ⟨rfl,by simp,by simp⟩ rfl trivial ?_;rintro x0 σ1 nx1 ⟨rfl,rfl,rfl⟩ _)
 (refine R.Ag rfl ?_;refine R.Mf (fun _=>?_) rfl rfl;refine AD [] rfl rfl hc2 ⟨rfl,by simp,by simp⟩ rfl trivial ?_;rintro x0 σ1 nx1 ⟨rfl,rfl,rfl⟩ _)
 (repeat ((refine R.Ag rfl ?_;first|refine R.yA rfl rfl rfl rfl ?_|refine R.Cq (fun _ _ _=>AK rfl rfl (by rfl) (by rfl)) rfl rfl ?_ )))
 refine R.WN ?_
 refine aB ?_
 have hz:∀x:AZ,A0 L (AR al) x=none∨∃w,A0 L (AR al) x=some w:=fun x=>by cases A0 L (AR al) x<;>simp
 refine Ak.A4 (α:={p:Nat×AZ // p.1≤13∧13≤p.1+p.2.rows.length∧Ev al (20000+p.2.rows.length) p.2∧A8 L (AR al) 13 t=A8 L (AR al) p.1 p.2∧∀y∈Gc L (AR al) p.1 p.2,HS ok (AR al) y}) (fun ⟨⟨m,u⟩,hm,hmu,hu,he,hgr⟩=>[(2,.o (.ptr 0 2 0 0)),(4,.o (.ptr 1 2 0 0)),(6,.o (.ptr 4 2 0 0))]) (fun ⟨⟨m,u⟩,hm,hmu,hu,he,hgr⟩=>[(0,.cells 100 2 [[.d (iD al),c]]),(1,.cells 38 2 [[.d (.l []),.d (.l [])]]),(2,.cells 9 1 (u.rows.map CU)),(3,.cells 9 1 (u.cols.map CU)),(4,.cells 38 2 [[.arr 2 1 0 u.rows.length,.arr 3 1 0 u.cols.length]])]) 5 (fun ⟨⟨m,u⟩,hm,hmu,hu,he,hgr⟩=>m) (⟨(13,t),by simp,by simp,⟨fun w hw=>⟨(ht.onR w hw).1,by have:=(ht.onR w hw).2;omega⟩,ht.onC,ht.rl,ht.cl⟩,rfl,hf⟩) [0,1,2,3,4] (Eb hΓ rfl rfl) (by (simp[cX,zC,hΓ,hr,eC,Ab.AX,BV,Gi,BZ,Ai])) ?_;rintro⟨⟨m,u⟩,hm,hmu,hu,he,hgr⟩;(try dsimp only)
 dsimp only at hm hmu hu he hgr
 have htk:∀l:List W,((l.map CU).drop 0).take l.length=(l.map BC).map (fun r=>r.map C.d):=fun l=>by rw [List.drop_zero,List.take_of_length_le (by simp)];simp [Function.comp_def]
 have hur:=hu.rl
 have huc:=hu.cl
 have hask:=hu.XU (hgr u PO) (by omega)
 have hfo:=Ik (TB:=TB) hc al u hask.1 hask.2
 have hev:XM [(0,.cells 100 2 [[.d (iD al),c]]),(1,.cells 38 2 [[.d (.l []),.d (.l [])]]),(2,.cells 9 1 (u.rows.map CU)),(3,.cells 9 1 (u.cols.map CU)),(4,.cells 38 2 [[.arr 2 1 0 u.rows.length,.arr 3 1 0 u.cols.length]])] [.a [.d (iD al),c],.a [.arr 2 1 0 u.rows.length,.arr 3 1 0 u.cols.length]] [EP al c,CB u]:=
  .cons (.cons (.pure rfl) (.cons (.pure hc.BK) .nil)) (.cons (.cons (.arr rfl (by simp) (htk _)) (.cons (.arr rfl (by simp) (htk _)) .nil)) .nil)
 refine aB ?_
 rcases hz u with ho|⟨w,ho⟩
 ·rw [ho] at hfo
  (repeat first|refine tM rfl ?_ |refine s2 rfl fun _ _hb=>?_|(refine Ag rfl ?_;refine gA rfl ?_;first| refine gQ (FP rfl rfl (hev) (hfo) rfl) rfl ?_) |refine aU rfl ?_ |refine Aa ?_)
  (refine aC rfl ?_ ?_<;>rintro⟨⟩)
  ·(repeat first|refine tM rfl ?_ |refine aU rfl ?_ |refine Aa ?_)
   have hn:A8 L (AR al) 13 t=some u:=by
    rw [he]
    obtain⟨m',rfl⟩:∃m',m=m'+1:=⟨m - 1,by omega⟩
    simp [A8,ho]
   refine Ak.names [1,2,3] [(4,.o (.ptr 0 2 0 0)),(5,eB true)] [(0,.cells 38 2 [[.arr 1 1 0 u.rows.length,.arr 2 1 0 u.cols.length]]),(1,.cells 9 1 (u.rows.map CU)),(2,.cells 9 1 (u.cols.map CU))] (by intro i hi;rw [hΓ] at hi;omega) (by simp) (by simp[cX,zC,hΓ,Gi]) (by simp[cX,zC,hΓ,Gi,Ab.AX,BV,BZ,eC,Ai]) ?_
   refine Ak.Kg [1,2] [(4,.o (.ptr 0 2 0 0)),(5,eB true)] [(0,.cells 38 2 [[.d (A5 u.rows),.d (A5 u.cols)]])] ⟨⟨_,rfl,.Bb⟩,⟨_,rfl,.Bb⟩,trivial⟩ ⟨⟨_,rfl,by simp,.cons (.full (by simp) rfl (by simp [Function.comp_def]) (by simp)) (.cons (.full (by simp) rfl (by simp [Function.comp_def]) (by simp)) .nil)⟩,trivial⟩ ?_
   refine Ak.freeze [0] [(4,.o (.ip [A5 u.rows,A5 u.cols])),(5,eB true)] ⟨⟨_,rfl,.o (.ptr (by simp) rfl rfl rfl)⟩,⟨_,rfl,.Bb⟩,trivial⟩ ?_
   refine aR ⟨_,rfl,?_⟩
   rw [hn];rfl
  ·simp at _hb
 ·rw [ho] at hfo
  (repeat first|refine tM rfl ?_ |refine s2 rfl fun _ _hb=>?_|(refine Ag rfl ?_;refine gA rfl ?_;first| refine gQ (FP rfl rfl (hev) (hfo) rfl) rfl ?_) |refine aU rfl ?_ |refine Aa ?_)
  (refine aC rfl ?_ ?_<;>rintro⟨⟩)
  ·simp at _hb
  ·refine aK ?_
   (repeat first|refine tM rfl ?_ |refine s2 rfl fun _ _hb=>?_ |refine aU rfl ?_ |refine Aa ?_)
   (refine aC rfl ?_ ?_<;>rintro⟨⟩)
   ·(repeat first|refine tM rfl ?_|(refine Ag rfl ?_;refine gA rfl ?_;first| refine gS (fun _ _=>AK rfl rfl (by rfl) (by rfl)) ?_) |refine aU rfl ?_ |refine Aa ?_)
    have hn:A8 L (AR al) 13 t=none:=by
     have h12:u.rows.length=12:=by (simp only[oZ] at *;omega)
     rw [he]
     obtain⟨m',rfl⟩:∃m',m=m'+1:=⟨m - 1,by omega⟩
     simp [A8,ho,h12]
    refine Ak.freeze [1] [(4,.o (.ip [.l [],.l []])),(5,eB false)] ⟨⟨_,rfl,.o (.ptr (by simp) rfl rfl rfl)⟩,⟨_,rfl,.Bb⟩,trivial⟩ ?_
    refine aR ⟨_,rfl,?_⟩
    rw [hn];rfl
   ·refine aK ?_
    have hlt:u.rows.length < 12:=by (simp only[oZ] at *;omega)
    obtain⟨m',rfl⟩:∃m',m=m'+1:=⟨m - 1,by omega⟩
    have hn:A8 L (AR al) 13 t=A8 L (AR al) m' ⟨u.rows++[w],u.cols⟩:=by
     rw [he]
     conv=>lhs;unfold A8
     rw [ho]
     dsimp only
     rw [if_neg (by omega)]
    have hp:=hu.push ho hlt
    (repeat first|refine tA rfl ?_ |refine aU rfl ?_)
    (refine pW rfl ?_ rfl (by rfl);refine Aw rfl rfl rfl (by first| (simp;done)|(simp;(omega))) rfl (by intro r hr;simp at hr;subst hr;rfl) (by rfl) (Nat.le_of_ble_eq_true rfl) (by simp;omega) ?_)
    (repeat first|refine tM rfl ?_ |refine Aa ?_)
    refine⟨⟨⟨m',⟨u.rows++[w],u.cols⟩⟩,by dsimp only;omega,by simp;omega,by simpa [Nat.add_assoc] using hp,hn,fun y hy=>hgr y (by unfold Gc;rw [ho];dsimp only;rw [if_neg (by omega)];exact List.mem_cons_of_mem _ hy)⟩,by dsimp only;(omega),[0,1,5,3,4],?_⟩
    simp[cX,zC,hΓ,hr,eC,Ab.AX,BV,Gi,BZ,Ai]
def Bt:AZ:=⟨[[]],[[]]⟩
theorem Jx(al:Int):Ev al 20000 Bt:=by
 refine⟨fun w hw=>?_,fun w hw=>?_,by decide,by decide⟩<;>(simp [Bt] at hw;subst hw;exact⟨fun c hc=>by simp at hc,by simp⟩)
theorem Nx{c:C}{L:W→Bool}{ok:W→Prop}(hc:Gf Tryz.prog TB c L ok)(al:Int)(hf:∀y∈Gc L (AR al) 13 Bt,HS ok (AR al) y) :
 Pure Tryz.prog TB 170 [EP al c] (Gb (A8 L (AR al) 13 Bt)):=by
 have hr:=CX c hc.BK
 have h:=Gu hc al Bt hf (Jx al)
 refine Bl.E2 (Bl.ofM 2 (Nat.le_refl _) Tryz.func170 rfl rfl (by kernel_rfl) (Nat.le_of_ble_eq_true rfl) ?_);intro Γ hΓ
 generalize A8 L (AR al) 13 Bt=o at h ⊢
 (repeat first|refine aU rfl ?_)
 (refine pW rfl ?_ rfl (by rfl);refine CG rfl rfl ?_)
 (repeat first|refine tM rfl ?_ |refine aU rfl ?_ |refine Aa ?_)
 have hpu:([EP al c,CB Bt].all E.BK && C.Cr [])=true:=by simp [EP,CB,E.BK,C.Cr,C.BK,hc.BK]
 cases o with
 | none=>
  (repeat first|refine tA rfl ?_|(refine Ag rfl ?_;refine gA rfl ?_;first| refine gS (fun _ _=>BE rfl rfl hpu h rfl) ?_|refine gS (fun _ _=>AK rfl rfl (by rfl) (by rfl)) ?_) |refine Aa ?_)
  refine Ak.freeze [1] [(2,.o (.ip [.l [],.l []])),(3,eB false)] ⟨⟨_,rfl,.o (.ptr (by simp) rfl rfl rfl)⟩,⟨_,rfl,.Bb⟩,trivial⟩ ?_
  refine aR ⟨_,rfl,?_⟩
  rfl
 | some u=>
  (repeat first|refine tA rfl ?_|(refine Ag rfl ?_;refine gA rfl ?_;first| refine gS (fun _ _=>BE rfl rfl hpu h rfl) ?_|refine gS (fun _ _=>AK rfl rfl (by rfl) (by rfl)) ?_) |refine Aa ?_)
  refine Ak.freeze [1] [(2,.o (.ip [A5 u.rows,A5 u.cols])),(3,eB true)] ⟨⟨_,rfl,.o (.ptr (by simp) rfl rfl rfl)⟩,⟨_,rfl,.Bb⟩,trivial⟩ ?_
  refine aR ⟨_,rfl,?_⟩
  rfl
theorem OR{c:C}{L:W→Bool}{ok:W→Prop}(hc:Gf Tryz.prog TB c L ok)(al:Int)(hf:Fq ok al) :
 Pure Tryz.prog TB 170 [EP al c] (Gb (A8 L (AR al) 13 Bt)):=Nx hc al ((Jx al).cP hf (by omega))
def AO(L:W→Bool)(al:Int)(t:AZ):AP:=⟨al,t.rows.map fun r=>(Ac al).map fun l=>((Cv L t (r++[lb l]):Nat):Int),t.rows.map L⟩
theorem UG{L:W→Bool}{al:Int}{t:AZ}(ho:A0 L (AR al) t=none){r:W}(hr:r∈t.rows){l:Int}(hl:l∈Ac al) :
 (BD (Ba L t t.rows.length) (marks L t.cols (r++[lb l]))).getD 0=((Cv L t (r++[lb l]):Nat):Int):=by
 have hm:marks L t.cols (r++[lb l])∈AE L t:=by
  have:=List.find?_eq_none.1 ho (r++[lb l]) (by
   unfold BO
   exact List.mem_flatMap.2 ⟨r,hr,List.mem_map.2 ⟨lb l,List.mem_map.2 ⟨l,hl,rfl⟩,rfl⟩⟩)
  simpa using this
 rw [OY,if_pos hm]
 rfl
end Go.Am
namespace Go.Am
set_option linter.unusedVariables false
theorem Kl{al:Int}{l:Int}(h:l∈Ac al):lb l∈AR al:=List.mem_map.2 ⟨l,h,rfl⟩
theorem Kd{L:W→Bool}{al:Int}{t:AZ}(hal:BI al=true)(h:A7 L (AR al) t)(hr:t.rows.length≤12):AF (AO L al t)=true:=by
 have h0:0 < t.rows.length:=(List.getElem?_eq_some_iff.1 h.r0).1
 unfold AF
 simp only [Bool.and_eq_true,decide_eq_true_eq,List.all_eq_true]
 refine⟨⟨⟨hal,by simp [AO];omega⟩,by simp [AO]⟩,fun row hrow=>?_⟩
 simp only [AO,List.mem_map] at hrow
 obtain⟨r,hr,rfl⟩:=hrow
 unfold DN
 simp only [Bool.and_eq_true,decide_eq_true_eq,List.all_eq_true]
 refine⟨by simp [AO],fun y hy=>?_⟩
 obtain⟨l,hl,rfl⟩:=List.mem_map.1 hy
 obtain⟨i,hi,he⟩:=List.getElem_of_mem hr
 obtain⟨r',h2,_⟩:=h.idx (i:=i) (r:=r) (by rw [List.getElem?_eq_getElem hi,he]) (Kl hl)
 have h3:=(List.getElem?_eq_some_iff.1 h2).1
 unfold NO
 simp [AO]
 exact h3
theorem Im{L:W→Bool}{al:Int}{t:AZ}{q:Nat}{c:UInt8}(hq:q < t.rows.length)(hc:c∈AR al):Bo (AO L al t) q ((c.toNat:Int) - 97)=((Cv L t (t.rows.getD q []++[c]):Nat):Int):=by
 obtain⟨l,hl,rfl⟩:=List.mem_map.1 hc
 have h1:=Av hl
 rw [ET h1.1 (by omega)]
 obtain⟨k,hk,he⟩:=List.getElem_of_mem hl
 have h2:(Az al 6)[k]? = some l:=by rw [List.getElem?_eq_getElem hk,he]
 have h3:=Dy h2
 unfold Bo
 have h4:EM (AO L al t).al l.toNat=true:=h1.2.2
 rw [if_pos h4]
 have h5:(Az (AO L al t).al l.toNat).length=k:=h3
 rw [h5]
 have h6:(AO L al t).nx.getD q []=(Ac al).map fun l=>((Cv L t (t.rows.getD q []++[lb l]):Nat):Int):=by
  simp [AO,List.getD,hq]
 rw [h6]
 simp [List.getD,h2]
theorem MP{L:W→Bool}{al:Int}{t:AZ}(h:A7 L (AR al) t):∀(w:W) (q:Nat),Ay (AR al) w→q < t.rows.length→AU (AO L al t) q w=((runM L t q w:Nat):Int)
 | [],q,_,_=>rfl
 | c::w,q,hw,hq=>by
  have h1:t.rows[q]? = some t.rows[q]:=List.getElem?_eq_getElem hq
  have hc:=hw c (by simp)
  obtain⟨_,h2,_⟩:=h.idx h1 hc
  have h3:t.rows.getD q []=t.rows[q]:=by simp [h1]
  have h4:=(List.getElem?_eq_some_iff.1 h2).1
  show AU (AO L al t) (Bo (AO L al t) ((q:Int)).toNat ((c.toNat:Int) - 97)) w=_
  rw [Int.toNat_natCast,Im hq hc]
  rw [←h3] at h4
  exact MP h w _ (fun x hx=>hw x (by simp [hx])) h4
theorem HW{L:W→Bool}{al:Int}{t:AZ}(h:A7 L (AR al) t){w:W}(hw:Ay (AR al) w):LA (AO L al t) w=Ht L t w:=by
 have h0:0 < t.rows.length:=(List.getElem?_eq_some_iff.1 h.r0).1
 have h1:=h.run w 0 hw h0
 unfold LA Ht
 have h2:=MP h w 0 hw h0
 rw [show ((0:Nat):Int)=0 from rfl] at h2
 rw [h2,Int.toNat_natCast]
 simp [AO,List.getD,h1]
end Go.Am
namespace Go.Am
open Go
set_option linter.unusedVariables false
def JH(a b:AP)(s0:Int)(op:Bool→Bool→Bool):Gr:=
 ⟨a.nx.length*b.nx.length,fun x l=>[Bo a (x / b.nx.length).toNat l*b.nx.length+Bo b (x % b.nx.length).toNat l],fun x=>op (a.ac.getD (x / b.nx.length).toNat false) (b.ac.getD (x % b.nx.length).toNat false),Ac a.al,s0⟩
def C6(a b:AP)(kd:Int):Net:=⟨[],[a,b],[0,0],a.al,kd,0⟩
theorem GC{a b:AP}(hb:AF b=true){x:Int}(hx:0≤x∧x < (JH a b 0 bne).N):0≤x / b.nx.length∧x / b.nx.length < a.nx.length∧0≤x % b.nx.length∧x % b.nx.length < b.nx.length:=by
 have h1:=Al hb
 have h2:x < ((a.nx.length*b.nx.length:Nat):Int):=hx.2
 rw [Int.natCast_mul] at h2
 exact⟨Int.ediv_nonneg hx.1 (by omega),Int.ediv_lt_of_lt_mul (by omega) h2,Int.emod_nonneg _ (by omega),Int.emod_lt_of_pos _ (by omega)⟩
theorem Un{a b:AP}(ha:AF a=true)(hb:AF b=true){s0:Int}{op:Bool→Bool→Bool}(hs:0≤s0∧s0 < a.nx.length*b.nx.length):Gj (JH a b s0 op):=by
 refine⟨⟨hs.1,by show s0 < ((a.nx.length*b.nx.length:Nat):Int);rw [Int.natCast_mul];exact hs.2⟩,fun x hx l hl y hy=>?_,C9 _ _⟩
 have hl:=Av (show l∈Az a.al 6 from hl)
 have h1:=GC hb hx
 have h2:=GF ha (q:=(x / b.nx.length).toNat) (by omega) hl.1 (by omega)
 have h3:=GF hb (q:=(x % b.nx.length).toNat) (by omega) hl.1 (by omega)
 have hy:y=Bo a (x / b.nx.length).toNat l*b.nx.length+Bo b (x % b.nx.length).toNat l:=by simpa [JH] using hy
 subst hy
 generalize Bo a (x / b.nx.length).toNat l=u at *
 generalize Bo b (x % b.nx.length).toNat l=v at *
 show 0≤u*(b.nx.length:Int)+v∧u*(b.nx.length:Int)+v < ((a.nx.length*b.nx.length:Nat):Int)
 rw [Int.natCast_mul]
 have h4:0≤u*(b.nx.length:Int):=Int.mul_nonneg h2.1 (by omega)
 have h5:(u+1)*(b.nx.length:Int)≤a.nx.length*b.nx.length:=Int.mul_le_mul_of_nonneg_right (by omega) (by omega)
 rw [Int.add_mul] at h5
 omega
theorem RA{a b:AP}{kd:Int}(ha:AF a=true)(hb:AF b=true):Dl (C6 a b kd)∧XO (C6 a b kd)∧Fits (Ae (C6 a b kd)) (C6 a b kd).st:=by
 have h1:=Al ha
 have h2:=Al hb
 refine⟨⟨fun s hs=>(by cases hs),fun x hx=>?_,by simp [C6],by simp [C6]⟩,⟨fun _=>by simp [C6],fun _=>by simp [C6]⟩,?_⟩
 ·simp [C6] at hx;rcases hx with rfl|rfl<;>assumption
 ·refine Mx (zs:=Ae (C6 a b kd)) fun z hz=>?_
  simp [Ae,C6] at hz
  rcases hz with rfl|rfl<;>omega
theorem K2{a b:AP}{kd:Int}{op:Bool→Bool→Bool}(ha:AF a=true)(hb:AF b=true)(ho:∀x y,op x y=if kd=1 then x != y else (x && !y))(hk:kd=1∨kd=2):Gn (JH a b 0 op)=Gn (E3 (C6 a b kd)):=by
 obtain⟨hn,_,hst⟩:=RA (kd:=kd) ha hb
 have han:=Al ha
 have hbn:=Al hb
 have hg:=Um hn hst
 refine TP (BL.congr hg ?_ ?_ (fun x hx l hl=>?_) (fun x hx=>?_) (E5 _))
 ·rfl
 ·exact Mw (Ae (C6 a b kd)) 2
 ·have hl:=Av (show l∈Az a.al 6 from hl)
  show En (C6 a b kd) (Ae (C6 a b kd)) (BB (Ae (C6 a b kd)) x) l=_
  have e:=NA (l:=[]) (aus:=[a,b]) (st:=[0,0]) (ls:=a.al) (kd:=kd) (gl:=0) hn (node:=x) hl.1 (by omega)
  refine Eq.trans e ?_
  have hxN:x / b.nx.length % a.nx.length=x / b.nx.length:=by
   have h2:(E3 (C6 a b kd)).N=a.nx.length*b.nx.length:=by
    show (AJ (Ae (C6 a b kd))).toNat=_
    simp only [Ae,C6,List.map_nil,List.nil_append,List.map_cons,AJ,Int.mul_one]
    rw [←Int.natCast_mul,Int.toNat_natCast]
   rw [h2] at hx
   have:=GC (a:=a) hb (x:=x) hx
   exact Int.emod_eq_of_lt this.1 this.2.1
  simp only [List.map_cons,List.map_nil,AJ,Int.mul_one,BB,Zm,List.zipWith_nil_left,List.zipWith_cons_cons,Jj,List.flatMap_cons,List.flatMap_nil,List.append_nil,Int.ediv_one,Int.add_zero,Int.zero_mul,Int.zero_add,hxN,JH]
 ·show B0 (C6 a b kd) (BB (Ae (C6 a b kd)) x) (DG (C6 a b kd) x.toNat)=_
  have hxN:x / b.nx.length % a.nx.length=x / b.nx.length:=by
   have h2:(E3 (C6 a b kd)).N=a.nx.length*b.nx.length:=by
    show (AJ (Ae (C6 a b kd))).toNat=_
    simp only [Ae,C6,List.map_nil,List.nil_append,List.map_cons,AJ,Int.mul_one]
    rw [←Int.natCast_mul,Int.toNat_natCast]
   rw [h2] at hx
   have:=GC (a:=a) hb (x:=x) hx
   exact Int.emod_eq_of_lt this.1 this.2.1
  show _=op (a.ac.getD (x / b.nx.length).toNat false) (b.ac.getD (x % b.nx.length).toNat false)
  rw [ho]
  unfold B0 Wo
  rcases hk with rfl|rfl
  ·simp [C6,Ae,BB,AJ,List.getD,hxN]
  ·simp [C6,Ae,BB,AJ,List.getD,hxN]
def CM(a b:AP):Bool:=AF a && AF b && decide (a.al=b.al)
noncomputable def Fw(a b:AP):Option (List Int):=if CM a b then Gn (E3 (C6 a b 1)) else none
theorem Ha{g:Gr}:∀ {u v:List Int} {a x:Int},reach g (u++v) a x↔∃y,reach g u a y∧reach g v y x
 | [],v,a,x=>⟨fun h=>⟨a,rfl,h⟩,fun ⟨y,h1,h2⟩=>by cases h1;exact h2⟩
 | l :: u,v,a,x=>by
  simp only [List.cons_append,reach]
  constructor
  ·rintro⟨y,hy,h⟩
   obtain⟨z,h1,h2⟩:=Ha.1 h
   exact⟨z,⟨y,hy,h1⟩,h2⟩
  ·rintro⟨z,⟨y,hy,h1⟩,h2⟩
   exact⟨y,hy,Ha.2 ⟨z,h1,h2⟩⟩
theorem YN(n:Nat)(f:Nat→Int)(h:∀i,i≤n→0≤f i∧f i < n):∃i j,i < j∧j≤n∧f i=f j:=by
 apply Classical.byContradiction
 intro hno
 have h1:((List.range (n+1)).map fun i=>(f i).toNat).Nodup:=by
  unfold List.Nodup
  rw [List.pairwise_map]
  refine List.pairwise_lt_range.imp_of_mem fun {a b} ha hb hab he=>hno ⟨a,b,hab,?_,?_⟩
  ·have:=List.mem_range.1 hb;omega
  ·have h2:=h a (by have:=List.mem_range.1 ha;omega)
   have h3:=h b (by have:=List.mem_range.1 hb;omega)
   omega
 have h2:=GL n _ h1 fun x hx=>by
  obtain⟨i,hi,rfl⟩:=List.mem_map.1 hx
  have:=h i (by have:=List.mem_range.1 hi;omega)
  omega
 simp at h2
 omega
theorem BL.short{g:Gr}(hg:Gj g){w:List Int}(h:BL g (some w)):w.length < g.N:=by
 obtain⟨h1,⟨x,hx,hgx⟩,h3⟩:=h
 apply Classical.byContradiction
 intro hlen
 have hsp:∀k,∃y,reach g (w.take k) g.s0 y∧reach g (w.drop k) y x:=fun k=>Ha.1 (by rw [List.take_append_drop];exact hx)
 obtain⟨f,hf⟩:=Classical.axiomOfChoice hsp
 obtain⟨i,j,hij,hj,he⟩:=YN g.N f fun i _=>Cx hg (fun l hl=>h1 l (List.mem_of_mem_take hl)) hg.s0 (hf i).1
 refine h3 (w.take i++w.drop j) (fun l hl=>?_) ⟨x,Ha.2 ⟨f i,(hf i).1,he ▸ (hf j).2⟩,hgx⟩ (.inl ?_)
 ·rcases List.mem_append.1 hl with hl|hl
  ·exact h1 l (List.mem_of_mem_take hl)
  ·exact h1 l (List.mem_of_mem_drop hl)
 ·simp;omega
theorem QF{al:Int}:∀ {w:List Int},(∀l∈w,l∈Ac al)→Ay (AR al) (CK w):=fun {w} h c hc=>by
 obtain⟨l,hl,rfl⟩:=List.mem_map.1 hc
 exact Kl (h l hl)
theorem YM{al:Int}{w:W}(h:Ay (AR al) w):∃v:List Int,(∀l∈v,l∈Ac al)∧CK v=w:=by
 induction w with
 | nil=>exact⟨[],by simp,rfl⟩
 | cons c w ih=>
  obtain⟨v,hv,he⟩:=ih fun x hx=>h x (by simp [hx])
  obtain⟨l,hl,rfl⟩:=List.mem_map.1 (h c (by simp))
  exact⟨l::v,fun m hm=>by
   rcases List.mem_cons.1 hm with rfl|hm
   ·exact hl
   ·exact hv m hm,by rw [←he];rfl⟩
theorem Lg{a b:AP}(ha:AF a=true)(hb:AF b=true){op:Bool→Bool→Bool}{s0:Int}:∀ {w:List Int} {i j x:Int},(∀l∈w,l∈Ac a.al)→(0≤i∧i < a.nx.length)→(0≤j∧j < b.nx.length)→
 (reach (JH a b s0 op) w (i*b.nx.length+j) x↔x=AU a i (CK w)*b.nx.length+AU b j (CK w))
 | [],i,j,x,_,_,_=>⟨fun h=>h.symm,fun h=>h.symm⟩
 | l :: w,i,j,x,hw,hi,hj=>by
  have hl:=Av (hw l (by simp))
  have h1:(i*b.nx.length+j) / b.nx.length=i:=by
   rw [Int.add_comm,Int.add_mul_ediv_right _ _ (by omega),Int.ediv_eq_zero_of_lt hj.1 hj.2,Int.zero_add]
  have h2:(i*b.nx.length+j) % b.nx.length=j:=by
   rw [Int.add_comm,Int.add_mul_emod_self_right,Int.emod_eq_of_lt hj.1 hj.2]
  have h3:=GF ha (q:=i.toNat) (by omega) hl.1 (by omega)
  have h4:=GF hb (q:=j.toNat) (by omega) hl.1 (by omega)
  have ih:=Lg ha hb (op:=op) (s0:=s0) (w:=w) (x:=x) (fun m hm=>hw m (by simp [hm])) h3 h4
  have e:∀(c:AP) (q:Int),AU c q (CK (l::w))=AU c (Bo c q.toNat l) (CK w):=fun c q=>by
   show AU c (Bo c q.toNat (((lb l).toNat:Int) - 97)) (CK w)=_
   rw [ET hl.1 (by omega)]
  rw [e,e,←ih]
  simp only [reach,JH,h1,h2,List.mem_singleton,exists_eq_left]
theorem Mt{a b:AP}{w:List Int}(h:Fw a b=some w):CM a b=true∧Ay (AR a.al) (CK w)∧LA a (CK w)≠LA b (CK w)∧(CK w).length≤144:=by
 unfold Fw at h
 by_cases hv:CM a b=true
 ·rw [if_pos hv] at h
  refine⟨hv,?_⟩
  unfold CM at hv
  simp only [Bool.and_eq_true,decide_eq_true_eq] at hv
  obtain⟨⟨ha,hb⟩,hal⟩:=hv
  have han:=Al ha
  have hbn:=Al hb
  rw [←K2 (op:=bne) ha hb (fun x y=>by simp) (.inl rfl)] at h
  have hg:=Un (op:=bne) (s0:=0) ha hb ⟨by omega,by rw [←Int.natCast_mul];have:=Nat.mul_pos (show 0 < a.nx.length by omega) (show 0 < b.nx.length by omega);omega⟩
  have hi:=E5 (JH a b 0 bne)
  rw [h] at hi
  have hs:=hi.short hg
  obtain⟨h1,⟨x,hx,hgx⟩,h3⟩:=hi
  have hon:=QF (al:=a.al) h1
  refine⟨hon,fun he=>?_,?_⟩
  ·have h4:=(Lg ha hb (op:=bne) (s0:=0) (i:=0) (j:=0) (x:=x) h1 ⟨by omega,by omega⟩ ⟨by omega,by omega⟩).1 (by simpa [JH] using hx)
   have hra:=Dg ha (CK w) 0 hon (by omega)
   have hrb:=Dg hb (CK w) 0 (al:=a.al) hon (by omega)
   have h5:x / b.nx.length=AU a 0 (CK w):=by
    rw [h4,Int.add_comm,Int.add_mul_ediv_right _ _ (by omega),Int.ediv_eq_zero_of_lt hrb.1 hrb.2,Int.zero_add]
   have h6:x % b.nx.length=AU b 0 (CK w):=by
    rw [h4,Int.add_comm,Int.add_mul_emod_self_right,Int.emod_eq_of_lt hrb.1 hrb.2]
   have h7:(JH a b 0 bne).goal x=(LA a (CK w) != LA b (CK w)):=by simp only [JH,h5,h6,LA]
   rw [h7,he] at hgx
   simp at hgx
  ·have h8:a.nx.length*b.nx.length≤12*12:=Nat.mul_le_mul (by omega) (by omega)
   have h9:(JH a b 0 bne).N=a.nx.length*b.nx.length:=rfl
   have h10:(CK w).length=w.length:=by simp [CK]
   omega
 ·rw [if_neg hv] at h;cases h
theorem Sq{a b:AP}(hv:CM a b=true)(h:Fw a b=none):∀w,Ay (AR a.al) w→LA a w=LA b w:=by
 intro w hw
 unfold Fw at h
 rw [if_pos hv] at h
 unfold CM at hv
 simp only [Bool.and_eq_true,decide_eq_true_eq] at hv
 obtain⟨⟨ha,hb⟩,hal⟩:=hv
 have han:=Al ha
 have hbn:=Al hb
 rw [←K2 (op:=bne) ha hb (fun x y=>by simp) (.inl rfl)] at h
 have hi:=E5 (JH a b 0 bne)
 rw [h] at hi
 obtain⟨v,hv,rfl⟩:=YM hw
 apply Classical.byContradiction
 intro hne
 have hra:=Dg ha (CK v) 0 hw (by omega)
 have hrb:=Dg hb (CK v) 0 (al:=a.al) hw (by omega)
 refine hi v hv ⟨AU a 0 (CK v)*b.nx.length+AU b 0 (CK v),?_,?_⟩
 ·have:=(Lg ha hb (op:=bne) (s0:=0) (i:=0) (j:=0) (x:=AU a 0 (CK v)*b.nx.length+AU b 0 (CK v)) hv ⟨by omega,by omega⟩ ⟨by omega,by omega⟩).2 rfl
  simpa [JH] using this
 ·have h5:(AU a 0 (CK v)*b.nx.length+AU b 0 (CK v)) / b.nx.length=AU a 0 (CK v):=by
   rw [Int.add_comm,Int.add_mul_ediv_right _ _ (by omega),Int.ediv_eq_zero_of_lt hrb.1 hrb.2,Int.zero_add]
  have h6:(AU a 0 (CK v)*b.nx.length+AU b 0 (CK v)) % b.nx.length=AU b 0 (CK v):=by
   rw [Int.add_comm,Int.add_mul_emod_self_right,Int.emod_eq_of_lt hrb.1 hrb.2]
  show bne (a.ac.getD ((AU a 0 (CK v)*b.nx.length+AU b 0 (CK v)) / b.nx.length).toNat false) (b.ac.getD ((AU a 0 (CK v)*b.nx.length+AU b 0 (CK v)) % b.nx.length).toNat false)=true
  rw [h5,h6]
  unfold LA at hne
  simpa using hne
end Go.Am
namespace Go.Am
set_option linter.unusedVariables false
theorem DT{α:Type}{l:List α}{k:Nat}{x d:α}(h:l[k]? = some x):l.getD k d=x:=by rw [List.getD_eq_getElem?_getD,h];rfl
def fA(a:AP)(q l:Int):Int:=Bo a q.toNat l
def Fp(a:AP)(q:Int):Bool:=a.ac.getD q.toNat false
def Pq(a:AP):AP:=match OW a.nx.length (fA a) (Ac a.al) 0 with
 | some p=>⟨a.al,p.2,p.1.map (Fp a)⟩
 | none=>⟨a.al,[],[]⟩
theorem CW{a:AP}(h:HT a){q:Nat}(hq:q < a.nx.length){l:Int}(h0:0≤l)(h1:l < 6):0≤Bo a q l∧Bo a q l < a.nx.length:=by
 obtain⟨row,hr,hl,hx⟩:=h.2 q hq
 unfold Bo
 split
 ·rename_i hb
  have hlt:(Az a.al l.toNat).length < row.length:=by rw [hl];exact FA (by omega) hb
  obtain⟨y,hy⟩:=get_some hlt
  have:=hx _ y hy
  simpa [List.getD,hr,hy] using this
 ·omega
theorem MR{a:AP}:∀(w:List Int) (q:Int),(∀l∈w,l∈Ac a.al)→NK (fA a) q w=AU a q (CK w)
 | [],q,_=>rfl
 | l::w,q,h=>by
  have hl:=Av (h l (by simp))
  have e:AU a q (CK (l::w))=AU a (Bo a q.toNat (((lb l).toNat:Int) - 97)) (CK w):=rfl
  rw [e,ET hl.1 (by omega)]
  exact MR w _ fun m hm=>h m (by simp [hm])
theorem ME{s l:Int}(h:l∈Ac s):(Ac s)[(Az s l.toNat).length]? = some l:=by
 obtain⟨k,hk⟩:=List.mem_iff_getElem?.1 h
 rw [Dy hk];exact hk
theorem Xv{a:AP}(h:HT a)(h1:1≤a.nx.length):∃nd rows,OW a.nx.length (fA a) (Ac a.al) 0=some (nd,rows)∧Sl (fA a) (Ac a.al) 0 nd rows∧nd.length≤a.nx.length∧(∀q∈nd,0≤q∧q < a.nx.length)∧Pq a=⟨a.al,rows,nd.map (Fp a)⟩:=by
 have hf:∀q l:Int,0≤q∧q < ((a.nx.length:Nat):Int)→l∈Ac a.al→0≤fA a q l∧fA a q l < ((a.nx.length:Nat):Int):=fun q l hq hl=>by
  have hl:=Av hl
  exact CW h (q:=q.toNat) (by omega) hl.1 (by omega)
 obtain⟨⟨nd,rows⟩,hp⟩:=SZ (lim:=a.nx.length) (f:=fA a) (ls:=Ac a.al) (s:=0) hf (by omega)
 obtain⟨h2,h3,_⟩:=WT h1 hp
 refine⟨nd,rows,hp,h2,h3,fun q hq=>?_,by unfold Pq;rw [hp]⟩
 obtain⟨w,h4,rfl⟩:=h2.rc q hq
 have key:∀(w:List Int) (q:Int),(∀l∈w,l∈Ac a.al)→0≤q∧q < ((a.nx.length:Nat):Int)→0≤NK (fA a) q w∧NK (fA a) q w < ((a.nx.length:Nat):Int):=fun w=>by
  induction w with
  | nil=>exact fun q _ hq=>hq
  | cons l w ih=>exact fun q hw hq=>ih _ (fun m hm=>hw m (by simp [hm])) (hf q l hq (hw l (by simp)))
 exact key w 0 h4 (by omega)
theorem YJ{a:AP}{nd:List Int}{rows:List (List Int)}(h:Sl (fA a) (Ac a.al) 0 nd rows){ac:List Bool}{i:Nat}{q l:Int}(hi:nd[i]? = some q)(hl:l∈Ac a.al):Bo ⟨a.al,rows,ac⟩ i l=((nd.idxOf (Bo a q.toNat l):Nat):Int):=by
 have h1:=h.row i q hi
 have hb:=Av hl
 unfold Bo
 rw [if_pos hb.2.2]
 show (rows.getD i []).getD _ 0=_
 rw [List.getD_eq_getElem?_getD,List.getD_eq_getElem?_getD,h1,Option.getD_some,List.getElem?_map,ME hl,Option.map_some,Option.getD_some]
 rfl
theorem WI{nd:List Int}{x:Int}(h:x∈nd):nd[nd.idxOf x]? = some x:=by
 rw [List.getElem?_eq_getElem (List.idxOf_lt_length_iff.2 h),List.getElem_idxOf]
theorem Kp{a:AP}{nd:List Int}{rows:List (List Int)}(h:Sl (fA a) (Ac a.al) 0 nd rows){ac:List Bool}:∀(w:W) {i:Nat} {q:Int},Ay (AR a.al) w→nd[i]? = some q→∃j:Nat,AU ⟨a.al,rows,ac⟩ i w=j∧nd[j]? = some (AU a q w)
 | [],i,q,_,hi=>⟨i,rfl,hi⟩
 | c :: w,i,q,hw,hi=>by
  obtain⟨l,hl,rfl⟩:=List.mem_map.1 (hw c (by simp))
  have hb:=Av hl
  have e:=YJ h (ac:=ac) hi hl
  have hm:=h.cl q (List.mem_of_getElem? hi) l hl
  obtain⟨j,h1,h2⟩:=Kp h (ac:=ac) w (fun d hd=>hw d (by simp [hd])) (WI hm)
  refine⟨j,?_,?_⟩
  ·show AU _ (Bo _ ((i:Int).toNat) (((lb l).toNat:Int) - 97)) w=_
   rw [ET hb.1 (by omega),Int.toNat_natCast,e];exact h1
  ·show nd[j]? = some (AU a (Bo a q.toNat (((lb l).toNat:Int) - 97)) w)
   rw [ET hb.1 (by omega)];exact h2
theorem Zt{a:AP}(h:HT a)(h1:1≤a.nx.length){w:W}(hw:Ay (AR a.al) w):LA (Pq a) w=LA a w:=by
 obtain⟨nd,rows,_,h2,_,_,e⟩:=Xv h h1
 obtain⟨j,h3,h4⟩:=Kp h2 (ac:=nd.map (Fp a)) w hw h2.st
 rw [e]
 unfold LA
 have h3:AU ⟨a.al,rows,nd.map (Fp a)⟩ 0 w=(j:Int):=h3
 rw [h3]
 show (nd.map (Fp a)).getD ((j:Int).toNat) false=_
 rw [Int.toNat_natCast,List.getD_eq_getElem?_getD,List.getElem?_map,h4];rfl
theorem bq(a:AP):(Pq a).al=a.al:=by
 unfold Pq;split<;>rfl
theorem dj{a:AP}(h:HT a)(h1:1≤a.nx.length):HT (Pq a)∧1≤(Pq a).nx.length∧(Pq a).nx.length≤a.nx.length∧(Pq a).ac.length=(Pq a).nx.length∧∀i,i < (Pq a).nx.length→∃w,Ay (AR a.al) w∧AU (Pq a) 0 w=(i:Nat):=by
 obtain⟨nd,rows,_,h2,h3,h4,e⟩:=Xv h h1
 have hl:=h2.len
 have hst:=(List.getElem?_eq_some_iff.1 h2.st).1
 have hn:=h.1
 rw [e]
 refine⟨⟨?_,fun q hq=>?_⟩,?_,?_,?_,fun i hi=>?_⟩
 ·show rows.length≤64;omega
 ·have hq:q < rows.length:=hq
  obtain⟨x,hx⟩:=get_some (l:=nd) (k:=q) (by omega)
  refine⟨_,h2.row q x hx,by simp,fun k y hy=>?_⟩
  rw [List.getElem?_map] at hy
  cases hk:(Ac a.al)[k]? with
  | none=>rw [hk] at hy;cases hy
  | some l=>
   rw [hk] at hy
   injection hy with hy
   have hy:((nd.idxOf (fA a x l):Nat):Int)=y:=hy
   have hm:=h2.cl x (List.mem_of_getElem? hx) l (List.mem_of_getElem? hk)
   have:=List.idxOf_lt_length_iff.2 hm
   show 0≤y∧y < ((rows.length:Nat):Int)
   omega
 ·show 1≤rows.length;omega
 ·show rows.length≤_;omega
 ·show (nd.map (Fp a)).length=rows.length;rw [List.length_map];omega
 ·have hi:i < rows.length:=hi
  obtain⟨x,hx⟩:=get_some (l:=nd) (k:=i) (by omega)
  obtain⟨w,h5,h6⟩:=h2.rc x (List.mem_of_getElem? hx)
  rw [MR w 0 h5] at h6
  obtain⟨j,h7,h8⟩:=Kp h2 (ac:=nd.map (Fp a)) (CK w) (QF h5) h2.st
  rw [h6,←hx] at h8
  refine⟨CK w,QF h5,h7.trans ?_⟩
  have h9:=(List.getElem?_inj (by omega) h2.nodup).1 (h8.symm)
  omega
section
variable {α β:Type}[DecidableEq α][DecidableEq β]
theorem DZ:∀ {l m:List α},l.Nodup→(∀x∈l,x∈m)→l.length≤m.length
 | [],m,_,_=>by simp
 | x::l,m,hd,hs=>by
  have h1:=List.nodup_cons.1 hd
  have h2:=hs x (by simp)
  have h3:=List.length_erase_of_mem h2
  have h4:=DZ (l:=l) (m:=m.erase x) h1.2 fun y hy=>(List.mem_erase_of_ne fun e=>h1.1 (by rw [←e];exact hy)).2 (hs y (by simp [hy]))
  have h5:=List.length_pos_of_mem h2
  simp only [List.length_cons];omega
theorem Qh{l m:List α}(hd:l.Nodup)(hs:∀x∈l,x∈m)(hm:m.length≤l.length)(hmd:m.Nodup):∀x∈m,x∈l:=fun x hx=>by
 refine Classical.byContradiction fun hc=>?_
 have:=DZ (l:=x::l) (m:=m) (List.nodup_cons.2 ⟨hc,hd⟩) fun y hy=>by
  rcases List.mem_cons.1 hy with rfl|h
  ·exact hx
  ·exact hs y h
 simp at this;omega
def uniq:List α→List α→List α
 | u,[]=>u
 | u,x::l=>uniq (if x∈u then u else u++[x]) l
theorem LC:∀(l m u:List α),uniq u (l++m)=uniq (uniq u l) m
 | [],m,u=>rfl
 | x::l,m,u=>LC l m _
theorem Sh:∀(l:List α) {u:List α},u.Nodup→(uniq u l).Nodup
 | [],u,h=>h
 | x :: l,u,h=>by
  unfold uniq
  refine Sh l ?_
  split
  ·exact h
  ·rename_i hx
   exact List.nodup_append.2 ⟨h,by simp,fun a ha b hb=>by simp at hb;subst hb;exact fun e=>hx (e ▸ ha)⟩
theorem Pt:∀(l u:List α),u <+: uniq u l
 | [],u=>List.prefix_refl _
 | x::l,u=>by
  unfold uniq
  refine List.IsPrefix.trans ?_ (Pt l _)
  split
  ·exact List.prefix_refl _
  ·exact List.prefix_append _ _
theorem Ps:∀(l:List α) {u:List α} {x:α},x∈uniq u l↔x∈u∨x∈l
 | [],u,x=>by simp [uniq]
 | y :: l,u,x=>by
  unfold uniq
  rw [Ps l]
  split
  ·rename_i hy
   constructor
   ·rintro(h|h)
    ·exact .inl h
    ·exact .inr (by simp [h])
   ·rintro(h|h)
    ·exact .inl h
    ·rcases List.mem_cons.1 h with rfl|h
     ·exact .inl hy
     ·exact .inr h
  ·simp only [List.mem_append,List.mem_singleton,List.mem_cons,or_assoc,List.not_mem_nil,false_or]
def uq(l:List α):List α:=uniq [] l
theorem JU(l:List α):(uq l).Nodup:=Sh l (by simp)
theorem Cy{l:List α}{x:α}:x∈uq l↔x∈l:=by unfold uq;rw [Ps];simp
theorem Kx{l:List α}{k:Nat}{x:α}(h:l[k]? = some x):uq (l.take (k+1))=if x∈uq (l.take k) then uq (l.take k) else uq (l.take k)++[x]:=by
 unfold uq
 rw [List.take_add_one,h,LC];rfl
theorem Wh(l:List α)(k:Nat):uq (l.take k) <+: uq l:=by
 have h:=Pt (l.drop k) (uq (l.take k))
 unfold uq at h ⊢
 rw [←LC,List.take_append_drop] at h;exact h
theorem GR(l:List α):(uq l).length≤l.length:=DZ (JU l) fun x hx=>Cy.1 hx
def CJ(l:List α)(x:α):Int:=((uq l).idxOf x:Nat)
def Dk(l:List α):List Int:=l.map (CJ l)
theorem K6{l:List α}{x y:α}(hx:x∈l)(h:CJ l x=CJ l y):x=y:=by
 have h1:=Cy.2 hx
 have h2:(uq l).idxOf x=(uq l).idxOf y:=by unfold CJ at h;omega
 have h3:=List.idxOf_lt_length_iff.2 h1
 have h4:y∈uq l:=List.idxOf_lt_length_iff.1 (h2 ▸ h3)
 have h5:(uq l)[(uq l).idxOf x]=x:=List.getElem_idxOf h3
 have h6:(uq l)[(uq l).idxOf y]'(h2 ▸ h3)=y:=List.getElem_idxOf _
 rw [←h5,←h6];simp only [h2]
theorem Kn{l:List α}{x:α}(hx:x∈l):0≤CJ l x∧CJ l x < (uq l).length:=by
 have:=List.idxOf_lt_length_iff.2 (Cy.2 hx)
 unfold CJ;omega
theorem K5{l:List α}{x:α}(hx:x∈l):(uq l)[(CJ l x).toNat]? = some x:=by
 have h:=List.idxOf_lt_length_iff.2 (Cy.2 hx)
 have e:(CJ l x).toNat=(uq l).idxOf x:=by unfold CJ;omega
 rw [e,List.getElem?_eq_getElem h,List.getElem_idxOf]
theorem RB{l:List α}{i:Nat}{x:α}(h:(uq l)[i]? = some x):CJ l x=i:=by
 have hx:x∈l:=Cy.1 (List.mem_of_getElem? h)
 have h1:=K5 hx
 have h2:=(List.getElem?_inj (List.getElem?_eq_some_iff.1 h1).1 (JU l)).1 (h1.trans h.symm)
 have:=Kn hx
 omega
theorem Km{l:List α}{k:Nat}{x:α}(h:l[k]? = some x):(x∈uq (l.take k)→CJ l x=((uq (l.take k)).idxOf x:Nat)∧CJ l x < (uq (l.take k)).length)∧(x∉uq (l.take k)→CJ l x=(uq (l.take k)).length):=by
 constructor
 ·intro hx
  obtain⟨t,ht⟩:=Wh l k
  have h1:(uq l).idxOf x=(uq (l.take k)).idxOf x:=by rw [←ht,List.idxOf_append,if_pos hx]
  have h2:=List.idxOf_lt_length_iff.2 hx
  unfold CJ;omega
 ·intro hx
  obtain⟨t,ht⟩:=Wh l (k+1)
  rw [Kx h,if_neg hx] at ht
  unfold CJ
  rw [←ht,List.append_assoc,List.idxOf_append,if_neg hx]
  simp
theorem NS{f:α→β}{l:List α}:∀(v:List β),v.Nodup→(∀y∈v,y∈l.map f)→∃u:List α,u.map f=v∧u.Nodup∧∀x∈u,x∈l
 | [],_,_=>⟨[],rfl,by simp,by simp⟩
 | y::v,hd,h=>by
  obtain⟨u,h1,h2,h3⟩:=NS (f:=f) (l:=l) v (List.nodup_cons.1 hd).2 fun z hz=>h z (by simp [hz])
  obtain⟨x,hx,rfl⟩:=List.mem_map.1 (h y (by simp))
  refine⟨x::u,by simp [h1],List.nodup_cons.2 ⟨fun hxu=>(List.nodup_cons.1 hd).1 (by rw [←h1];exact List.mem_map.2 ⟨x,hxu,rfl⟩),h2⟩,fun z hz=>?_⟩
  rcases List.mem_cons.1 hz with rfl|hz
  ·exact hx
  ·exact h3 z hz
theorem QH(f:α→β)(l:List α):(uq (l.map f)).length≤(uq l).length:=by
 obtain⟨u,h1,h2,h3⟩:=NS (f:=f) (l:=l) (uq (l.map f)) (JU _) fun y hy=>Cy.1 hy
 rw [←h1,List.length_map]
 exact DZ h2 fun x hx=>Cy.2 (h3 x hx)
theorem Zh{f:α→β}{l:List α}(h:(uq l).length≤(uq (l.map f)).length){x y:α}(hx:x∈l)(hy:y∈l)(he:f x=f y):x=y:=by
 obtain⟨u,h1,h2,h3⟩:=NS (f:=f) (l:=l) (uq (l.map f)) (JU _) fun y hy=>Cy.1 hy
 have h4:=Qh h2 (m:=uq l) (fun x hx=>Cy.2 (h3 x hx)) (by rw [←h1,List.length_map] at h;exact h) (JU l)
 have hnd:=JU (l.map f)
 rw [←h1] at hnd
 have hxu:=h4 x (Cy.2 hx)
 have hyu:=h4 y (Cy.2 hy)
 obtain⟨i,hi⟩:=List.mem_iff_getElem?.1 hxu
 obtain⟨j,hj⟩:=List.mem_iff_getElem?.1 hyu
 have h5:(u.map f)[i]? = some (f x):=by rw [List.getElem?_map,hi];rfl
 have h6:(u.map f)[j]? = some (f x):=by rw [List.getElem?_map,hj,he];rfl
 have h7:=(List.getElem?_inj (List.getElem?_eq_some_iff.1 h5).1 hnd).1 (h5.trans h6.symm)
 subst h7
 rw [hi] at hj;injection hj
theorem Si(l:List α):(uq (Dk l)).length=(uq l).length:=by
 have h1:=QH (CJ l) l
 refine Nat.le_antisymm h1 ?_
 have h2:(uq ((uq l).map (CJ l))).length=(uq l).length:=by
  have hnd:((uq l).map (CJ l)).Nodup:=by
   unfold List.Nodup
   rw [List.pairwise_map]
   exact(List.Pairwise.and_mem.1 (JU l)).imp fun {a b} h e=>h.2.2 (K6 (Cy.1 h.1) e)
  refine Nat.le_antisymm (Nat.le_trans (GR _) (by simp)) ?_
  have:=DZ (m:=uq ((uq l).map (CJ l))) hnd fun x hx=>Cy.2 hx
  simpa using this
 rw [←h2]
 refine DZ (JU _) fun x hx=>Cy.2 ?_
 obtain⟨y,hy,rfl⟩:=List.mem_map.1 (Cy.1 hx)
 exact List.mem_map.2 ⟨y,Cy.1 hy,rfl⟩
def Bd(l:List α):Nat→List Nat
 | 0=>[]
 | k+1=>match l[k]? with
  | none=>Bd l k
  | some x=>if x∈uq (l.take k) then Bd l k else Bd l k++[k]
theorem Cg(l:List α):∀k,(Bd l k).length=(uq (l.take k)).length
 | 0=>rfl
 | k + 1=>by
  unfold Bd
  cases h:l[k]? with
  | none=>rw [List.take_add_one,h,Option.toList_none,List.append_nil];exact Cg l k
  | some x=>
   rw [Kx h]
   show (if x∈uq (l.take k) then Bd l k else Bd l k++[k]).length=_
   split
   ·exact Cg l k
   ·simp [Cg l k]
theorem Dw(l:List α):∀(k i q:Nat),(Bd l k)[i]? = some q→q < k∧∃x,l[q]? = some x∧(uq (l.take k))[i]? = some x
 | 0,i,q,h=>by simp [Bd] at h
 | k + 1, i,q,h=>by
  unfold Bd at h
  cases hk:l[k]? with
  | none=>
   rw [hk] at h
   have h:(Bd l k)[i]? = some q:=h
   obtain⟨h1,x,h2,h3⟩:=Dw l k i q h
   exact⟨by omega,x,h2,by rw [List.take_add_one,hk,Option.toList_none,List.append_nil];exact h3⟩
  | some y=>
   rw [hk] at h
   have h:(if y∈uq (l.take k) then Bd l k else Bd l k++[k])[i]? = some q:=h
   rw [Kx hk]
   split at h
   ·rename_i hy
    obtain⟨h1,x,h2,h3⟩:=Dw l k i q h
    exact⟨by omega,x,h2,by rw [if_pos hy];exact h3⟩
   ·rename_i hy
    rw [if_neg hy]
    rcases Nat.lt_or_ge i (Bd l k).length with h4|h4
    ·rw [List.getElem?_append_left h4] at h
     obtain⟨h1,x,h2,h3⟩:=Dw l k i q h
     exact⟨by omega,x,h2,by rw [List.getElem?_append_left (by rw [←Cg];exact h4)];exact h3⟩
    ·rw [List.getElem?_append_right h4] at h
     have h5:i - (Bd l k).length < 1:=(List.getElem?_eq_some_iff.1 h).1
     have h6:i=(Bd l k).length:=by omega
     subst h6
     simp at h
     subst h
     exact⟨by omega,y,hk,by rw [Cg];simp⟩
end
def GG(a:AP)(cs:List Int)(q:Nat):List Int:=cs.getD q 0::(a.nx.getD q []).map fun x=>cs.getD x.toNat 0
def BS(a:AP)(cs:List Int):List (List Int):=(List.range a.nx.length).map (GG a cs)
def Sp(a:AP):Nat→List Int→Nat→List (List Int)
 | 0,cs,_=>BS a cs
 | k+1,cs,n=>if (uq (BS a cs)).length=n then BS a cs else Sp a k (Dk (BS a cs)) (uq (BS a cs)).length
def Fv(a:AP):List Int:=a.ac.map fun b=>if b then 1 else 0
def DE(a:AP):List (List Int):=Sp a (a.nx.length+1) (Fv a) 0
def Ni(a:AP):List Int:=Dk (DE a)
def Sn(a:AP)(q r:Int):Prop:=∀w,Ay (AR a.al) w→Fp a (AU a q w)=Fp a (AU a r w)
theorem Dr(a:AP)(cs:List Int):(BS a cs).length=a.nx.length:=by simp [BS]
theorem Bj{a:AP}{cs:List Int}{q:Nat}(h:q < a.nx.length):(BS a cs)[q]? = some (GG a cs q):=by simp [BS,h]
theorem Qr{a:AP}(h:HT a){q:Nat}(hq:q < a.nx.length):a.nx[q]? = some ((Ac a.al).map (Bo a q)):=by
 obtain⟨row,h1,h2,_⟩:=h.2 q hq
 rw [h1]
 congr 1
 apply List.ext_getElem?
 intro i
 rw [List.getElem?_map]
 cases hl:(Ac a.al)[i]? with
 | none=>
  have:=List.getElem?_eq_none_iff.1 hl
  rw [List.getElem?_eq_none (by omega)];rfl
 | some l=>
  have hb:=Av (List.mem_of_getElem? hl)
  have hlt:=(List.getElem?_eq_some_iff.1 hl).1
  obtain⟨y,hy⟩:=get_some (l:=row) (k:=i) (by omega)
  rw [hy,Option.map_some]
  congr 1
  unfold Bo
  rw [if_pos hb.2.2,Dy hl,List.getD_eq_getElem?_getD,List.getD_eq_getElem?_getD,h1,Option.getD_some,hy];rfl
theorem Ki{a:AP}(h:HT a){cs:List Int}{q:Nat}(hq:q < a.nx.length):GG a cs q=cs.getD q 0::(Ac a.al).map fun l=>cs.getD (Bo a q l).toNat 0:=by
 unfold GG
 rw [DT (Qr h hq),List.map_map];rfl
theorem Sn.step{a:AP}{q r:Int}(h:Sn a q r){l:Int}(hl:l∈Ac a.al):Sn a (Bo a q.toNat l) (Bo a r.toNat l):=fun w hw=>by
 have hb:=Av hl
 have h1:=h (lb l::w) (fun c hc=>by
  rcases List.mem_cons.1 hc with rfl|hc
  ·exact List.mem_map.2 ⟨l,hl,rfl⟩
  ·exact hw c hc)
 have e:∀p:Int,AU a p (lb l::w)=AU a (Bo a p.toNat l) w:=fun p=>by
  show AU a (Bo a p.toNat (((lb l).toNat:Int) - 97)) w=_
  rw [ET hb.1 (by omega)]
 rw [e,e] at h1
 exact h1
structure XL (a:AP) (ks:List (List Int)):Prop where
 len:ks.length=a.nx.length
 ac:∀q r:Nat,q < a.nx.length→r < a.nx.length→ks[q]? = ks[r]?→Fp a q=Fp a r
 go:∀q r:Nat,q < a.nx.length→r < a.nx.length→ks[q]? = ks[r]?→∀l∈Ac a.al,ks[(Bo a q l).toNat]? = ks[(Bo a r l).toNat]?
 res:∀q r:Nat,q < a.nx.length→r < a.nx.length→Sn a q r→ks[q]? = ks[r]?
theorem XD{a:AP}{cs:List Int}(h:cs.length=a.nx.length):(BS a cs).map (fun k=>k.headD 0)=cs:=by
 apply List.ext_getElem?
 intro i
 rw [List.getElem?_map]
 by_cases hi:i < a.nx.length
 ·rw [Bj hi,Option.map_some]
  show some (cs.getD i 0)=_
  obtain⟨y,hy⟩:=get_some (l:=cs) (k:=i) (by omega)
  rw [List.getD_eq_getElem?_getD,hy];rfl
 ·rw [List.getElem?_eq_none (by rw [Dr];omega),List.getElem?_eq_none (by omega)];rfl
theorem GN{α:Type}[DecidableEq α]{l:List α}{q:Nat}{x:α}(h:l[q]? = some x):(Dk l).getD q 0=CJ l x:=by
 unfold Dk
 rw [List.getD_eq_getElem?_getD,List.getElem?_map,h];rfl
theorem Ro{a:AP}(h:HT a)(h1:1≤a.nx.length):∀(k:Nat) {cs:List Int} {n:Nat},cs.length=a.nx.length→
 (∀q r:Nat,q < a.nx.length→r < a.nx.length→Sn a q r→cs.getD q 0=cs.getD r 0)→
 (∀q r:Nat,q < a.nx.length→r < a.nx.length→cs.getD q 0=cs.getD r 0→Fp a q=Fp a r)→
 (n=0∨n=(uq cs).length)→a.nx.length+1≤k+n→XL a (Sp a k cs n)
 | 0,cs,n,hl,_,_,hn,hk=>by
  have:=GR cs
  omega
 | k + 1,cs,n,hl,hc,hac,hn,hk=>by
  have hhd:=XD (a:=a) hl
  have hin:∀q:Nat,q < a.nx.length→∀l∈Ac a.al,(Bo a q l).toNat < a.nx.length:=fun q hq l hm=>by
   have hb:=Av hm
   have:=CW h hq hb.1 (by omega)
   omega
  have hcomp:∀q r:Nat,q < a.nx.length→r < a.nx.length→Sn a q r→GG a cs q=GG a cs r:=fun q r hq hr hqr=>by
   rw [Ki h hq,Ki h hr,hc q r hq hr hqr]
   congr 1
   refine List.map_congr_left fun l hm=>hc _ _ (hin q hq l hm) (hin r hr l hm) ?_
   have hb:=Av hm
   have e1:=CW h hq hb.1 (by omega)
   have e2:=CW h hr hb.1 (by omega)
   have:=hqr.step hm
   rw [Int.toNat_natCast,Int.toNat_natCast] at this
   rw [show (((Bo a q l).toNat:Nat):Int)=Bo a q l by omega,show (((Bo a r l).toNat:Nat):Int)=Bo a r l by omega]
   exact this
  have hcnt:1≤(uq (BS a cs)).length:=by
   have:GG a cs 0∈uq (BS a cs):=Cy.2 (List.mem_of_getElem? (Bj (by omega)))
   exact List.length_pos_of_mem this
  have hmap:=QH (fun k:List Int=>k.headD 0) (BS a cs)
  rw [hhd] at hmap
  unfold Sp
  split
  ·rename_i he
   have hcl:(uq cs).length=(uq (BS a cs)).length:=by omega
   have hcs:∀q r:Nat,q < a.nx.length→r < a.nx.length→cs.getD q 0=cs.getD r 0→GG a cs q=GG a cs r:=fun q r hq hr e=>
    Zh (f:=fun k:List Int=>k.headD 0) (l:=BS a cs) (by rw [hhd];omega) (List.mem_of_getElem? (Bj hq)) (List.mem_of_getElem? (Bj hr)) e
   refine⟨Dr _ _,fun q r hq hr e=>?_,fun q r hq hr e l hm=>?_,fun q r hq hr e=>?_⟩
   ·rw [Bj hq,Bj hr] at e
    injection e with e
    refine hac q r hq hr ?_
    unfold GG at e
    injection e
   ·rw [Bj hq,Bj hr] at e
    injection e with e
    rw [Ki h hq,Ki h hr] at e
    injection e with _ e
    rw [Bj (hin q hq l hm),Bj (hin r hr l hm)]
    congr 1
    exact hcs _ _ (hin q hq l hm) (hin r hr l hm) (List.map_inj_left.1 e l hm)
   ·rw [Bj hq,Bj hr,hcomp q r hq hr e]
  ·rename_i he
   refine Ro h h1 k (by simp [Dk,Dr]) (fun q r hq hr e=>?_) (fun q r hq hr e=>?_) (.inr (Si _).symm) (by omega)
   ·rw [GN (Bj hq),GN (Bj hr),hcomp q r hq hr e]
   ·rw [GN (Bj hq),GN (Bj hr)] at e
    have e:=K6 (List.mem_of_getElem? (Bj hq)) e
    refine hac q r hq hr ?_
    unfold GG at e
    injection e
theorem I8{a:AP}(h:HT a)(h1:1≤a.nx.length)(hac:a.ac.length=a.nx.length):XL a (DE a):=by
 have hg:∀q:Nat,q < a.nx.length→(Fv a).getD q 0=if Fp a q then 1 else 0:=fun q hq=>by
  obtain⟨b,hb⟩:=get_some (l:=a.ac) (k:=q) (by omega)
  unfold Fv Fp
  rw [List.getD_eq_getElem?_getD,List.getElem?_map,hb,Int.toNat_natCast,List.getD_eq_getElem?_getD,hb];rfl
 refine Ro h h1 _ (by simp [Fv,hac]) (fun q r hq hr e=>?_) (fun q r hq hr e=>?_) (.inl rfl) (by omega)
 ·have e:Fp a q=Fp a r:=e [] (fun c hc=>by cases hc)
  rw [hg q hq,hg r hr,e]
 ·rw [hg q hq,hg r hr] at e
  cases h1:Fp a q<;>cases h2:Fp a r<;>rw [h1,h2] at e<;>first|rfl|cases e
theorem XL.run{a:AP}(hB:HT a){ks:List (List Int)}(h:XL a ks):∀(w:W) (q r:Nat),q < a.nx.length→r < a.nx.length→ks[q]? = ks[r]?→Ay (AR a.al) w→Fp a (AU a q w)=Fp a (AU a r w)
 | [],q,r,hq,hr,e,_=>h.ac q r hq hr e
 | c::w,q,r,hq,hr,e,hw=>by
  obtain⟨l,hl,rfl⟩:=List.mem_map.1 (hw c (by simp))
  have hb:=Av hl
  have e1:=CW hB hq hb.1 (by omega)
  have e2:=CW hB hr hb.1 (by omega)
  have ih:=XL.run hB h w (Bo a q l).toNat (Bo a r l).toNat (by omega) (by omega) (h.go q r hq hr e l hl) fun d hd=>hw d (by simp [hd])
  rw [show (((Bo a q l).toNat:Nat):Int)=Bo a q l by omega,show (((Bo a r l).toNat:Nat):Int)=Bo a r l by omega] at ih
  show Fp a (AU a (Bo a ((q:Int).toNat) (((lb l).toNat:Int) - 97)) w)=Fp a (AU a (Bo a ((r:Int).toNat) (((lb l).toNat:Int) - 97)) w)
  rw [ET hb.1 (by omega),Int.toNat_natCast,Int.toNat_natCast]
  exact ih
theorem XL.iff{a:AP}(hB:HT a){ks:List (List Int)}(h:XL a ks){q r:Nat}(hq:q < a.nx.length)(hr:r < a.nx.length):ks[q]? = ks[r]?↔Sn a q r:=
 ⟨fun e w hw=>h.run hB w q r hq hr e hw,h.res q r hq hr⟩
def C8(n:Nat):W:=if n < 10 then [UInt8.ofNat (48+n)] else [UInt8.ofNat (48+n / 10),UInt8.ofNat (48+n % 10)]
def C4(l:List Int):W:=l.flatMap fun x=>44::C8 x.toNat
def PV:List Int→W
 | []=>[]
 | c::l=>C8 c.toNat++C4 l
theorem Of:((List.range 100).all fun n=>(List.range 100).all fun m=>decide (C8 n=C8 m→n=m) && !(C8 n).contains 44)=true:=by decide +kernel
theorem Oe{n m:Nat}(hn:n < 100)(hm:m < 100)(h:C8 n=C8 m):n=m:=by
 have h1:=List.all_eq_true.1 (List.all_eq_true.1 Of n (List.mem_range.2 hn)) m (List.mem_range.2 hm)
 rw [Bool.and_eq_true] at h1
 exact of_decide_eq_true h1.1 h
theorem Kf{n:Nat}(hn:n < 100):(44:UInt8)∉C8 n:=fun h=>by
 have h1:=List.all_eq_true.1 (List.all_eq_true.1 Of n (List.mem_range.2 hn)) n (List.mem_range.2 hn)
 rw [Bool.and_eq_true] at h1
 have h2:=h1.2
 simp at h2
 exact h2 h
theorem PJ{c:UInt8}:∀ {u v x y:W},c∉u→c∉v→(x=[]∨∃z,x=c::z)→(y=[]∨∃z,y=c::z)→u++x=v++y→u=v∧x=y
 | [],[],x,y,_,_,_,_,h=>⟨rfl,h⟩
 | [],d::v,x,y,_,hv,hx,_,h=>by
  exfalso
  have h:x=d::(v++y):=h
  rcases hx with rfl|⟨z,rfl⟩
  ·cases h
  ·injection h with h _
   exact hv (by rw [h];simp)
 | d :: u,[],x,y,hu,_,_,hy,h=>by
  exfalso
  have h:d::(u++x)=y:=h
  rcases hy with rfl|⟨z,rfl⟩
  ·cases h
  ·injection h with h _
   exact hu (by rw [h];simp)
 | d::u,e::v,x,y,hu,hv,hx,hy,h=>by
  have h:d::(u++x)=e::(v++y):=h
  injection h with h1 h2
  obtain⟨h3,h4⟩:=PJ (fun hm=>hu (by simp [hm])) (fun hm=>hv (by simp [hm])) hx hy h2
  exact⟨by rw [h1,h3],h4⟩
theorem Hc(l:List Int):C4 l=[]∨∃z,C4 l=44::z:=by
 cases l with
 | nil=>exact .inl rfl
 | cons x l=>exact .inr ⟨_,rfl⟩
theorem MU:∀ {l m:List Int},(∀x∈l,0≤x∧x < 100)→(∀x∈m,0≤x∧x < 100)→C4 l=C4 m→l=m
 | [],[],_,_,_=>rfl
 | [],_::_,_,_,h=>by cases h
 | _::_,[],_,_,h=>by cases h
 | x::l,y::m,hl,hm,h=>by
  have h:44::(C8 x.toNat++C4 l)=44::(C8 y.toNat++C4 m):=h
  injection h with _ h
  have hx:=hl x (by simp)
  have hy:=hm y (by simp)
  obtain⟨h1,h2⟩:=PJ (Kf (by omega)) (Kf (by omega)) (Hc l) (Hc m) h
  have:=Oe (by omega) (by omega) h1
  rw [show x=y by omega,MU (fun z hz=>hl z (by simp [hz])) (fun z hz=>hm z (by simp [hz])) h2]
theorem Uz{k k':List Int}(hk:∀x∈k,0≤x∧x < 100)(hk':∀x∈k',0≤x∧x < 100)(h1:k≠[])(h2:k'≠[])(h:PV k=PV k'):k=k':=by
 cases k with
 | nil=>exact absurd rfl h1
 | cons x l=>
  cases k' with
  | nil=>exact absurd rfl h2
  | cons y m=>
   have hx:=hk x (by simp)
   have hy:=hk' y (by simp)
   obtain⟨h3,h4⟩:=PJ (Kf (by omega)) (Kf (by omega)) (Hc l) (Hc m) h
   have:=Oe (by omega) (by omega) h3
   rw [show x=y by omega,MU (fun z hz=>hk z (by simp [hz])) (fun z hz=>hk' z (by simp [hz])) h4]
section
variable {α β:Type}[DecidableEq α][DecidableEq β]
theorem LF{f:α→β}:∀(l u:List α),(∀x y,x∈u++l→y∈u++l→f x=f y→x=y)→uniq (u.map f) (l.map f)=(uniq u l).map f
 | [],u,_=>rfl
 | x :: l,u,h=>by
  have hm:f x∈u.map f↔x∈u:=by
   constructor
   ·intro hx
    obtain⟨y,hy,e⟩:=List.mem_map.1 hx
    rwa [←h y x (by simp [hy]) (by simp) e]
   ·intro hx;exact List.mem_map.2 ⟨x,hx,rfl⟩
  show uniq (if f x∈u.map f then u.map f else u.map f++[f x]) (l.map f)=(uniq (if x∈u then u else u++[x]) l).map f
  by_cases hx:x∈u
  ·rw [if_pos (hm.2 hx),if_pos hx]
   exact LF l u fun y z hy hz=>h y z (by
    rcases List.mem_append.1 hy with h|h<;>simp [h]) (by
    rcases List.mem_append.1 hz with h|h<;>simp [h])
  ·rw [if_neg (fun e=>hx (hm.1 e)),if_neg hx]
   have e:u.map f++[f x]=(u++[x]).map f:=by simp
   rw [e]
   exact LF l (u++[x]) fun y z hy hz=>h y z (by simpa [or_assoc] using hy) (by simpa [or_assoc] using hz)
theorem VZ{f:α→β}{l:List α}(h:∀x y,x∈l→y∈l→f x=f y→x=y):uq (l.map f)=(uq l).map f:=by
 have:=LF l [] (f:=f) (by simpa using h)
 exact this
theorem US{f:α→β}{l:List α}(h:∀x y,x∈l→y∈l→f x=f y→x=y){x:α}(hx:x∈l):CJ (l.map f) (f x)=CJ l x:=by
 have h1:=K5 hx
 have h2:(uq (l.map f))[(CJ l x).toNat]? = some (f x):=by rw [VZ h,List.getElem?_map,h1];rfl
 have:=RB h2
 have h3:=Kn hx
 omega
theorem UT{f:α→β}{l:List α}(h:∀x y,x∈l→y∈l→f x=f y→x=y):Dk (l.map f)=Dk l:=by
 unfold Dk
 rw [List.map_map]
 exact List.map_congr_left fun x hx=>US h hx
end
def Gt(a:AP)(q:Int):Int:=(Ni a).getD q.toNat 0
def BP(a:AP)(k:Nat):AP:=⟨a.al,(Bd (DE a) k).map fun q=>(a.nx.getD q []).map (Gt a),(Bd (DE a) k).map fun q=>a.ac.getD q false⟩
def Dv(a:AP):AP:=BP a a.nx.length
def EY(a:AP):AP:=Pq (Dv a)
structure Hh (a:AP):Prop where
 b:HT a
 n1:1≤a.nx.length
 ac:a.ac.length=a.nx.length
theorem Kc{a:AP}(h:AF a=true):Hh a:=by
 have:=Al h
 exact⟨QX h,this.2.1,this.2.2.2⟩
theorem Hh.ZU{a:AP}(h:Hh a):∀(w:W) {q:Int},Ay (AR a.al) w→0≤q∧q < ((a.nx.length:Nat):Int)→0≤AU a q w∧AU a q w < ((a.nx.length:Nat):Int)
 | [],q,_,hq=>hq
 | c::w,q,hw,hq=>by
  have h1:=FF (hw c (by simp))
  exact Hh.ZU h w (fun x hx=>hw x (by simp [hx])) (CW h.b (q:=q.toNat) (by omega) h1.1 h1.2)
theorem QP(a:AP)(w:W):LA a w=Fp a (AU a 0 w):=rfl
section
variable {a:AP}(h:Hh a)
include h
theorem Gx{q:Nat}(hq:q < a.nx.length):∃x,(DE a)[q]? = some x∧Gt a q=CJ (DE a) x∧0≤Gt a q∧Gt a q < ((Dv a).nx.length:Nat):=by
 have hc:=I8 h.b h.n1 h.ac
 obtain⟨x,hx⟩:=get_some (l:=DE a) (k:=q) (by have:=hc.len;omega)
 have e:Gt a q=CJ (DE a) x:=by unfold Gt Ni;rw [Int.toNat_natCast];exact GN hx
 have hl:=Kn (List.mem_of_getElem? hx)
 have hn:(Dv a).nx.length=(uq (DE a)).length:=by
  unfold Dv BP
  simp only [List.length_map]
  rw [Cg,List.take_of_length_le (by have:=hc.len;omega)]
 exact⟨x,hx,e,by omega,by omega⟩
theorem Uc{q r:Nat}(hq:q < a.nx.length)(hr:r < a.nx.length):Gt a q=Gt a r↔Sn a q r:=by
 have hc:=I8 h.b h.n1 h.ac
 obtain⟨x,hx,e,_⟩:=Gx h hq
 obtain⟨y,hy,e2,_⟩:=Gx h hr
 rw [←hc.iff h.b hq hr,e,e2,hx,hy]
 exact⟨fun k=>by rw [K6 (List.mem_of_getElem? hx) k],fun k=>by injection k with k;rw [k]⟩
theorem Ud:Gt a 0=0:=by
 have hn:=h.n1
 obtain⟨x,hx,e,_⟩:=Gx h (q:=0) (by omega)
 have:=(Km hx).2 (by simp [uq,uniq])
 have e:Gt a 0=CJ (DE a) x:=e
 rw [e,this];rfl
theorem Vz{q:Nat}(hq:q < a.nx.length):∃r:Nat,r < a.nx.length∧(Bd (DE a) a.nx.length)[(Gt a q).toNat]? = some r∧Sn a q r:=by
 have hc:=I8 h.b h.n1 h.ac
 obtain⟨x,hx,e,h0,h1⟩:=Gx h hq
 have hlen:(Dv a).nx.length=(Bd (DE a) a.nx.length).length:=by simp [Dv,BP]
 obtain⟨r,hr⟩:=get_some (l:=Bd (DE a) a.nx.length) (k:=(Gt a q).toNat) (by omega)
 obtain⟨h2,y,h3,h4⟩:=Dw _ _ _ _ hr
 rw [List.take_of_length_le (by have:=hc.len;omega)] at h4
 rw [e,K5 (List.mem_of_getElem? hx)] at h4
 injection h4 with h4
 subst h4
 exact⟨r,h2,hr,(hc.iff h.b hq h2).1 (hx.trans h3.symm)⟩
theorem RS{i:Nat}(hi:i < (Dv a).nx.length):∃r:Nat,r < a.nx.length∧Gt a r=i:=by
 have hc:=I8 h.b h.n1 h.ac
 have hlen:(Dv a).nx.length=(Bd (DE a) a.nx.length).length:=by simp [Dv,BP]
 obtain⟨r,hr⟩:=get_some (l:=Bd (DE a) a.nx.length) (k:=i) (by omega)
 obtain⟨h2,y,h3,h4⟩:=Dw _ _ _ _ hr
 rw [List.take_of_length_le (by have:=hc.len;omega)] at h4
 obtain⟨x,hx,e,_⟩:=Gx h h2
 rw [hx] at h3;injection h3 with h3;subst h3
 refine⟨r,h2,?_⟩
 rw [e]
 exact RB h4
theorem aY:Hh (Dv a)∧(Dv a).nx.length≤a.nx.length:=by
 have hc:=I8 h.b h.n1 h.ac
 have hb:=h.b
 have hlen:(Dv a).nx.length=(uq (DE a)).length:=by
  unfold Dv BP
  simp only [List.length_map]
  rw [Cg,List.take_of_length_le (by have:=hc.len;omega)]
 have h2:=GR (DE a)
 have h3:=hc.len
 have hn:=h.n1
 obtain⟨x,hx,e,h0,h1⟩:=Gx h (q:=0) (by omega)
 refine⟨⟨⟨by have:=hb.1;omega,fun q hq=>?_⟩,by omega,by simp [Dv,BP]⟩,by omega⟩
 have hq:q < ((Bd (DE a) a.nx.length).map fun q=>(a.nx.getD q []).map (Gt a)).length:=hq
 rw [List.length_map] at hq
 obtain⟨r,hr⟩:=get_some hq
 obtain⟨h5,_⟩:=Dw _ _ _ _ hr
 have hrow:=Qr hb h5
 refine⟨((Ac a.al).map (Bo a r)).map (Gt a),?_,by simp;rfl,fun k y hy=>?_⟩
 ·show ((Bd (DE a) a.nx.length).map _)[q]? = _
  rw [List.getElem?_map,hr,Option.map_some,DT hrow]
 ·rw [List.getElem?_map,List.getElem?_map] at hy
  cases hl:(Ac a.al)[k]? with
  | none=>rw [hl] at hy;cases hy
  | some l=>
   rw [hl] at hy
   injection hy with hy
   have hlb:=Av (List.mem_of_getElem? hl)
   have hgi:=CW hb h5 hlb.1 (by omega)
   obtain⟨_,_,_,h6,h7⟩:=Gx h (q:=(Bo a r l).toNat) (by omega)
   rw [show (((Bo a r l).toNat:Nat):Int)=Bo a r l by omega] at h6 h7
   subst hy
   exact⟨h6,h7⟩
theorem Y8{q:Nat}(hq:q < a.nx.length){l:Int}(hl:l∈Ac a.al):Bo (Dv a) (Gt a q).toNat l=Gt a (Bo a q l):=by
 obtain⟨r,h1,h2,h3⟩:=Vz h hq
 have hlb:=Av hl
 have hrow:=Qr h.b h1
 have e:Bo (Dv a) (Gt a q).toNat l=Gt a (Bo a r l):=by
  unfold Bo
  rw [show EM (Dv a).al l.toNat=true from hlb.2.2,hlb.2.2,if_pos rfl,if_pos rfl]
  show (((Bd (DE a) a.nx.length).map fun q=>(a.nx.getD q []).map (Gt a)).getD _ []).getD _ 0=_
  rw [List.getD_eq_getElem?_getD,List.getD_eq_getElem?_getD,List.getElem?_map,h2,Option.map_some,Option.getD_some,List.getElem?_map,DT hrow]
  show Option.getD (Option.map (Gt a) ((Ac a.al).map (Bo a r))[(Az a.al l.toNat).length]?) 0=Gt a (((Ac a.al).map (Bo a r)).getD (Az a.al l.toNat).length 0)
  rw [List.getD_eq_getElem?_getD,List.getElem?_map,ME hl];rfl
 rw [e]
 have g1:=CW h.b hq hlb.1 (by omega)
 have g2:=CW h.b h1 hlb.1 (by omega)
 have h4:=h3.step hl
 rw [Int.toNat_natCast,Int.toNat_natCast] at h4
 have:=(Uc h (q:=(Bo a r l).toNat) (r:=(Bo a q l).toNat) (by omega) (by omega)).2 (by
  rw [show (((Bo a r l).toNat:Nat):Int)=Bo a r l by omega,show (((Bo a q l).toNat:Nat):Int)=Bo a q l by omega]
  exact fun w hw=>(h4 w hw).symm)
 rw [show (((Bo a r l).toNat:Nat):Int)=Bo a r l by omega,show (((Bo a q l).toNat:Nat):Int)=Bo a q l by omega] at this
 exact this
theorem Y3{q:Nat}(hq:q < a.nx.length):Fp (Dv a) (Gt a q)=Fp a q:=by
 obtain⟨r,h1,h2,h3⟩:=Vz h hq
 have h4:Fp a q=Fp a r:=h3 [] (fun c hc=>by cases hc)
 rw [h4]
 unfold Fp
 show ((Bd (DE a) a.nx.length).map fun q=>a.ac.getD q false).getD _ false=_
 rw [List.getD_eq_getElem?_getD,List.getElem?_map,h2,Int.toNat_natCast];rfl
theorem RP:∀(w:W) {q:Nat},q < a.nx.length→Ay (AR a.al) w→AU (Dv a) (Gt a q) w=Gt a (AU a q w)
 | [],q,_,_=>rfl
 | c::w,q,hq,hw=>by
  obtain⟨l,hl,rfl⟩:=List.mem_map.1 (hw c (by simp))
  have hlb:=Av hl
  have g1:=CW h.b hq hlb.1 (by omega)
  have ih:=RP w (q:=(Bo a q l).toNat) (by omega) fun d hd=>hw d (by simp [hd])
  rw [show (((Bo a q l).toNat:Nat):Int)=Bo a q l by omega] at ih
  show AU (Dv a) (Bo (Dv a) (Gt a q).toNat (((lb l).toNat:Int) - 97)) w=Gt a (AU a (Bo a ((q:Int).toNat) (((lb l).toNat:Int) - 97)) w)
  rw [ET hlb.1 (by omega),Int.toNat_natCast,Y8 h hq hl]
  exact ih
theorem NI{q:Nat}(hq:q < a.nx.length){w:W}(hw:Ay (AR a.al) w):Fp (Dv a) (AU (Dv a) (Gt a q) w)=Fp a (AU a q w):=by
 have:=h.ZU w (q:=(q:Int)) hw (by omega)
 rw [RP h w hq hw]
 have e:=Y3 h (q:=(AU a q w).toNat) (by omega)
 rwa [show (((AU a q w).toNat:Nat):Int)=AU a q w by omega] at e
theorem Y0{w:W}(hw:Ay (AR a.al) w):LA (Dv a) w=LA a w:=by
 have hn:=h.n1
 have:=NI h (q:=0) (by omega) hw
 rw [show (((0:Nat):Int))=0 from rfl,Ud h] at this
 exact this
theorem Y7{i j:Nat}(hi:i < (Dv a).nx.length)(hj:j < (Dv a).nx.length)(hr:Sn (Dv a) i j):i=j:=by
 obtain⟨q,hq,e1⟩:=RS h hi
 obtain⟨r,hr',e2⟩:=RS h hj
 rw [←e1,←e2] at hr
 have:=(Uc h hq hr').2 fun w hw=>by
  have:=hr w hw
  rwa [NI h hq hw,NI h hr' hw] at this
 omega
end
structure Zu (a m:AP):Prop where
 al:m.al=a.al
 g:Hh m
 n2:m.nx.length≤a.nx.length
 lang:∀w,Ay (AR a.al) w→LA m w=LA a w
 rc:∀i:Nat,i < m.nx.length→∃w,Ay (AR a.al) w∧AU m 0 w=i
 ds:∀i j:Nat,i < m.nx.length→j < m.nx.length→Sn m i j→i=j
theorem br{a:AP}(h:Hh a)(hd:∀i j:Nat,i < a.nx.length→j < a.nx.length→Sn a i j→i=j){i j:Nat}(hi:i < (Pq a).nx.length)(hj:j < (Pq a).nx.length)(hr:Sn (Pq a) i j):i=j:=by
 obtain⟨nd,rows,_,h2,h3,h4,e⟩:=Xv h.b h.n1
 have hl:=h2.len
 rw [e] at hi hj hr
 have hi:i < rows.length:=hi
 have hj:j < rows.length:=hj
 obtain⟨x,hx⟩:=get_some (l:=nd) (k:=i) (by omega)
 obtain⟨y,hy⟩:=get_some (l:=nd) (k:=j) (by omega)
 have key:∀ {k:Nat} {z:Int},nd[k]? = some z→∀ {w:W},Ay (AR a.al) w→Fp ⟨a.al,rows,nd.map (Fp a)⟩ (AU ⟨a.al,rows,nd.map (Fp a)⟩ k w)=Fp a (AU a z w):=fun {k z} hz {w} hw=>by
  obtain⟨m,h5,h6⟩:=Kp h2 (ac:=nd.map (Fp a)) w hw hz
  rw [h5]
  show (nd.map (Fp a)).getD ((m:Int).toNat) false=_
  rw [Int.toNat_natCast,List.getD_eq_getElem?_getD,List.getElem?_map,h6];rfl
 have hxi:=h4 x (List.mem_of_getElem? hx)
 have hyi:=h4 y (List.mem_of_getElem? hy)
 have hxy:=hd x.toNat y.toNat (by omega) (by omega) fun w hw=>by
  have:=hr w hw
  rw [key hx hw,key hy hw] at this
  rw [show ((x.toNat:Nat):Int)=x by omega,show ((y.toNat:Nat):Int)=y by omega]
  exact this
 obtain rfl:x=y:=by omega
 exact(List.getElem?_inj (by omega) h2.nodup).1 (hx.trans hy.symm)
theorem Qf{a:AP}(h:Hh a):Zu a (EY a):=by
 obtain⟨g1,g2⟩:=aY h
 obtain⟨h1,h2,h3,h4,h5⟩:=dj g1.b g1.n1
 unfold EY
 exact⟨bq _,⟨h1,h2,h4⟩,by omega,fun w hw=>by rw [Zt g1.b g1.n1 hw];exact Y0 h hw,h5,fun i j hi hj hr=>br g1 (fun i j hi hj hr=>Y7 h hi hj hr) hi hj hr⟩
end Go.Am
