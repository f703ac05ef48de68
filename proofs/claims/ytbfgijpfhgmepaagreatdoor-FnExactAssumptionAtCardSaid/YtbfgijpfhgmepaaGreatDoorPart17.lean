/-
  The answers of a known automaton; the column that a wrong word shows.
-/
import Derived.Test.YtbfgijpfhgmepaaGreatDoorPart16
import Derived.Test.YtbfgijpfhgmepaaGreatDoorPart15
import Derived.Test.YtbfgijpfhgmepaaGreatDoorPart12
import Derived.Test.YtbfgijpfhgmepaaGreatDoorPart13
set_option linter.constructorNameAsVariable false
set_option linter.unusedSectionVars false
set_option linter.unusedSimpArgs false
set_option linter.unusedVariables false
namespace Go.Am
open Go Go.Proofs
set_option maxHeartbeats 1000000
attribute [local irreducible] AS BT Lex Bc Au Spec
variable {TB:Bt}
theorem Hj(w:W)(i:Nat)(c:UInt8)(hc:w[((i:Nat):Int).toNat]? = some c)(hl:0≤(c.toNat:Int) - 97∧(c.toNat:Int) - 97 < 6):Pure Tryz.prog TB 104 [eT w,eI .i64 i] (eI .i64 ((c.toNat:Int) - 97)):=by
 refine eN Tryz.func104 rfl (by kernel_rfl) rfl ?_;intro Γ hΓ
 (repeat' first|(refine sA rfl ?_ ?_;first|exact tI|omega) |(refine s4 rfl ‹_› rfl ?_ ?_;omega) |refine s2 rfl fun _ _hb=>?_ |refine s3 rfl ?_ ?_<;>rintro rfl |refine aU rfl ?_ |refine Aa ?_|(refine aC rfl ?_ ?_<;>rintro⟨⟩)|refine aK ?_|refine aE ?_|refine aB ?_|refine aR ⟨_,rfl,?_⟩)
 all_goals first
  | rfl
  | (exfalso;grind)
abbrev ei(kn:Bool)(p:AU)(s:Sys)(q:AU)(al:Int):List D:=[bD kn,iD p.al,CR p.nx,E4 p.ac,iD s.al,iD s.st,Ek s.es,iD q.al,CR q.nx,E4 q.ac,iD al]
theorem JA{ls:List UInt8}{w:W}(h:AK ls w)(k:Nat):AK ls (w.take k):=fun c hc=>h c (List.mem_of_mem_take hc)
theorem fE{ls:List UInt8}{w:W}(h:AK ls w)(k:Nat):AK ls (w.drop k):=fun c hc=>h c (List.mem_of_mem_drop hc)
theorem aw{p:AU}{w:W}{k:Nat}{c:UInt8}(hc:w[k]? = some c)(q:Int):Fh p q (w.take (k+1))=Cy p (Fh p q (w.take k)).toNat ((c.toNat:Int) - 97):=by
 rw [List.take_add_one,hc,U9];rfl
theorem MH{L:W→Bool}{t:AW}{w:W}{k:Nat}{c:UInt8}(hc:w[k]? = some c)(q:Nat):runM L t q (w.take (k+1))=CX L t (t.rows.getD (runM L t q (w.take k)) []++[c]):=by
 rw [List.take_add_one,hc,Px];rfl
def CC(L:W→Bool)(t:AW)(w:W):Option W:=if LZ L t w=L w then none else splitAt L t (L w) 0 w
theorem Lx{L:W→Bool}{t:AW}{b:Bool}{w:W}{k q:Nat}{c:UInt8}(hc:w[k]? = some c):splitAt L t b q (w.drop k)=if L (t.rows.getD (CX L t (t.rows.getD q []++[c])) []++w.drop (k+1))≠b then some (w.drop (k+1)) else splitAt L t b (CX L t (t.rows.getD q []++[c])) (w.drop (k+1)):=by
 rw [Bo hc,splitAt]
def XR(t:AW)(w v:W):Prop:=∃r,(r=[]∨r∈t.rows)∧∃k:Nat,v=r++w.drop k
theorem Qw{c:C}{L:W→Bool}{ok:W→Prop}(hc:JL Tryz.prog TB c L ok)(al:Int)(t:AW)(hf:IN ok (AZ al) t)(ht:GY al 20012 t)(hal:A4 al=true)(hcl:BL L (AZ al) t)(ho:A8 L (AZ al) t=none)(w:W)(hfs:∀v,XR t w v→ok v)(hw:AK (AZ al) w)(hwl:w.length≤20000) :
 Pure Tryz.prog TB 113 [IX al c,DW t,eT w] (Zv (CC L t w)):=by
 have hr:=EO c hc.Cp
 have hrl:=ht.rl
 have hau:=Qd (TB:=TB) hc al t hf ht ho
 have haok:=KI hal hcl hrl
 have hta:=Fj (TB:=TB) (AT L al t) haok
 have hnl:(AT L al t).nx.length=t.rows.length:=by simp [AT]
 have h0:0 < t.rows.length:=(List.getElem?_eq_some_iff.1 hcl.r0).1
 have hokw:=hfs w ⟨[],.inl rfl,0,rfl⟩
 have hpu:([IX al c,DW t].all E.Cp && C.Dr [])=true:=by simp [E.Cp,C.Dr,C.Cp,hc.Cp]
 refine eN Tryz.func113 rfl (by kernel_rfl) rfl ?_;intro Γ hΓ
 (repeat first|refine aU rfl ?_)
 (refine pW rfl ?_ rfl (by rfl);refine Da rfl rfl ?_)
 (refine Ai rfl ?_;refine Bs (fun _ _=>C0 rfl rfl rfl) rfl ?_)
 (repeat first|refine tA rfl ?_ |refine aU rfl ?_ |refine Aa ?_)
 (repeat first|refine tA rfl ?_|(refine Ai rfl ?_;refine gA rfl ?_;first| refine gS (fun _ _=>AO rfl rfl hpu hau rfl) ?_) |refine aU rfl ?_ |refine Aa ?_)
 (repeat first|refine tA rfl ?_ |refine sP rfl (hta) rfl ?_ |refine aU rfl ?_ |refine Aa ?_)
 refine aB ?_
 refine aL (α:={k:Nat // k≤w.length}) [2,3,4,8,9,20] [0,1] rfl rfl (fun ⟨k,hk⟩=>[(10,eI .i64 (runM L t 0 (w.take k):Nat)),(21,eI .i64 k)]) (fun ⟨k,hk⟩=>[]) 2 (fun ⟨k,hk⟩=>w.length - k) (⟨0,by omega⟩) hΓ rfl (by (simp[cX,zC,hΓ,hr]<;>rfl)) ?_;rintro⟨k,hk⟩;(try dsimp only[cA,cB])
 have hrn:=hcl.run (w.take k) 0 (JA hw k) h0
 by_cases hlt:k < w.length
 ·obtain⟨c2,hc2⟩:=get_some hlt
  have hc':w[((k:Nat):Int).toNat]? = some c2:=by simpa using hc2
  have hcm:=hw c2 (List.mem_of_getElem? hc2)
  have hcn:=Ip hcm
  have hla:=Hj (TB:=TB) w k c2 hc' hcn
  have ta:=LF (a:=AT L al t) (q:=(((runM L t 0 (w.take k):Nat):Int)).toNat) (by omega)
  have el:((((c2.toNat:Int) - 97).toNat:Nat):Int)=(c2.toNat:Int) - 97:=by omega
  have ra:=Jh (h:=fun l=>Cy (AT L al t) (((runM L t 0 (w.take k):Nat):Int)).toNat l) hcn.1 (by omega)
  simp only [el] at ra
  have hga:=KU (L:=L) (al:=al) (t:=t) (q:=runM L t 0 (w.take k)) hrn hcm
  have hst:=MH (L:=L) (t:=t) hc2 0
  rw [←hst] at hga
  rw [Int.toNat_natCast,hga] at ra
  (repeat first|refine s2 rfl fun _ _hb=>?_ |refine aU rfl ?_ |refine Aa ?_)
  (refine aC rfl ?_ ?_<;>rintro⟨⟩)
  ·(repeat' first|(refine sA rfl ?_ ?_;first|exact tI|omega) |(refine s4 rfl ‹_› rfl ?_ ?_;omega) |refine sP rfl (hla) rfl ?_|(refine Ai rfl ?_;refine gA rfl ?_;first| refine gS (fun _ _=>Ey rfl ra) ?_) |refine aU rfl ?_ |refine Aa ?_ |refine rE (by kernel_rfl) ?_|(refine aC rfl ?_ ?_<;>rintro⟨⟩)|refine aK ?_|refine aE ?_|refine aB ?_|refine aR ⟨_,rfl,?_⟩)
   refine⟨⟨k+1,by omega⟩,by dsimp only;(omega),[0,1],?_⟩
   simp[cX,zC,hΓ,hr]
  ·exfalso;(simp only[oZ] at *;omega)
 ·obtain rfl : k=w.length:=by omega
  rw [List.take_length] at *
  (repeat first|refine s2 rfl fun _ _hb=>?_ |refine aU rfl ?_ |refine Aa ?_)
  (refine aC rfl ?_ ?_<;>rintro⟨⟩)
  ·exfalso;(simp only[oZ] at *;omega)
  ·refine aE ?_
   have hacx:((AT L al t).ac.map Ib)[(((runM L t 0 w:Nat):Int)).toNat]? = some (Ib (LZ L t w)):=by
    unfold LZ
    simp [AT,List.getD,hrn]
   (repeat first|refine tA rfl ?_ |(refine s4 rfl ‹_› rfl ?_ ?_;omega) |refine s2 rfl fun _ _hb=>?_|(refine Ai rfl ?_;refine gA rfl ?_;first| refine gS (fun _ _=>hc.ask rfl rfl hokw) ?_) |refine aU rfl ?_ |refine Aa ?_)
   (refine aC rfl ?_ ?_<;>rintro⟨⟩)
   ·have hn:CC L t w=none:=by unfold CC;rw [if_pos (by simpa using _hb)]
    (repeat first|refine tA rfl ?_ |refine aU rfl ?_ |refine Aa ?_)
    refine aR ⟨_,rfl,?_⟩
    rw [hn];rfl
   ·have hso:CC L t w=splitAt L t (L w) 0 w:=by unfold CC;rw [if_neg (by simpa using _hb)]
    rw [hso]
    refine aK ?_
    (repeat first|refine tA rfl ?_ |refine aU rfl ?_ |refine Aa ?_)
    refine aB ?_
    refine aL (α:={k:Nat // k≤w.length∧splitAt L t (L w) 0 w=splitAt L t (L w) (runM L t 0 (w.take k)) (w.drop k)}) [2,3,4,9,12,45] [0] rfl rfl (fun ⟨k,hk,he⟩=>[(10,eI .i64 (runM L t 0 (w.take k):Nat)),(46,eI .i64 k)]) (fun ⟨k,hk,he⟩=>[]) 1 (fun ⟨k,hk,he⟩=>w.length - k) (⟨0,by omega,rfl⟩) hΓ rfl (by (simp[cX,zC,hΓ,hr]<;>rfl)) ?_;rintro⟨k,hk,he⟩;(try dsimp only[cA,cB])
    have hrn:=hcl.run (w.take k) 0 (JA hw k) h0
    by_cases hlt:k < w.length
    ·obtain⟨c2,hc2⟩:=get_some hlt
     have hc':w[((k:Nat):Int).toNat]? = some c2:=by simpa using hc2
     have hcm:=hw c2 (List.mem_of_getElem? hc2)
     have hcn:=Ip hcm
     have hla:=Hj (TB:=TB) w k c2 hc' hcn
     have ta:=LF (a:=AT L al t) (q:=(((runM L t 0 (w.take k):Nat):Int)).toNat) (by omega)
     have el:((((c2.toNat:Int) - 97).toNat:Nat):Int)=(c2.toNat:Int) - 97:=by omega
     have ra:=Jh (h:=fun l=>Cy (AT L al t) (((runM L t 0 (w.take k):Nat):Int)).toNat l) hcn.1 (by omega)
     simp only [el] at ra
     have hga:=KU (L:=L) (al:=al) (t:=t) (q:=runM L t 0 (w.take k)) hrn hcm
     have hst:=MH (L:=L) (t:=t) hc2 0
     have hrn2:=hcl.run (w.take (k+1)) 0 (JA hw (k+1)) h0
     rw [Lx hc2,←hst] at he
     rw [←hst] at hga
     rw [Int.toNat_natCast,hga] at ra
     generalize hq2:runM L t 0 (w.take (k+1))=q2 at *
     obtain⟨r2,hr2⟩:=get_some (l:=t.rows) (k:=q2) hrn2
     have hr2':=get_map (g:=Ed) hr2
     have hgd:t.rows.getD q2 []=r2:=by simp [List.getD,hr2]
     rw [hgd] at he
     have hrb:=ht.onR r2 (List.mem_of_getElem? hr2)
     have hdl:(w.drop (k+1)).length=w.length - (k+1):=List.length_drop
     have hokv:=hfs (r2++w.drop (k+1)) ⟨r2,.inr (List.mem_of_getElem? hr2),k+1,rfl⟩
     have hk1:(((k:Nat):Int)+1).toNat=k+1:=by omega
     (repeat first|refine s2 rfl fun _ _hb=>?_ |refine aU rfl ?_ |refine Aa ?_)
     (refine aC rfl ?_ ?_<;>rintro⟨⟩)
     ·refine aK ?_
      refine aS (aB ?_)
      (repeat first|(refine sA rfl ?_ ?_;first|exact tI|omega) |(refine s4 rfl ‹_› rfl ?_ ?_;omega) |refine sP rfl (hla) rfl ?_|(refine Ai rfl ?_;refine gA rfl ?_;first| refine gS (fun _ _=>Ey rfl ra) ?_) |refine aU rfl ?_ |refine Aa ?_ |refine rE (by kernel_rfl) ?_)
      (repeat first| (refine Ai rfl ?_;refine gA rfl ?_;first| refine gS (fun _ _=>Tc rfl rfl (by omega) (by omega)) ?_))
      rw [hk1]
      (repeat first|(refine sA rfl ?_ ?_;first|exact tI|omega) |refine s2 rfl fun _ _hb=>?_|(refine Ai rfl ?_;refine gA rfl ?_;first| refine gS (fun _ _=>hc.ask rfl rfl hokv) ?_) |refine Aa ?_)
      (refine aC rfl ?_ ?_<;>rintro⟨⟩)
      ·rw [if_pos (by simpa using _hb)] at he
       (repeat first|(refine sA rfl ?_ ?_;first|exact tI|omega)|(refine Ai rfl ?_;refine gA rfl ?_;first| refine gS (fun _ _=>Tc rfl rfl (by omega) (by omega)) ?_) |refine aU rfl ?_ |refine Aa ?_)
       refine aR ⟨_,rfl,?_⟩
       rw [hk1,he];rfl
      ·rw [if_neg (by simpa using _hb)] at he
       refine aK ?_
       (repeat first|(refine sA rfl ?_ ?_;first|exact tI|omega) |refine aU rfl ?_ |refine Aa ?_)
       subst hq2
       refine⟨⟨k+1,by omega,he⟩,by dsimp only;(omega),[0],?_⟩
       simp[cX,zC,hΓ,hr]
     ·exfalso;(simp only[oZ] at *;omega)
    ·obtain rfl:k=w.length:=by omega
     rw [List.drop_length] at he
     (repeat first|refine s2 rfl fun _ _hb=>?_ |refine aU rfl ?_ |refine Aa ?_)
     (refine aC rfl ?_ ?_<;>rintro⟨⟩)
     ·exfalso;(simp only[oZ] at *;omega)
     ·refine aE ?_
      (repeat first|refine tA rfl ?_ |refine aU rfl ?_ |refine Aa ?_)
      refine aR ⟨_,rfl,?_⟩
      rw [he];rfl
theorem GY.nv{ok:W→Prop}{al:Int}{t:AW}(ht:GY al 20012 t)(hf:RZ ok al){w:W}(hw:AK (AZ al) w)(hwl:w.length≤20000):∀v,XR t w v→ok v:=by
 rintro v ⟨r,hr,k,rfl⟩
 have h1:AK (AZ al) r∧r.length≤20012:=by
  rcases hr with rfl|hr
  ·exact⟨fun c hc=>by simp at hc,by simp⟩
  ·exact ht.onR r hr
 refine hf _ (fun c hc=>?_) (by simp;omega)
 rcases List.mem_append.1 hc with hc|hc
 ·exact h1.1 c hc
 ·exact fE hw _ c hc
def GS(L:W→Bool)(ls:List UInt8)(t:AW)(w:W):Option AW:=(CC L t w).bind fun v=>(Fu t v).bind fun u=>Bf L ls 13 u
theorem Nu{L:W→Bool}{t:AW}{b:Bool}:∀ {w:W} {q:Nat} {v:W},splitAt L t b q w=some v→∃p,p≠[]∧w=p++v
 | [],q,v,h=>by simp [splitAt] at h
 | c::w,q,v,h=>by
  unfold splitAt at h
  split at h
  ·injection h with h;subst h;exact⟨[c],by simp,rfl⟩
  ·obtain⟨p,_,h2⟩:=Nu h;exact⟨c::p,by simp,by rw [h2];rfl⟩
theorem Iz{L:W→Bool}{t:AW}{w v:W}(h:CC L t w=some v):∃p,p≠[]∧w=p++v:=by
 unfold CC at h
 split at h
 ·cases h
 ·exact Nu h
theorem GY.mono{al:Int}{b b':Nat}{t:AW}(h:GY al b t)(hb:b≤b'):GY al b' t:=⟨fun w hw=>⟨(h.onR w hw).1,Nat.le_trans (h.onR w hw).2 hb⟩,h.onC,h.rl,h.cl⟩
theorem Sb{al:Int}{b:Nat}{t u:AW}{v:W}(h:GY al b t)(hv:AK (AZ al) v)(hl:v.length≤20000)(ha:Fu t v=some u):GY al b u:=by
 unfold Fu at ha
 split at ha
 ·cases ha
 ·rename_i hn
  injection ha with ha
  subst ha
  refine⟨h.onR,fun x hx=>?_,h.rl,?_⟩
  ·rcases List.mem_append.1 hx with hx|hx
   ·exact h.onC x hx
   ·simp at hx;subst hx;exact⟨hv,hl⟩
  ·have:=h.cl
   have h2:t.cols.length≠20:=fun e=>hn (.inl e)
   simp;omega
def XQ(L:W→Bool)(ls:List UInt8)(t:AW)(w v:W):Prop:=MV ls t v∨XR t w v∨∃x,CC L t w=some x∧∃u,Fu t x=some u∧∃y∈EI L ls 13 u,MV ls y v
theorem Qo{c:C}{L:W→Bool}{ok:W→Prop}(hc:JL Tryz.prog TB c L ok)(al:Int)(t:AW)(ht:GY al 20000 t)(hal:A4 al=true)(hcl:BL L (AZ al) t)(ho:A8 L (AZ al) t=none)(w:W)(hf:∀v,XQ L (AZ al) t w v→ok v)(hw:AK (AZ al) w)(hwl:w.length≤20000) :
 Pure Tryz.prog TB 66 [IX al c,DW t,eT w] (IB (GS L (AZ al) t w)):=by
 have hr:=EO c hc.Cp
 have hpu1:([IX al c,DW t,eT w].all E.Cp && C.Dr [])=true:=by simp [E.Cp,C.Dr,C.Cp,hc.Cp]
 have hsp:=Qw (TB:=TB) hc al t (fun v hv=>hf v (.inl hv)) (ht.mono (by omega)) hal hcl ho w (fun v hv=>hf v (.inr (.inl hv))) hw hwl
 have hrl:=ht.rl
 have hcl2:=ht.cl
 rcases hs:CC L t w with _|v
 ·have hn:GS L (AZ al) t w=none:=by unfold GS;rw [hs];rfl
  rw [hn]
  rw [hs] at hsp
  refine AD.Hv (AD.ofM 2 (Nat.le_refl _) Tryz.func66 rfl rfl (by kernel_rfl) (Nat.le_of_ble_eq_true rfl) ?_);intro Γ hΓ
  (repeat first|refine aU rfl ?_)
  (refine pW rfl ?_ rfl (by rfl);refine Da rfl rfl ?_)
  (refine pW rfl ?_ rfl (by rfl);refine Da rfl rfl ?_)
  (repeat first|refine tA rfl ?_ |refine aU rfl ?_ |refine Aa ?_)
  (repeat first|refine tA rfl ?_ |refine s2 rfl fun _ _hb=>?_|(refine Ai rfl ?_;refine gA rfl ?_;first| refine gS (fun _ _=>AO rfl rfl hpu1 hsp rfl) ?_) |refine aU rfl ?_ |refine Aa ?_)
  ((refine aC rfl ?_ ?_<;>rintro⟨⟩);all_goals try (simp at _hb;done))
  (repeat first|refine tA rfl ?_|(refine Ai rfl ?_;refine gA rfl ?_;first| refine gS (fun _ _=>AQ rfl rfl (by rfl) (by rfl)) ?_) |refine aU rfl ?_ |refine Aa ?_)
  refine Au.settle [(6,.o (.ip [.l [],.l []])),(7,eB false)] ⟨⟨_,rfl,.o (.box rfl (.cons .d (.cons .d .nil)))⟩,⟨_,rfl,.o .d⟩,trivial⟩ ?_
  refine aR ⟨_,rfl,rfl⟩
 ·have hsuf:=Iz hs
  have hvw:AK (AZ al) v∧v.length≤20000:=by
   obtain⟨p,_,rfl⟩:=hsuf
   exact⟨fun c hc=>hw c (by simp [hc]),by simp at hwl;omega⟩
  have hac:=Sc (TB:=TB) t v (by omega) (by omega)
  rw [hs] at hsp
  rcases ha:Fu t v with _|u
  ·have hn:GS L (AZ al) t w=none:=by unfold GS;rw [hs];simp [ha]
   rw [hn]
   rw [ha] at hac
   refine AD.Hv (AD.ofM 2 (Nat.le_refl _) Tryz.func66 rfl rfl (by kernel_rfl) (Nat.le_of_ble_eq_true rfl) ?_);intro Γ hΓ
   (repeat first|refine aU rfl ?_)
   (refine pW rfl ?_ rfl (by rfl);refine Da rfl rfl ?_)
   (refine pW rfl ?_ rfl (by rfl);refine Da rfl rfl ?_)
   (repeat first|refine tA rfl ?_ |refine aU rfl ?_ |refine Aa ?_)
   (repeat first|refine tA rfl ?_ |refine s2 rfl fun _ _hb=>?_|(refine Ai rfl ?_;refine gA rfl ?_;first| refine gS (fun _ _=>AO rfl rfl hpu1 hsp rfl) ?_) |refine aU rfl ?_ |refine Aa ?_)
   ((refine aC rfl ?_ ?_<;>rintro⟨⟩);all_goals try (simp at _hb;done))
   refine aK ?_
   (repeat first|refine tA rfl ?_ |refine s2 rfl fun _ _hb=>?_ |refine sP rfl (hac) rfl ?_ |refine aU rfl ?_ |refine Aa ?_)
   ((refine aC rfl ?_ ?_<;>rintro⟨⟩);all_goals try (simp at _hb;done))
   (repeat first|refine tA rfl ?_|(refine Ai rfl ?_;refine gA rfl ?_;first| refine gS (fun _ _=>AQ rfl rfl (by rfl) (by rfl)) ?_) |refine aU rfl ?_ |refine Aa ?_)
   refine Au.settle [(6,.o (.ip [.l [],.l []])),(7,eB false)] ⟨⟨_,rfl,.o (.box rfl (.cons .d (.cons .d .nil)))⟩,⟨_,rfl,.o .d⟩,trivial⟩ ?_
   refine aR ⟨_,rfl,rfl⟩
  ·have hu:=Sb ht hvw.1 hvw.2 ha
   have hct:=IU (TB:=TB) hc al u (fun y hy v hv=>hf v (.inr (.inr ⟨_,hs,_,ha,y,hy,hv⟩))) hu
   have hpu2:([IX al c,DW u].all E.Cp && C.Dr [])=true:=by simp [E.Cp,C.Dr,C.Cp,hc.Cp]
   have hn:GS L (AZ al) t w=Bf L (AZ al) 13 u:=by unfold GS;rw [hs];simp [ha]
   rw [hn]
   rw [ha] at hac
   rcases hcn:Bf L (AZ al) 13 u with _|x
   ·rw [hcn] at hct
    refine AD.Hv (AD.ofM 2 (Nat.le_refl _) Tryz.func66 rfl rfl (by kernel_rfl) (Nat.le_of_ble_eq_true rfl) ?_);intro Γ hΓ
    (repeat first|refine aU rfl ?_)
    (refine pW rfl ?_ rfl (by rfl);refine Da rfl rfl ?_)
    (refine pW rfl ?_ rfl (by rfl);refine Da rfl rfl ?_)
    (repeat first|refine tA rfl ?_ |refine aU rfl ?_ |refine Aa ?_)
    (repeat first|refine tA rfl ?_ |refine s2 rfl fun _ _hb=>?_|(refine Ai rfl ?_;refine gA rfl ?_;first| refine gS (fun _ _=>AO rfl rfl hpu1 hsp rfl) ?_) |refine aU rfl ?_ |refine Aa ?_)
    ((refine aC rfl ?_ ?_<;>rintro⟨⟩);all_goals try (simp at _hb;done))
    refine aK ?_
    (repeat first|refine tA rfl ?_ |refine s2 rfl fun _ _hb=>?_ |refine sP rfl (hac) rfl ?_ |refine aU rfl ?_ |refine Aa ?_)
    ((refine aC rfl ?_ ?_<;>rintro⟨⟩);all_goals try (simp at _hb;done))
    refine aK ?_
    (repeat first|refine tA rfl ?_|(refine Ai rfl ?_;refine gA rfl ?_;first| refine gS (fun _ _=>AO rfl rfl hpu2 hct rfl) ?_) |refine aU rfl ?_ |refine Aa ?_)
    refine Au.settle [(6,.o (.ip [.l [],.l []])),(7,eB false)] ⟨⟨_,rfl,.o (.box rfl (.cons .d (.cons .d .nil)))⟩,⟨_,rfl,.o .d⟩,trivial⟩ ?_
    refine aR ⟨_,rfl,rfl⟩
   ·rw [hcn] at hct
    refine AD.Hv (AD.ofM 2 (Nat.le_refl _) Tryz.func66 rfl rfl (by kernel_rfl) (Nat.le_of_ble_eq_true rfl) ?_);intro Γ hΓ
    (repeat first|refine aU rfl ?_)
    (refine pW rfl ?_ rfl (by rfl);refine Da rfl rfl ?_)
    (refine pW rfl ?_ rfl (by rfl);refine Da rfl rfl ?_)
    (repeat first|refine tA rfl ?_ |refine aU rfl ?_ |refine Aa ?_)
    (repeat first|refine tA rfl ?_ |refine s2 rfl fun _ _hb=>?_|(refine Ai rfl ?_;refine gA rfl ?_;first| refine gS (fun _ _=>AO rfl rfl hpu1 hsp rfl) ?_) |refine aU rfl ?_ |refine Aa ?_)
    ((refine aC rfl ?_ ?_<;>rintro⟨⟩);all_goals try (simp at _hb;done))
    refine aK ?_
    (repeat first|refine tA rfl ?_ |refine s2 rfl fun _ _hb=>?_ |refine sP rfl (hac) rfl ?_ |refine aU rfl ?_ |refine Aa ?_)
    ((refine aC rfl ?_ ?_<;>rintro⟨⟩);all_goals try (simp at _hb;done))
    refine aK ?_
    (repeat first|refine tA rfl ?_|(refine Ai rfl ?_;refine gA rfl ?_;first| refine gS (fun _ _=>AO rfl rfl hpu2 hct rfl) ?_) |refine aU rfl ?_ |refine Aa ?_)
    refine Au.settle [(6,.o (.ip [Ch x.rows,Ch x.cols])),(7,eB true)] ⟨⟨_,rfl,.o (.box rfl (.cons .d (.cons .d .nil)))⟩,⟨_,rfl,.o .d⟩,trivial⟩ ?_
    refine aR ⟨_,rfl,rfl⟩
end Go.Am
namespace Go.Am
open Go
set_option linter.unusedVariables false
def mz:Bool×List C→Option E
 | (false,[c])=>some (.o c)
 | (true,cs)=>some (.a cs)
 | _=>none
def XY(f:Env)(σ:Ab)(t:Tmp)(ag:Bool)(n:Nat):Option (Bool×List C):=match f t with
 | some (.o (.d (.p cs)))=>match Nat.ble n cs.length with
  | true=>some (ag,(cs.take n).map .d)
  | false=>none
 | some (.o (.ptr id k i j))=>match look σ id with
  | some (.cells _ k' rows)=>match Nat.beq k k',nth rows i with
   | true,some r=>match Nat.ble (j+n) r.length with
    | true=>some (ag,(r.drop j).take n)
    | false=>none
   | _,_=>none
  | _=>none
 | _=>none
def ak(T:List (Nat×TI))(f:Env)(σ:Ab):ResultVar→Option (Bool×List C)
 | .tmp t=>match f t with
  | some e=>My e
  | none=>none
 | .cell t T'=>match (JS T T').ld with
  | some (true,n)=>XY f σ t true n
  | some (false,1)=>XY f σ t false 1
  | _=>none
def ao(T:List (Nat×TI))(f:Env)(σ:Ab):List ResultVar→Option (List (Bool×List C))
 | []=>some []
 | r::rs=>match ak T f σ r,ao T f σ rs with
  | some x,some xs=>some (x::xs)
  | _,_=>none
def dE(T:List (Nat×TI))(rs:Array ResultVar)(f:Env)(σ:Ab):Option E:=match rs.toList with
 | []=>some (.t [])
 | [r]=>match ak T f σ r with
  | some x=>mz x
  | none=>none
 | rs=>match rs.length,ao T f σ rs with
  | 2,some xs=>some (.t xs)
  | 3,some xs=>some (.t xs)
  | 4,some xs=>some (.t xs)
  | _,_=>none
def bk(T:List (Nat×TI))(rs:Array ResultVar)(post:E→Ab→Nat→Prop):Exit→Env→Ab→Nat→Prop
 | .ret,f,σ,nx|.normal,f,σ,nx=>∃x,dE T rs f σ=some x∧post x σ nx
 | _,_,_,_=>False
section
variable {P:Program}{TB:Bt}{Γ:Ctx}{σ:Ab}
theorem QH{V:View}{f:Env}{a:Act}{t:Tmp}{T':TypeId}{ag:Bool}{n:Nat}{x:Bool×List C}(hi:Inv TB Γ V σ)(hl:Dt P T' ag n)(h1n:ag=false→n=1)(hE:Ei V f a.tmps)(h:XY f σ t ag n=some x) :
 ∃v,((do loadVar T' (←asAddr (a.tmps.getD t undef))):Sem Value).run P V.w=.ok v V.w∧LY V x v:=by
 have key : ∃ (b o:Nat) (cs:List C) (vs:Nat→Value),a.tmps.getD t undef=.pointer (some ⟨b,o,none⟩)∧x=(ag,cs)∧cs.length=n∧∀(q:Nat) (c:C),cs[q]? = some c→V.w.cell? ⟨b,o+q,none⟩=some (vs q)∧AB V c (vs q):=by
  unfold XY at h
  split at h
  ·rename_i ds hf
   split at h
   ·rename_i hn
    have hn:=Nat.le_of_ble_eq_true hn
    injection h with h
    subst h
    have h3:AB V (.d (.p ds)) (a.tmps.getD t undef):=hE t _ hf
    generalize a.tmps.getD t undef=v0 at h3
    obtain⟨h3⟩:=h3
    cases h3 with
    | @p _ b o vs hb h1 h2=>
     refine⟨b,o,_,vs,rfl,rfl,by simp;omega,fun q c hq=>?_⟩
     rw [List.getElem?_map,Option.map_eq_some_iff] at hq
     obtain⟨dd,hd,rfl⟩:=hq
     rw [List.getElem?_take] at hd
     split at hd
     ·exact⟨h1 q dd hd,.d (h2 q dd hd)⟩
     ·cases hd
   ·cases h
  ·rename_i id k i j hf
   split at h
   ·rename_i T0 k' rows ho
    split at h
    ·rename_i r hk hr
     have hk:=Nat.eq_of_beq_eq_true hk
     subst hk
     split at h
     ·rename_i hn
      have hn:=Nat.le_of_ble_eq_true hn
      injection h with h
      subst h
      rw [Od] at hr
      have h3:AB V (.ptr id k i j) (a.tmps.getD t undef):=hE t _ hf
      generalize a.tmps.getD t undef=v0 at h3
      cases h3 with
      | ptr hid hnl=>
       rcases hi.st.obj id _ ho with ⟨h4,_⟩|⟨_,cur,h4,h5,h6,h7,h8,h9⟩
       ·exact absurd h4 hnl
       ·refine⟨V.ρ id,i*k+j,_,fun q=>cur.getD (i*k+j+q) undef,rfl,rfl,by simp;omega,fun q c hq=>?_⟩
        rw [List.getElem?_take] at hq
        split at hq
        ·rw [List.getElem?_drop] at hq
         obtain⟨v,h10,h11⟩:=h9 i r (j+q) c hr hq
         rw [←Nat.add_assoc] at h10
         have e:cur.getD (i*k+j+q) undef=v:=by simp [h10]
         dsimp only
         rw [e]
         exact⟨by simp [World.cell?,h4,h10],h11⟩
        ·cases hq
     ·cases h
    ·cases h
   ·cases h
  ·cases h
 obtain⟨b,o,cs,vs,hv,rfl,hlen,hc⟩:=key
 rw [hv]
 cases ag with
 | false=>
  have hn1:=h1n rfl
  subst hn1
  match cs,hlen with
  | [c],_=>
   obtain⟨h1,h2⟩:=hc 0 c rfl
   refine⟨vs 0,?_,c,rfl,h2⟩
   rw [Nat.add_zero] at h1
   simp [asAddr,loadVar,(BG hl.out V.w).1,h1,go_sem]
 | true =>
  refine⟨.agg ((List.range n).map fun q=>vs q).toArray,?_,_,rfl,by simp [hlen],fun j c v hj hvv=>?_⟩
  ·have:(loadCells ⟨b,o,none⟩ n).run P V.w=.ok ((List.range n).map fun q=>vs q).toArray V.w:=run_loadCells V.w _ n _ fun q hq=>by
    rw [BE]
    exact(hc q cs[q] (List.getElem?_eq_getElem (by omega))).1
   unfold loadCells at this
   simp [asAddr,loadVar,(BG hl.out V.w).1,(BG hl.out V.w).2,this,go_sem]
  ·have hq:j < n:=by have:=(List.getElem?_eq_some_iff.1 hj).1;omega
   have:v=vs j:=by simpa [hq] using hvv.symm
   subst this
   exact(hc j c hj).2
theorem dD[hT:C5 P]{V:View}{f:Env}{a:Act}{r:ResultVar}{x:Bool×List C}(hi:Inv TB Γ V σ)(hE:Ei V f a.tmps)(h:ak hT.T f σ r=some x) :
 ∃v,((match r with
  | .tmp t=>pure (a.tmps.getD t undef)
  | .cell b t=>do loadVar t (←asAddr (a.tmps.getD b undef))):Sem Value).run P V.w=.ok v V.w∧LY V x v:=by
 have hty:=fun t=>DU (P:=P) t hT.ok
 unfold ak at h
 split at h
 ·rename_i t
  split at h
  ·rename_i e he
   exact⟨_,by simp [go_sem],FF h (hE t e he)⟩
  ·cases h
 ·rename_i t T'
  split at h
  ·rename_i n hl
   exact QH hi ((hty T').Nf hl) (fun h=>(by cases h)) hE h
  ·rename_i hl
   exact QH hi ((hty T').Nf hl) (fun _=>rfl) hE h
  ·cases h
theorem gD{V:View}{x:Bool×List C}{e:E}{v:Value}(h:mz x=some e)(hr:LY V x v):Bd V e v:=by
 unfold mz at h
 split at h
 ·injection h with h;subst h
  obtain⟨c,h1,h2⟩:=hr
  simp at h1;subst h1;exact h2
 ·injection h with h;subst h;exact hr
 ·cases h
theorem dF[hT:C5 P]{fn:Func}{V:View}{f:Env}{a:Act}{x:E}(hi:Inv TB Γ V σ)(hE:Ei V f a.tmps)(h:dE hT.T fn.results f σ=some x):∃v,(results fn a.tmps).run P V.w=.ok v V.w∧Bd V x v:=by
 obtain⟨F,hF,hFr⟩:∃F:ResultVar→Sem Value,results fn a.tmps=(do let vs ←fn.results.mapM F;pure (if h:vs.size=1 then vs[0] else .tuple vs))∧∀r x,ak hT.T f σ r=some x→∃v,(F r).run P V.w=.ok v V.w∧LY V x v:=
  ⟨fun r=>match r with
   | .tmp t=>pure (a.tmps.getD t undef)
   | .cell b t=>do loadVar t (←asAddr (a.tmps.getD b undef)),rfl,fun r x hr=>dD hi hE hr⟩
 have two:∀ {r:ResultVar} {rs:List ResultVar} {xs:List (Bool×List C)},ao hT.T f σ (r::rs)=some xs→∃y ys,xs=y::ys∧ak hT.T f σ r=some y∧ao hT.T f σ rs=some ys:=by
  intro r rs xs h
  unfold ao at h
  split at h
  ·rename_i y ys h1 h2
   injection h with h;subst h;exact⟨y,ys,rfl,h1,h2⟩
  ·cases h
 have nil:∀ {xs:List (Bool×List C)},ao hT.T f σ []=some xs→xs=[]:=fun h=>by injection h with h;exact h.symm
 have key:∀l:List ResultVar,fn.results=l.toArray→dE hT.T l.toArray f σ=some x→∃v,(results fn a.tmps).run P V.w=.ok v V.w∧Bd V x v:=by
  intro l hll h
  rw [hF,hll]
  unfold dE at h
  simp only at h
  match l with
  | []=>
   injection h with h;subst h
   exact⟨.tuple #[],by simp [go_sem],#[],rfl,rfl,fun j x v hj=>by simp at hj⟩
  | [r]=>
   simp only at h
   split at h
   ·rename_i y hy
    obtain⟨v,h1,h2⟩:=hFr r y hy
    exact⟨v,by simp [h1,go_sem],gD h h2⟩
   ·cases h
  | [r1,r2]=>
   simp only [List.length_cons,List.length_nil] at h
   split at h
   ·rename_i xs _ hx
    injection h with h;subst h
    obtain⟨y1,ys,rfl,h1,hx⟩:=two hx
    obtain⟨y2,ys,rfl,h2,hx⟩:=two hx
    have:=nil hx;subst this
    obtain⟨v1,e1,t1⟩:=hFr _ _ h1
    obtain⟨v2,e2,t2⟩:=hFr _ _ h2
    refine⟨.tuple #[v1,v2],by simp [e1,e2,go_sem],_,rfl,rfl,fun j x v' hj hv=>?_⟩
    match j with
    | 0=>simp at hj hv;subst hj;subst hv;exact t1
    | 1=>simp at hj hv;subst hj;subst hv;exact t2
    | j+2=>simp at hj
   ·omega
   ·omega
   ·cases h
  | [r1,r2,r3]=>
   simp only [List.length_cons,List.length_nil] at h
   split at h
   ·omega
   ·rename_i xs _ hx
    injection h with h;subst h
    obtain⟨y1,ys,rfl,h1,hx⟩:=two hx
    obtain⟨y2,ys,rfl,h2,hx⟩:=two hx
    obtain⟨y3,ys,rfl,h3,hx⟩:=two hx
    have:=nil hx;subst this
    obtain⟨v1,e1,t1⟩:=hFr _ _ h1
    obtain⟨v2,e2,t2⟩:=hFr _ _ h2
    obtain⟨v3,e3,t3⟩:=hFr _ _ h3
    refine⟨.tuple #[v1,v2,v3],by simp [e1,e2,e3,go_sem],_,rfl,rfl,fun j x v' hj hv=>?_⟩
    match j with
    | 0=>simp at hj hv;subst hj;subst hv;exact t1
    | 1=>simp at hj hv;subst hj;subst hv;exact t2
    | 2=>simp at hj hv;subst hj;subst hv;exact t3
    | j+3=>simp at hj
   ·omega
   ·cases h
  | [r1,r2,r3,r4]=>
   simp only [List.length_cons,List.length_nil] at h
   split at h
   ·omega
   ·omega
   ·rename_i xs _ hx
    injection h with h;subst h
    obtain⟨y1,ys,rfl,h1,hx⟩:=two hx
    obtain⟨y2,ys,rfl,h2,hx⟩:=two hx
    obtain⟨y3,ys,rfl,h3,hx⟩:=two hx
    obtain⟨y4,ys,rfl,h4,hx⟩:=two hx
    have:=nil hx;subst this
    obtain⟨v1,e1,t1⟩:=hFr _ _ h1
    obtain⟨v2,e2,t2⟩:=hFr _ _ h2
    obtain⟨v3,e3,t3⟩:=hFr _ _ h3
    obtain⟨v4,e4,t4⟩:=hFr _ _ h4
    refine⟨.tuple #[v1,v2,v3,v4],by simp [e1,e2,e3,e4,go_sem],_,rfl,rfl,fun j x v' hj hv=>?_⟩
    match j with
    | 0=>simp at hj hv;subst hj;subst hv;exact t1
    | 1=>simp at hj hv;subst hj;subst hv;exact t2
    | 2=>simp at hj hv;subst hj;subst hv;exact t3
    | 3=>simp at hj hv;subst hj;subst hv;exact t4
    | j+4=>simp at hj
   ·cases h
  | _::_::_::_::_::_=>
   simp only [List.length_cons] at h
   cases h
 exact key fn.results.toList (by simp) (by simpa using h)
theorem AD.P6 [hT:C5 P] {g:FuncId} {fn:Func} {c:Code} {m:Nat} {σ:Ab} {nx:Nat} {args:List E} {post:E→Ab→Nat→Prop} (hm:m≤nx) (hf:P.funcs[g]? = some fn) (hb:fn.body=some c) (hname:(fn.name == "runtime.NumGoroutine")=false)
 (hargs:args.length≤fn.ntmps) (h:∀Γ:Ctx,Γ.V.nx=m→Au P TB Γ fn.ntmps c (bk hT.T fn.results post) (look (Ce 0 args)) σ nx):AD P TB g m σ nx args post:=by
 refine⟨⟨fn,hf,hname,by rw [hb];rfl⟩,?_⟩
 intro V vs S hg ha
 refine calls_of_wp hf hb ?_
 have hs:vs.size≤fn.ntmps:=by rw [ha.1];exact hargs
 have hi:Inv TB (EY V (Kk V m) σ S) V σ:=
  ⟨rfl,rfl,rfl,fun _ _ _=>rfl,hg.iLt,fun _ h=>.inl h,Yy (by rw [hg.nx];exact hm),hg.st,fun id o ho hnl b hb=>.inr (.inl ⟨id,o,ho,hnl,hb⟩),hg.tabs,⟨S,hg.hid,fun b hb=>.inl hb,fun b hb=>.inr (.inr hb)⟩⟩
 have hr:Ci TB (EY V (Kk V m) σ S) fn.ntmps V (look (Ce 0 args)) σ nx { tmps:=vs++Array.replicate (fn.ntmps - vs.size) undef,defers:=[] } := by
  refine⟨?_,?_,by simp;omega,hi,hg.nx,rfl⟩
  ·intro t e he
   obtain⟨_,h2⟩:=BZ args 0 t e he
   have h2:args[t]? = some e:=by simpa using h2
   have hlt:t < vs.size:=by rw [ha.1];exact(List.getElem?_eq_some_iff.1 h2).1
   have h3:=ha.2 t e vs[t] h2 (Array.getElem?_eq_getElem hlt)
   simpa [Array.getElem?_append_left hlt,hlt] using h3
  ·intro t e he
   obtain⟨_,h2⟩:=BZ args 0 t e he
   have h2:args[t]? = some e:=by simpa using h2
   have:=(List.getElem?_eq_some_iff.1 h2).1
   omega
 refine wp_mono (h (EY V (Kk V m) σ S) rfl V _ hr) ?_
 rintro e a' w' ⟨V',f',σ',rfl,hq,hr'⟩
 have fin:(∃x,dE hT.T fn.results f' σ'=some x∧post x σ' V'.nx)→a'.defers=[]∧∃v,(results fn a'.tmps).run P V'.w=.ok v V'.w∧∃V'' v' x σ'',Ending.returned v=.returned v'∧V''.w=V'.w∧Inv TB (EY V (Kk V m) σ S) V'' σ''∧Bd V'' x v'∧post x σ'' V''.nx:=by
  rintro⟨x,hx,hp⟩
  obtain⟨v,hv,he⟩:=dF (P:=P) hr'.inv hr'.env hx
  exact⟨hr'.defers,v,hv,V',v,x,σ',rfl,rfl,hr'.inv,he,hp⟩
 cases e with
 | normal=>exact fin hq
 | ret=>exact fin hq
 | exit id=>exact hq.elim
 | goto l=>exact hq.elim
 | panic ch=>exact hq.elim
 | outgrown=>exact hq.elim
theorem eG [hT:C5 P] {g:FuncId} {fn:Func} {c:Code} {nx:Nat} {args:List E} {post:E→Ab→Nat→Prop} (hf:P.funcs[g]? = some fn) (hb:fn.body=some c) (hname:(fn.name == "runtime.NumGoroutine")=false)
 (ha:Nat.ble args.length fn.ntmps=true) (h:∀Γ:Ctx,Γ.V.nx=nx→Au P TB Γ fn.ntmps c (bk hT.T fn.results post) (look (Ce 0 args)) σ nx):Spec P TB g σ nx args post:=
 AD.Hv (AD.P6 (Nat.le_refl _) hf hb hname (Nat.le_of_ble_eq_true ha) h)
end
end Go.Am
namespace Go.Am
open Go Go.Proofs
set_option maxHeartbeats 1000000
attribute [local irreducible] AS BT Lex Bc Au Spec
variable {TB:Bt}
abbrev mV(kn:Bool)(p:AU)(s:Sys)(q:AU)(al:Int):E:=.a ((ei kn p s q al).map .d)
abbrev TV:AU:=⟨0,[],[]⟩
theorem Jv(w:W)(i:Nat)(c:UInt8)(hc:w[((i:Nat):Int).toNat]? = some c):Pure Tryz.prog TB 179 [eT w,eI .i64 i] (eI .i64 ((c.toNat:Int) - 97)):=by
 have hb:=c.toNat_lt
 refine eN Tryz.func179 rfl (by kernel_rfl) rfl ?_;intro Γ hΓ
 (repeat' first|(refine sA rfl ?_ ?_;first|exact tI|omega) |(refine s4 rfl ‹_› rfl ?_ ?_;omega) |refine aU rfl ?_ |refine Aa ?_|(refine aC rfl ?_ ?_<;>rintro⟨⟩)|refine aK ?_|refine aE ?_|refine aB ?_|refine aR ⟨_,rfl,?_⟩)
 rfl
theorem Uw(n:Int)(h0:0≤n)(h1:n < 16):Pure Tryz.prog TB 117 [eI .i64 n] (eI .i64 ((2 ^ n.toNat:Nat):Int)):=by
 refine eN Tryz.func117 rfl (by kernel_rfl) rfl ?_;intro Γ hΓ
 (repeat' first|(refine sA rfl ?_ ?_;first|exact tI|omega)|(refine Ai rfl ?_;refine gA rfl ?_;first| refine gS (fun _ _=>dw rfl rfl h0 (Y3 h0 h1)) ?_) |refine aU rfl ?_ |refine Aa ?_|(refine aC rfl ?_ ?_<;>rintro⟨⟩)|refine aK ?_|refine aE ?_|refine aB ?_|refine aR ⟨_,rfl,?_⟩)
 rfl
theorem Fw{c:UInt8}:Gb c=decide (0≤(c.toNat:Int) - 97∧(c.toNat:Int) - 97 < 6):=by
 unfold Gb
 rw [Bool.eq_iff_iff,decide_eq_true_eq,decide_eq_true_eq]
 omega
theorem LP(w:W)(hl:w.length≤1099511627776):Pure Tryz.prog TB 177 [eT w] (eB (Ev w)):=by
 by_cases h5:w.length≤50000
 ·have hwk : Ev w=w.all Gb:=by unfold Ev;simp [h5]
  rw [hwk]
  refine eN Tryz.func177 rfl (by kernel_rfl) rfl ?_;intro Γ hΓ
  (repeat first|refine tA rfl ?_ |refine s2 rfl fun _ _hb=>?_ |refine aU rfl ?_ |refine Aa ?_)
  (refine aC rfl ?_ ?_<;>rintro⟨⟩)
  ·exfalso;(simp only[oZ] at *;omega)
  refine aK ?_
  (repeat first|refine tA rfl ?_ |refine aU rfl ?_ |refine Aa ?_)
  refine aB ?_
  refine aL (α:={k:Nat // k≤w.length∧(w.take k).all Gb=true}) [0] [] rfl rfl (fun ⟨k,hk,ha⟩=>[(3,eI .i64 k)]) (fun ⟨k,hk,ha⟩=>[]) 0 (fun ⟨k,hk,ha⟩=>w.length - k) (⟨0,by omega,rfl⟩) hΓ rfl (by (simp[cX,zC,hΓ])) ?_;rintro⟨k,hk,ha⟩;(try dsimp only[cA,cB])
  by_cases hlt:k < w.length
  ·obtain⟨c,hc⟩:=get_some hlt
   have hc':w[((k:Nat):Int).toNat]? = some c:=by simpa using hc
   have hla:=Jv (TB:=TB) w k c hc'
   have hcn:=Fw (c:=c)
   by_cases hcc:Gb c=true
   ·have hst:=Gu hc ha hcc
    rw [hcn] at hcc
    simp only [decide_eq_true_eq] at hcc
    (repeat first|refine tA rfl ?_ |refine s2 rfl fun _ _hb=>?_ |refine aU rfl ?_ |refine Aa ?_)
    (refine aC rfl ?_ ?_<;>rintro⟨⟩)
    ·(repeat' first|(refine sA rfl ?_ ?_;first|exact tI|omega) |refine s2 rfl fun _ _hb=>?_ |refine sP rfl (hla) rfl ?_ |refine s3 rfl ?_ ?_<;>rintro rfl |refine aU rfl ?_ |refine Aa ?_|(refine aC rfl ?_ ?_<;>rintro⟨⟩)|refine aK ?_|refine aE ?_|refine aB ?_|refine aR ⟨_,rfl,?_⟩)
     ·exfalso;(simp only[oZ] at *;omega)
     ·exfalso;(simp only[oZ] at *;omega)
     ·refine⟨⟨k+1,by omega,hst⟩,by dsimp only;(omega),[],?_⟩
      simp[cX,zC,hΓ]
    ·exfalso;(simp only[oZ] at *;omega)
   ·have hst:=Ia hc (f:=Gb) (by simpa using hcc)
    rw [hcn] at hcc
    simp only [decide_eq_true_eq] at hcc
    (repeat first|refine tA rfl ?_ |refine s2 rfl fun _ _hb=>?_ |refine aU rfl ?_ |refine Aa ?_)
    (refine aC rfl ?_ ?_<;>rintro⟨⟩)
    ·(repeat' first|(refine sA rfl ?_ ?_;first|exact tI|omega) |refine s2 rfl fun _ _hb=>?_ |refine sP rfl (hla) rfl ?_ |refine s3 rfl ?_ ?_<;>rintro rfl |refine aU rfl ?_ |refine Aa ?_|(refine aC rfl ?_ ?_<;>rintro⟨⟩)|refine aK ?_|refine aE ?_|refine aB ?_|refine aR ⟨_,rfl,?_⟩)
     ·rw [hst]
     ·rw [hst]
     ·exfalso;(simp only[oZ] at *;omega)
    ·exfalso;(simp only[oZ] at *;omega)
  ·have hd:=Gt ha (show w.length≤k by omega)
   (repeat first|refine tA rfl ?_ |refine s2 rfl fun _ _hb=>?_ |refine aU rfl ?_ |refine Aa ?_)
   (refine aC rfl ?_ ?_<;>rintro⟨⟩)
   ·exfalso;(simp only[oZ] at *;omega)
   ·(repeat' first|refine tA rfl ?_ |refine aU rfl ?_ |refine Aa ?_|(refine aC rfl ?_ ?_<;>rintro⟨⟩)|refine aK ?_|refine aE ?_|refine aB ?_|refine aR ⟨_,rfl,?_⟩)
    rw [hd]
 ·have hwk:Ev w=false:=by unfold Ev;simp [h5]
  rw [hwk]
  refine eN Tryz.func177 rfl (by kernel_rfl) rfl ?_;intro Γ hΓ
  (repeat first|refine tA rfl ?_ |refine s2 rfl fun _ _hb=>?_ |refine aU rfl ?_ |refine Aa ?_)
  (refine aC rfl ?_ ?_<;>rintro⟨⟩)
  ·(repeat' first|refine tA rfl ?_ |refine aU rfl ?_ |refine Aa ?_|(refine aC rfl ?_ ?_<;>rintro⟨⟩)|refine aK ?_|refine aE ?_|refine aB ?_|refine aR ⟨_,rfl,?_⟩)
   rfl
  ·exfalso;(simp only[oZ] at *;omega)
abbrev mJ(n:Int)(b:Bool):E:=.t [(false,[.d (iD n)]),(false,[.d (bD b)])]
theorem aD{w:W}{k:Nat}{c:UInt8}(hc:w[k]? = some c):Kw (w.take (k+1))=Kw (w.take k) ||| 2 ^ (c.toNat - 97):=by
 unfold Kw
 rw [List.take_add_one,hc];simp
theorem Qc(w:W)(hl:w.length≤1099511627776):Pure Tryz.prog TB 212 [eT w] (if Ev w then mJ (Kw w:Nat) true else mJ 0 false):=by
 have hwv:=LP (TB:=TB) w hl
 by_cases hok:Ev w=true
 ·have hok2:=hok
  unfold Ev at hok2
  simp only [Bool.and_eq_true,decide_eq_true_eq] at hok2
  rw [if_pos hok]
  refine eN Tryz.func212 rfl (by kernel_rfl) rfl ?_;intro Γ hΓ
  (repeat first|refine tA rfl ?_ |refine s2 rfl fun _ _hb=>?_ |(refine sC rfl (hwv) ?_;intro _ _hb) |refine aU rfl ?_ |refine Aa ?_)
  (refine aC rfl ?_ ?_<;>rintro⟨⟩)
  ·exfalso;simp at *;grind
  refine aK ?_
  (repeat first|refine tA rfl ?_ |refine aU rfl ?_ |refine Aa ?_)
  refine aB ?_
  refine aL (α:={k:Nat // k≤w.length}) [0] [] rfl rfl (fun ⟨k,hk⟩=>[(4,eI .i64 (Kw (w.take k):Nat)),(5,eI .i64 k)]) (fun ⟨k,hk⟩=>[]) 0 (fun ⟨k,hk⟩=>w.length - k) (⟨0,by omega⟩) hΓ rfl (by (simp[cX,zC,hΓ]<;>rfl)) ?_;rintro⟨k,hk⟩;(try dsimp only[cA,cB])
  by_cases hlt:k < w.length
  ·obtain⟨c,hc⟩:=get_some hlt
   have hc':w[((k:Nat):Int).toNat]? = some c:=by simpa using hc
   have hla:=Jv (TB:=TB) w k c hc'
   have hcc:=(List.all_eq_true.1 hok2.2) c (List.mem_of_getElem? hc)
   rw [Fw,decide_eq_true_eq] at hcc
   have hbt:=Uw (TB:=TB) ((c.toNat:Int) - 97) hcc.1 (by omega)
   have hst:=aD hc
   have hs1:Kw (w.take k) < 64:=Tm (by rw [List.all_eq_true];exact fun x hx=>(List.all_eq_true.1 hok2.2) x (List.mem_of_mem_take hx)) (by omega)
   have ht:((c.toNat:Int) - 97).toNat=c.toNat - 97:=by omega
   have h26:2 ^ (c.toNat - 97) < 2 ^ 6:=Nat.pow_lt_pow_right (by omega) (by omega)
   have hor:=(KZ hs1 h26).1
   rw [←hst] at hor
   rw [ht] at hbt
   (repeat first|refine tA rfl ?_ |refine s2 rfl fun _ _hb=>?_ |refine aU rfl ?_ |refine Aa ?_)
   (refine aC rfl ?_ ?_<;>rintro⟨⟩)
   ·(repeat' first|(refine sA rfl ?_ ?_;first|exact tI|omega) |refine sP rfl (hla) rfl ?_|refine sP rfl (hbt) rfl ?_ |refine aU rfl ?_ |refine Aa ?_|(refine aC rfl ?_ ?_<;>rintro⟨⟩)|refine aK ?_|refine aE ?_|refine aB ?_|refine aR ⟨_,rfl,?_⟩)
    rw [hor]
    refine⟨⟨k+1,by omega⟩,by dsimp only;(omega),[],?_⟩
    simp[cX,zC,hΓ]
   ·exfalso;(simp only[oZ] at *;omega)
  ·obtain rfl:k=w.length:=by omega
   rw [List.take_length]
   (repeat first|refine tA rfl ?_ |refine s2 rfl fun _ _hb=>?_ |refine aU rfl ?_ |refine Aa ?_)
   (refine aC rfl ?_ ?_<;>rintro⟨⟩)
   ·exfalso;(simp only[oZ] at *;omega)
   ·(repeat' first|refine tA rfl ?_ |refine aU rfl ?_ |refine Aa ?_|(refine aC rfl ?_ ?_<;>rintro⟨⟩)|refine aK ?_|refine aE ?_|refine aB ?_|refine aR ⟨_,rfl,?_⟩)
    rfl
 ·rw [if_neg hok]
  refine eN Tryz.func212 rfl (by kernel_rfl) rfl ?_;intro Γ hΓ
  (repeat first|refine tA rfl ?_ |refine s2 rfl fun _ _hb=>?_ |(refine sC rfl (hwv) ?_;intro _ _hb) |refine aU rfl ?_ |refine Aa ?_)
  (refine aC rfl ?_ ?_<;>rintro⟨⟩)
  ·(repeat' first|refine tA rfl ?_ |refine aU rfl ?_ |refine Aa ?_|(refine aC rfl ?_ ?_<;>rintro⟨⟩)|refine aK ?_|refine aE ?_|refine aB ?_|refine aR ⟨_,rfl,?_⟩)
   rfl
  ·exfalso;simp at *;grind
theorem Ef(w:W)(al:Int)(hl:w.length≤1099511627776):Pure Tryz.prog TB 180 [eT w,eI .i64 al] (eB (within w al)):=by
 have h1:=Qc (TB:=TB) w hl
 have h2:=DZ (TB:=TB) al
 by_cases hok:Ev w=true
 ·rw [if_pos hok] at h1
  unfold Ev at hok
  simp only [Bool.and_eq_true,decide_eq_true_eq] at hok
  have hw:within w al=(A4 al && w.all (Ik al)):=by unfold within;simp [hok.1]
  rw [hw]
  refine eN Tryz.func180 rfl (by kernel_rfl) rfl ?_;intro Γ hΓ
  (repeat' first|refine tA rfl ?_ |refine s2 rfl fun _ _hb=>?_ |refine sP rfl (h1) rfl ?_|(refine sC rfl (h2) ?_;intro _ _hb) |refine s3 rfl ?_ ?_<;>rintro rfl |refine aU rfl ?_ |refine Aa ?_|(refine aC rfl ?_ ?_<;>rintro⟨⟩)|refine aK ?_|refine aE ?_|refine aB ?_|refine aR ⟨_,rfl,?_⟩)
  all_goals first
   | (show E.o _=E.o _;congr;grind)
   | (rename_i ha b;rw [gd hok.2 ha] at _hb;show E.o _=E.o _;rw [ha,_hb];rfl)
 ·rw [if_neg hok] at h1
  have hw:within w al=false:=by
   rw [Bool.eq_false_iff]
   intro h
   unfold within at h
   simp only [Bool.and_eq_true,decide_eq_true_eq] at h
   exact hok (by unfold Ev;simp [h.1,XC h.2.2])
  rw [hw]
  refine eN Tryz.func180 rfl (by kernel_rfl) rfl ?_;intro Γ hΓ
  (repeat' first|refine tA rfl ?_ |refine sP rfl (h1) rfl ?_|(refine sC rfl (h2) ?_;intro _ _hb) |refine aU rfl ?_ |refine Aa ?_|(refine aC rfl ?_ ?_<;>rintro⟨⟩)|refine aK ?_|refine aE ?_|refine aB ?_|refine aR ⟨_,rfl,?_⟩)
  all_goals rfl
theorem Eu{w:W}{al:Int}(h:within w al=true):AK (AZ al) w:=by
 unfold within at h
 simp only [Bool.and_eq_true,decide_eq_true_eq] at h
 intro c hc
 have h1:=(List.all_eq_true.1 h.2.2) c hc
 unfold Ik Gb at h1
 simp only [Bool.and_eq_true,decide_eq_true_eq] at h1
 refine List.mem_map.2 ⟨((c.toNat - 97:Nat):Int),D0.2 ⟨by omega,h1.2⟩,?_⟩
 unfold lb
 have e:97+((c.toNat - 97:Nat):Int).toNat=c.toNat:=by omega
 rw [e]
 simp
theorem GF{w:W}{al:Int}(h:AK (AZ al) w)(hl:w.length≤50000)(ha:A4 al=true):within w al=true:=by
 unfold within
 simp only [Bool.and_eq_true,decide_eq_true_eq]
 refine⟨hl,ha,List.all_eq_true.2 fun c hc=>?_⟩
 obtain⟨l,hm,rfl⟩:=List.mem_map.1 (h c hc)
 have h1:=Ak hm
 have h2:=Mt h1.1 (by omega)
 unfold Ik Gb
 simp only [Bool.and_eq_true,decide_eq_true_eq]
 have e:(lb l).toNat - 97=l.toNat:=by omega
 rw [e]
 exact⟨by omega,h1.2.2⟩
theorem cq{p:AU}(hp:AN p=true)(w:W)(hw:AK (AZ p.al) w)(hl:w.length≤1099511627776):Pure Tryz.prog TB 225 [Bp p,eI .i64 0,eT w] (eI .i64 (Fh p 0 w)):=by
 have hph:=AG hp
 refine eN Tryz.func225 rfl (by kernel_rfl) rfl ?_;intro Γ hΓ
 (repeat first|refine tA rfl ?_ |refine aU rfl ?_ |refine Aa ?_)
 refine aB ?_
 refine aL (α:={k:Nat // k≤w.length}) [2,3] [] rfl rfl (fun ⟨k,hk⟩=>[(1,eI .i64 (Fh p 0 (w.take k))),(7,eI .i64 k)]) (fun ⟨k,hk⟩=>[]) 0 (fun ⟨k,hk⟩=>w.length - k) (⟨0,by omega⟩) hΓ rfl (by (simp[cX,zC,hΓ]<;>rfl)) ?_;rintro⟨k,hk⟩;(try dsimp only[cA,cB])
 have hr:=Tk hp (w.take k) 0 (JA hw k) (by omega)
 by_cases hlt:k < w.length
 ·obtain⟨c,hc⟩:=get_some hlt
  have hc':w[((k:Nat):Int).toNat]? = some c:=by simpa using hc
  have hcl:=Ip (hw c (List.mem_of_getElem? hc))
  have hla:=Jv (TB:=TB) w k c hc'
  have hgo:=Jw (TB:=TB) p hp (Fh p 0 (w.take k)).toNat (by omega) ((c.toNat:Int) - 97) hcl.1 hcl.2
  have e:(((Fh p 0 (w.take k)).toNat:Nat):Int)=Fh p 0 (w.take k):=by omega
  rw [e] at hgo
  have hst:=aw (p:=p) hc 0
  rw [←hst] at hgo
  (repeat first|refine tA rfl ?_ |refine s2 rfl fun _ _hb=>?_ |refine aU rfl ?_ |refine Aa ?_)
  (refine aC rfl ?_ ?_<;>rintro⟨⟩)
  ·(repeat' first|(refine sA rfl ?_ ?_;first|exact tI|omega) |refine sP rfl (hla) rfl ?_|refine sP rfl (hgo) rfl ?_ |refine aU rfl ?_ |refine Aa ?_ |refine rE (by kernel_rfl) ?_|(refine aC rfl ?_ ?_<;>rintro⟨⟩)|refine aK ?_|refine aE ?_|refine aB ?_|refine aR ⟨_,rfl,?_⟩)
   refine⟨⟨k+1,by omega⟩,by dsimp only;(omega),[],?_⟩
   simp[cX,zC,hΓ]
  ·exfalso;(simp only[oZ] at *;omega)
 ·obtain rfl:k=w.length:=by omega
  rw [List.take_length]
  (repeat first|refine tA rfl ?_ |refine s2 rfl fun _ _hb=>?_ |refine aU rfl ?_ |refine Aa ?_)
  (refine aC rfl ?_ ?_<;>rintro⟨⟩)
  ·exfalso;(simp only[oZ] at *;omega)
  ·(repeat' first|refine tA rfl ?_ |refine aU rfl ?_ |refine Aa ?_|(refine aC rfl ?_ ?_<;>rintro⟨⟩)|refine aK ?_|refine aE ?_|refine aB ?_|refine aR ⟨_,rfl,?_⟩)
   rfl
def Gg(p:AU)(w:W):Int:=if AN p && within w p.al then Fh p 0 w else -1
def P9(p:AU)(w:W):Bool:=AN p && (within w p.al && LA p w)
theorem Qy(p:AU)(w:W)(hl:w.length≤1099511627776):Pure Tryz.prog TB 219 [Bp p,eT w] (eI .i64 (Gg p w)):=by
 have h1:=Bk (TB:=TB) p
 have h2:=Ef (TB:=TB) w p.al hl
 by_cases hv:(AN p && within w p.al)=true
 ·have hs:Gg p w=Fh p 0 w:=by unfold Gg;rw [if_pos hv]
  rw [hs]
  rw [Bool.and_eq_true] at hv
  have h3:=cq (TB:=TB) hv.1 w (Eu hv.2) hl
  refine eN Tryz.func219 rfl (by kernel_rfl) rfl ?_;intro Γ hΓ
  (repeat' first|refine tA rfl ?_ |refine s2 rfl fun _ _hb=>?_ |(refine sC rfl (h1) ?_;intro _ _hb)|(refine sC rfl (h2) ?_;intro _ _hb)|refine sP rfl (h3) rfl ?_ |refine s3 rfl ?_ ?_<;>rintro rfl |refine aU rfl ?_ |refine Aa ?_|(refine aC rfl ?_ ?_<;>rintro⟨⟩)|refine aK ?_|refine aE ?_|refine aB ?_|refine aR ⟨_,rfl,?_⟩)
  all_goals first
   | rfl
   | (exfalso;grind;done)
 ·have hs:Gg p w = -1:=by unfold Gg;rw [if_neg hv]
  rw [hs]
  refine eN Tryz.func219 rfl (by kernel_rfl) rfl ?_;intro Γ hΓ
  (repeat' first|refine tA rfl ?_ |refine s2 rfl fun _ _hb=>?_ |(refine sC rfl (h1) ?_;intro _ _hb)|(refine sC rfl (h2) ?_;intro _ _hb) |refine s3 rfl ?_ ?_<;>rintro rfl |refine aU rfl ?_ |refine Aa ?_|(refine aC rfl ?_ ?_<;>rintro⟨⟩)|refine aK ?_|refine aE ?_|refine aB ?_|refine aR ⟨_,rfl,?_⟩)
  all_goals first
   | rfl
   | (exfalso;grind;done)
theorem Ot(p:AU)(w:W)(hl:w.length≤1099511627776):Pure Tryz.prog TB 193 [Bp p,eT w] (eB (P9 p w)):=by
 have h1:=Qy (TB:=TB) p w hl
 by_cases hv:(AN p && within w p.al)=true
 ·have hs:Gg p w=Fh p 0 w:=by unfold Gg;rw [if_pos hv]
  rw [hs] at h1
  rw [Bool.and_eq_true] at hv
  have hph:=AG hv.1
  have hr:=Tk hv.1 w 0 (Eu hv.2) (by omega)
  obtain⟨b,hb⟩:=get_some (l:=p.ac) (k:=(Fh p 0 w).toNat) (by omega)
  have hb':(p.ac.map Ib)[(Fh p 0 w).toNat]? = some (Ib b):=by simp [hb]
  have ha:P9 p w=b:=by unfold P9 LA;simp [hv.1,hv.2,List.getD,hb]
  rw [ha]
  refine eN Tryz.func193 rfl (by kernel_rfl) rfl ?_;intro Γ hΓ
  (repeat' first|refine tA rfl ?_ |(refine s4 rfl ‹_› rfl ?_ ?_;omega) |refine s2 rfl fun _ _hb=>?_ |refine sP rfl (h1) rfl ?_ |refine s3 rfl ?_ ?_<;>rintro rfl |refine aU rfl ?_ |refine Aa ?_|(refine aC rfl ?_ ?_<;>rintro⟨⟩)|refine aK ?_|refine aE ?_|refine aB ?_|refine aR ⟨_,rfl,?_⟩)
  all_goals first
   | rfl
   | (exfalso;(simp only[oZ] at *;omega))
 ·have hs:Gg p w = -1:=by unfold Gg;rw [if_neg hv]
  rw [hs] at h1
  have ha:P9 p w=false:=by unfold P9;grind
  rw [ha]
  refine eN Tryz.func193 rfl (by kernel_rfl) rfl ?_;intro Γ hΓ
  (repeat' first|refine tA rfl ?_ |refine s2 rfl fun _ _hb=>?_ |refine sP rfl (h1) rfl ?_ |refine s3 rfl ?_ ?_<;>rintro rfl |refine aU rfl ?_ |refine Aa ?_|(refine aC rfl ?_ ?_<;>rintro⟨⟩)|refine aK ?_|refine aE ?_|refine aB ?_|refine aR ⟨_,rfl,?_⟩)
  all_goals first
   | rfl
   | (exfalso;(simp only[oZ] at *;omega))
structure Ew where
 kn:Bool
 p:AU
 s:Sys
 q:AU
 al:Int
abbrev EC(t:Ew):E:=mV t.kn t.p t.s t.q t.al
structure J0 (P:Program) (TB:Bt) (gA gQ:FuncId) (t:Ew) (al:Int) (A:W→Bool):Prop where
 alph:Pure P TB gA [EC t] (eI .i64 al)
 ask:∀w:W,w.length≤1099511627776→Pure P TB gQ [EC t,eT w] (eB (A w))
structure VN (t:AW):Prop where
 rl:t.rows.length≤4194304
 cl:t.cols.length≤4194304
 rb:∀w∈t.rows,w.length≤4194304
 cb:∀w∈t.cols,w.length≤4194304
theorem I8(l:List W)(s:W)(hl:l.length≤1099511627776):Pure Tryz.prog TB 195 [CP l,eT s] (eB (decide (s∈l))):=by
 refine eN Tryz.func195 rfl (by kernel_rfl) rfl ?_;intro Γ hΓ
 (repeat first|refine tA rfl ?_ |refine aU rfl ?_ |refine Aa ?_)
 refine aB ?_
 refine aL (α:={k:Nat // k≤l.length∧s∉l.take k}) [0,1] [] rfl rfl (fun ⟨k,hk,hn⟩=>[(5,eI .i64 k)]) (fun ⟨k,hk,hn⟩=>[]) 0 (fun ⟨k,hk,hn⟩=>l.length - k) (⟨0,by omega,by simp⟩) hΓ rfl (by (simp[cX,zC,hΓ])) ?_;rintro⟨k,hk,hn⟩;(try dsimp only[cA,cB])
 by_cases hlt:k < l.length
 ·obtain⟨x,hx⟩:=get_some hlt
  have hx':=get_map (g:=Ed) hx
  by_cases hs:x=s
  ·have hm:s∈l:=hs ▸ List.mem_of_getElem? hx
   (repeat first|refine sN rfl ?_ |refine tA rfl ?_ |refine s2 rfl fun _ _hb=>?_ |refine aU rfl ?_ |refine Aa ?_)
   (refine aC rfl ?_ ?_<;>rintro⟨⟩)
   ·(repeat' first|(refine sA rfl ?_ ?_;first|exact tI|omega) |(refine s4 rfl ‹_› rfl ?_ ?_;omega) |refine s2 rfl fun _ _hb=>?_ |refine aU rfl ?_ |refine Aa ?_|(refine aC rfl ?_ ?_<;>rintro⟨⟩)|refine aK ?_|refine aE ?_|refine aB ?_|refine aR ⟨_,rfl,?_⟩)
    ·simp [hm]
    ·exfalso;simp [hs] at _hb
   ·exfalso;(simp only[oZ] at *;omega)
  ·have hn2:s∉l.take (k+1):=by
    rw [List.take_add_one,hx]
    intro h
    rcases List.mem_append.1 h with h|h
    ·exact hn h
    ·simp at h;exact hs h.symm
   (repeat first|refine sN rfl ?_ |refine tA rfl ?_ |refine s2 rfl fun _ _hb=>?_ |refine aU rfl ?_ |refine Aa ?_)
   (refine aC rfl ?_ ?_<;>rintro⟨⟩)
   ·(repeat' first|(refine sA rfl ?_ ?_;first|exact tI|omega) |(refine s4 rfl ‹_› rfl ?_ ?_;omega) |refine s2 rfl fun _ _hb=>?_ |refine aU rfl ?_ |refine Aa ?_|(refine aC rfl ?_ ?_<;>rintro⟨⟩)|refine aK ?_|refine aE ?_|refine aB ?_|refine aR ⟨_,rfl,?_⟩)
    ·exfalso;simp [hs] at _hb
    ·refine⟨⟨k+1,by omega,hn2⟩,by dsimp only;(omega),[],?_⟩
     simp[cX,zC,hΓ]
   ·exfalso;(simp only[oZ] at *;omega)
 ·rw [List.take_of_length_le (by omega)] at hn
  (repeat first|refine sN rfl ?_ |refine tA rfl ?_ |refine s2 rfl fun _ _hb=>?_ |refine aU rfl ?_ |refine Aa ?_)
  (refine aC rfl ?_ ?_<;>rintro⟨⟩)
  ·exfalso;(simp only[oZ] at *;omega)
  ·(repeat' first|refine tA rfl ?_ |refine aU rfl ?_ |refine Aa ?_|(refine aC rfl ?_ ?_<;>rintro⟨⟩)|refine aK ?_|refine aE ?_|refine aB ?_|refine aR ⟨_,rfl,?_⟩)
   simp [hn]
theorem WQ{A:W→Bool}{cols:List W}{w c:W}{k:Nat}(hc:cols[k]? = some c):marks A (cols.take (k+1)) w=marks A (cols.take k) w++[Rp (A (w++c))]:=by
 unfold marks
 rw [List.take_add_one,hc];simp
theorem ZU{A:W→Bool}{cols:List W}{w:W}:(marks A cols w).length=cols.length:=by simp [marks]
theorem Mq{t:Ew}{al:Int}{A:W→Bool}(hT:J0 Tryz.prog TB 120 175 t al A)(cols:List W)(w:W)(hl:cols.length≤4194304)(hw:w.length≤4194305)(hb:∀x∈cols,x.length≤4194304) :
 Pure Tryz.prog TB 124 [EC t,CP cols,eT w] (eT (marks A cols w)):=by
 refine eN Tryz.func124 rfl (by kernel_rfl) rfl ?_;intro Γ hΓ
 (repeat first|refine tA rfl ?_ |refine aU rfl ?_ |refine Aa ?_)
 refine aB ?_
 refine aL (α:={k:Nat // k≤cols.length}) [1,2,3] [] rfl rfl (fun ⟨k,hk⟩=>[(7,eT (marks A (cols.take k) w)),(8,eI .i64 k)]) (fun ⟨k,hk⟩=>[]) 0 (fun ⟨k,hk⟩=>cols.length - k) (⟨0,by omega⟩) hΓ rfl (by (simp[cX,zC,hΓ]<;>rfl)) ?_;rintro⟨k,hk⟩;(try dsimp only[cA,cB])
 have hml:(marks A (cols.take k) w).length≤4194304:=by rw [ZU,List.length_take];omega
 by_cases hlt:k < cols.length
 ·obtain⟨x,hx⟩:=get_some hlt
  have hx':=get_map (g:=Ed) hx
  have hxb:=hb x (List.mem_of_getElem? hx)
  have hq:=hT.ask (w++x) (by simp;omega)
  have hst:=WQ (A:=A) (w:=w) hx
  (repeat first|refine sN rfl ?_ |refine tA rfl ?_ |refine s2 rfl fun _ _hb=>?_ |refine aU rfl ?_ |refine Aa ?_)
  (refine aC rfl ?_ ?_<;>rintro⟨⟩)
  ·refine aK ?_
   refine aS (aB ?_)
   (repeat first|(refine sA rfl ?_ ?_;first|exact tI|omega) |(refine s4 rfl ‹_› rfl ?_ ?_;omega) |(refine sC rfl (hq) ?_;intro _ _hb) |refine aU rfl ?_ |refine Aa ?_ |refine rE (by kernel_rfl) ?_)
   (refine aC rfl ?_ ?_<;>rintro⟨⟩)
   ·rw [_hb] at hst
    (repeat first|(refine sA rfl ?_ ?_;first|exact tI|omega|simp only[oZ] at *;omega) |refine aU rfl ?_ |refine Aa ?_)
    refine⟨⟨k+1,by omega⟩,by dsimp only;(omega),[],?_⟩
    simp[cX,zC,hΓ,hst,Rp]
   ·rw [_hb] at hst
    (repeat first|(refine sA rfl ?_ ?_;first|exact tI|omega|simp only[oZ] at *;omega) |refine aU rfl ?_ |refine Aa ?_)
    refine⟨⟨k+1,by omega⟩,by dsimp only;(omega),[],?_⟩
    simp[cX,zC,hΓ,hst,Rp]
  ·exfalso;(simp only[oZ] at *;omega)
 ·obtain rfl:k=cols.length:=by omega
  rw [List.take_length]
  (repeat first|refine sN rfl ?_ |refine tA rfl ?_ |refine s2 rfl fun _ _hb=>?_ |refine aU rfl ?_ |refine Aa ?_)
  (refine aC rfl ?_ ?_<;>rintro⟨⟩)
  ·exfalso;(simp only[oZ] at *;omega)
  ·(repeat' first|refine tA rfl ?_ |refine aU rfl ?_ |refine Aa ?_|(refine aC rfl ?_ ?_<;>rintro⟨⟩)|refine aK ?_|refine aE ?_|refine aB ?_|refine aR ⟨_,rfl,?_⟩)
   rfl
structure mD (te:Ew):Prop where
 pn:te.p.nx.length≤1048576
 pa:te.p.ac.length≤1048576
 pr:∀r∈te.p.nx,r.length≤1048576
 es:te.s.es.length≤1048576
 qn:te.q.nx.length≤1048576
 qa:te.q.ac.length≤1048576
 qr:∀r∈te.q.nx,r.length≤1048576
end Go.Am
namespace Go.Am
open Go
set_option linter.unusedVariables false
def Cg(es:List ET)(l:Int)(m:Nat):Nat:=es.foldl (fun a e=>if e.l=l∧m.testBit e.f.toNat=true then a ||| 2 ^ e.t.toNat else a) 0
theorem Jt{α:Type}{p:α→Prop}[DecidablePred p]{g:α→Nat}{j:Nat}:∀(l:List α) (a:Nat),(l.foldl (fun a e=>if p e then a ||| g e else a) a).testBit j=true↔a.testBit j=true∨∃e∈l,p e∧(g e).testBit j=true
 | [],a=>by simp
 | x :: l,a=>by
  rw [List.foldl_cons,Jt l]
  by_cases h:p x
  ·rw [if_pos h,Nat.testBit_or,Bool.or_eq_true]
   constructor
   ·rintro((h1|h1)|⟨e,h1,h2⟩)
    ·exact .inl h1
    ·exact .inr ⟨x,by simp,h,h1⟩
    ·exact .inr ⟨e,by simp [h1],h2⟩
   ·rintro(h1|⟨e,h1,h2,h3⟩)
    ·exact .inl (.inl h1)
    ·rcases List.mem_cons.1 h1 with rfl|h1
     ·exact .inl (.inr h3)
     ·exact .inr ⟨e,h1,h2,h3⟩
  ·rw [if_neg h]
   constructor
   ·rintro(h1|⟨e,h1,h2⟩)
    ·exact .inl h1
    ·exact .inr ⟨e,by simp [h1],h2⟩
   ·rintro(h1|⟨e,h1,h2,h3⟩)
    ·exact .inl h1
    ·rcases List.mem_cons.1 h1 with rfl|h1
     ·exact absurd h2 h
     ·exact .inr ⟨e,h1,h2,h3⟩
theorem DH{es:List ET}{l:Int}{m j:Nat}:(Cg es l m).testBit j=true↔∃e∈es,(e.l=l∧m.testBit e.f.toNat=true)∧e.t.toNat=j:=by
 unfold Cg
 rw [Jt]
 simp [Nat.testBit_two_pow]
structure CD where
 s:Sys
 q:AU
 al:Int
def A9(t:CD):Bool:=AR t.s && (AN t.q && A4 t.al)
def Cn(t:CD):List Int:=(Ac t.s.al).filter fun l=>!A0 t.al l.toNat
def Db(s:Sys)(l:Int)(m:Nat):Nat:=if A0 s.al l.toNat then Cg s.es l m else m
abbrev PS:=Nat→Nat
def VP(t:CD)(l:Int)(F:PS):PS:=fun p'=>(List.range t.q.nx.length).foldl (fun a p=>if Cy t.q p l=(p':Int) then a ||| Db t.s l (F p) else a) 0
theorem Ld{t:CD}{l:Int}{F:PS}{p' j:Nat}:(VP t l F p').testBit j=true↔∃p,p < t.q.nx.length∧Cy t.q p l=(p':Int)∧(Db t.s l (F p)).testBit j=true:=by
 unfold VP
 rw [Jt]
 simp
inductive P5 (t:CD) (F0:PS):Nat→Nat→Prop
 | base {p j:Nat}:(F0 p).testBit j=true→P5 t F0 p j
 | step {p j:Nat} {e:ET}:P5 t F0 p j→e∈t.s.es→e.l∈Cn t→e.f.toNat=j→P5 t F0 (Cy t.q p e.l).toNat e.t.toNat
open Classical in
noncomputable def Sj(t:CD)(F0:PS):PS:=fun p=>(List.range 16).foldl (fun a j=>if P5 t F0 p j then a ||| 2 ^ j else a) 0
open Classical in
theorem NZ{t:CD}{F0:PS}{p j:Nat}:(Sj t F0 p).testBit j=true↔j < 16∧P5 t F0 p j:=by
 unfold Sj
 rw [Jt]
 simp only [Nat.zero_testBit,Bool.false_eq_true,false_or,List.mem_range,Nat.testBit_two_pow,decide_eq_true_eq]
 constructor
 ·rintro⟨e,h1,h2,rfl⟩;exact⟨h1,h2⟩
 ·rintro⟨h1,h2⟩;exact⟨j,h1,h2,rfl⟩
structure CW (t:CD) (F:PS):Prop where
 lt:∀p,F p < 65536
 z:∀p,t.q.nx.length≤p→F p=0
theorem Jr{m:Nat}(h:∀j,m.testBit j=true→j < 16):m < 65536:=by
 have:m < 2 ^ 16:=Nat.lt_pow_two_of_testBit m fun i hi=>by
  cases hb:m.testBit i
  ·rfl
  ·have:=h i hb;omega
 omega
theorem K3{m j:Nat}(h:m < 65536)(hb:m.testBit j=true):j < 16:=by
 rcases Nat.lt_or_ge j 16 with h1|h1
 ·exact h1
 ·have:m.testBit j=false:=Nat.testBit_lt_two_pow (Nat.lt_of_lt_of_le h (Nat.pow_le_pow_right (n:=2) (by omega) h1))
  rw [this] at hb;cases hb
theorem HD{m:Nat}(h:∀j,m.testBit j=false):m=0:=Nat.eq_of_testBit_eq fun j=>by rw [h j];simp
section
variable {t:CD}(ht:A9 t=true)
include ht set_option linter.unusedSectionVars false
theorem HX{e:ET}(he:e∈t.s.es):0≤e.f∧e.f < 16∧0≤e.t∧e.t < 16∧0≤e.l∧e.l < 6:=by
 unfold A9 at ht
 simp only [Bool.and_eq_true] at ht
 have h1:=DA ht.1 he
 have h2:=AM ht.1
 unfold DT at h1
 grind
theorem Cr:AN t.q=true:=by
 unfold A9 at ht
 simp only [Bool.and_eq_true] at ht
 exact ht.2.1
theorem DF{l:Int}(h:l∈Cn t):0≤l∧l < 6∧A0 t.s.al l.toNat=true:=by
 unfold Cn at h
 have h1:=Ak (List.mem_filter.1 h).1
 exact⟨h1.1,by omega,h1.2.2⟩
theorem Ji{l:Int}{m:Nat}(hm:m < 65536):Db t.s l m < 65536:=by
 unfold Db
 split
 ·refine Jr fun j hj=>?_
  obtain⟨e,h1,_,rfl⟩:=DH.1 hj
  have:=HX ht h1;omega
 ·exact hm
theorem Ko{l:Int}(hl:0≤l∧l < 6){F:PS}(h:CW t F):CW t (VP t l F):=by
 refine⟨fun p=>Jr fun j hj=>?_,fun p hp=>HD fun j=>?_⟩
 ·obtain⟨q,h1,h2,h3⟩:=Ld.1 hj
  exact K3 (Ji ht (h.lt q)) h3
 ·cases hb:(VP t l F p).testBit j
  ·rfl
  ·obtain⟨q,h1,h2,h3⟩:=Ld.1 hb
   have:=Dg (Cr ht) h1 hl.1 hl.2
   omega
theorem P5.lt{F0:PS}(h:CW t F0){p j:Nat}(hr:P5 t F0 p j):p < t.q.nx.length∧j < 16:=by
 induction hr with
 | @base p j hb=>
  refine⟨?_,K3 (h.lt p) hb⟩
  rcases Nat.lt_or_ge p t.q.nx.length with h1|h1
  ·exact h1
  ·rw [h.z p h1] at hb;simp at hb
 | @step p j e _ he hl _ ih=>
  have h1:=HX ht he
  have h2:=Dg (Cr ht) ih.1 h1.2.2.2.2.1 h1.2.2.2.2.2
  omega
theorem bJ{F0:PS}(h:CW t F0):CW t (Sj t F0):=by
 refine⟨fun p=>Jr fun j hj=>(NZ.1 hj).1,fun p hp=>HD fun j=>?_⟩
 cases hb:(Sj t F0 p).testBit j
 ·rfl
 ·have:=((NZ.1 hb).2.lt ht h).1
  omega
theorem bI{F0 G:PS}(h0:CW t F0)(hG:∀p,t.q.nx.length≤p→G p=0)(h1:∀p j,(F0 p).testBit j=true→(G p).testBit j=true)(h2:∀p j,(G p).testBit j=true→P5 t F0 p j)
 (h3:∀p l j,p < t.q.nx.length→l∈Cn t→(Cg t.s.es l (G p)).testBit j=true→(G (Cy t.q p l).toNat).testBit j=true):G=Sj t F0:=by
 have key:∀ {p j:Nat},P5 t F0 p j→(G p).testBit j=true:=fun {p j} hr=>by
  induction hr with
  | base hb=>exact h1 _ _ hb
  | @step p j e hr he hl hf ih=>exact h3 p e.l _ (hr.lt ht h0).1 hl (DH.2 ⟨e,he,⟨rfl,by rw [hf];exact ih⟩,rfl⟩)
 funext p
 refine Nat.eq_of_testBit_eq fun j=>?_
 rw [Bool.eq_iff_iff,NZ]
 exact⟨fun h=>⟨((h2 p j h).lt ht h0).2,h2 p j h⟩,fun h=>key h.2⟩
end
def IE:PS:=fun p=>if p=0 then 1 else 0
noncomputable def Cq(t:CD):PS:=Sj t IE
noncomputable def Dy(t:CD)(l:Int)(F:PS):PS:=Sj t (VP t l F)
def Fb(t:CD)(F:PS):Bool:=(List.range t.q.nx.length).any fun p=>decide (F p≠0) && !(t.q.ac.getD p false)
noncomputable def FK(t:CD):PS→W→Bool
 | F,[]=>!Fb t F
 | F,c::w=>!Fb t F && FK t (Dy t ((c.toNat:Int) - 97) F) w
noncomputable def LS(t:CD)(w:W):Bool:=FK t (Cq t) w
section
variable {t:CD}(ht:A9 t=true)
include ht
theorem LU:CW t IE:=by
 have h:=AG (Cr ht)
 refine⟨fun p=>by unfold IE;split<;>omega,fun p hp=>by unfold IE;rw [if_neg (by omega)]⟩
theorem Gm:CW t (Cq t):=bJ ht (LU ht)
theorem Lh{l:Int}(hl:0≤l∧l < 6){F:PS}(h:CW t F):CW t (Dy t l F):=bJ ht (Ko ht hl h)
end
end Go.Am
namespace Go.Am
open Go Go.Proofs
set_option maxHeartbeats 1000000
attribute [local irreducible] AS BT Lex Bc Au Spec
variable {TB:Bt}
theorem Vj:∀ {l:List Int},l.Pairwise (· < ·)→(∀x∈l,0≤x)→∀j:Nat,(BH l).testBit j=true↔(j:Int)∈l
 | [],_,_,j=>by simp [BH]
 | x :: r,hp,h0,j=>by
  have hx:=h0 x (by simp)
  have hp2:=List.pairwise_cons.1 hp
  have ih:=Vj hp2.2 (fun y hy=>h0 y (by simp [hy])) j
  obtain⟨m,h1,h2⟩:=MI hp hx
  rw [h1,Nat.testBit_two_pow_mul]
  rw [h2,Nat.testBit_two_pow_mul] at ih
  rw [List.mem_cons,←ih]
  by_cases hj:j=x.toNat
  ·subst hj
   simp
   omega
  ·have hne:¬(j:Int)=x:=by omega
   have hb:x.toNat≤j→(2*m+1).testBit (j - x.toNat)=(2*m).testBit (j - x.toNat):=fun hle=>by
    obtain⟨i,hi⟩:∃i,j - x.toNat=i+1:=⟨j - x.toNat - 1,by omega⟩
    rw [hi,Nat.testBit_succ,Nat.testBit_succ]
    congr 1;omega
   by_cases hle:x.toNat≤j
   ·rw [hb hle];simp [hne]
   ·simp [hle,hne]
def EE(m k:Nat):List Int:=((List.range k).filter (m.testBit ·)).map Int.ofNat
theorem T7(m k:Nat):EE m (k+1)=EE m k++if m.testBit k then [(k:Int)] else []:=by
 unfold EE
 rw [List.range_succ,List.filter_append,List.map_append]
 cases h:m.testBit k<;>simp [h]
theorem RK(m:Nat):∀k,BH (EE m k)=m % 2 ^ k
 | 0=>by simp [EE,BH,Nat.mod_one]
 | k+1=>by
  rw [T7,PB,RK m k,Nat.pow_succ,Nat.mod_mul,Nat.testBit_eq_decide_div_mod_eq]
  by_cases h:m / 2 ^ k % 2=1
  ·rw [h];simp [BH]
  ·rw [show m / 2 ^ k % 2=0 by omega];simp [BH]
theorem Qf(m k:Nat):(EE m k).Pairwise (· < ·):=by
 unfold EE
 rw [List.pairwise_map]
 exact(List.pairwise_lt_range.filter _).imp fun h=>by simpa using h
theorem Mc{m k:Nat}{x:Int}(h:x∈EE m k):0≤x∧x < k∧m.testBit x.toNat=true:=by
 unfold EE at h
 obtain⟨n,hn,rfl⟩:=List.mem_map.1 h
 obtain⟨h1,h2⟩:=List.mem_filter.1 hn
 have:=List.mem_range.1 h1
 exact⟨by simp,by simp;omega,by simpa using h2⟩
theorem Sg{m:Nat}(h:m < 65536):m=BH (EE m 16):=by rw [RK];omega
def Qv(es:List ET)(l:Int)(xs:List Int):Nat:=xs.foldl (fun a x=>a ||| BH (LW es x.toNat l.toNat)) 0
theorem Pg{s:Sys}(hs:AR s=true){l:Int}{j:Nat}:∀ {xs:List Int} {a:Nat},(xs.foldl (fun a x=>a ||| BH (LW s.es x.toNat l.toNat)) a).testBit j=true↔a.testBit j=true∨∃x∈xs,(j:Int)∈LW s.es x.toNat l.toNat
 | [],a=>by simp
 | x::xs,a=>by
  rw [List.foldl_cons,Pg hs,Nat.testBit_or,Bool.or_eq_true]
  have h1:=Fk hs s.es.length x.toNat l.toNat
  rw [List.take_length] at h1
  have h2:=Vj h1 (fun y hy=>(MO hs (k:=s.es.length) (by rw [List.take_length];exact hy)).1) j
  rw [h2]
  simp only [List.mem_cons,exists_eq_or_imp,or_assoc]
theorem fI{s:Sys}(hs:AR s=true){l:Int}(hl:0≤l){m:Nat}(hm:m < 65536):Qv s.es l (EE m 16)=Cg s.es l m:=by
 refine Nat.eq_of_testBit_eq fun j=>?_
 rw [Bool.eq_iff_iff]
 unfold Qv
 rw [Pg hs,DH]
 simp only [Nat.zero_testBit,Bool.false_eq_true,false_or]
 constructor
 ·rintro⟨x,hx,hj⟩
  obtain⟨h1,h2,h3⟩:=Mc hx
  unfold LW at hj
  obtain⟨e,he,het⟩:=List.mem_map.1 hj
  obtain⟨he1,he2⟩:=List.mem_filter.1 he
  simp only [Bool.and_eq_true,decide_eq_true_eq] at he2
  exact⟨e,he1,⟨by omega,by rw [show e.f.toNat=x.toNat by omega];exact h3⟩,by omega⟩
 ·rintro⟨e,he,⟨h1,h2⟩,h3⟩
  have hb:=DA hs he
  unfold DT at hb
  simp only [Bool.and_eq_true,decide_eq_true_eq] at hb
  have hf:=K3 hm h2
  refine⟨e.f,?_,?_⟩
  ·unfold EE
   exact List.mem_map.2 ⟨e.f.toNat,List.mem_filter.2 ⟨List.mem_range.2 hf,h2⟩,by simp;omega⟩
  ·unfold LW
   refine List.mem_map.2 ⟨e,List.mem_filter.2 ⟨he,?_⟩,by omega⟩
   simp only [Bool.and_eq_true,decide_eq_true_eq]
   omega
theorem fJ{s:Sys}(hs:AR s=true){l:Int}{xs:List Int}:Qv s.es l xs < 65536:=Jr fun j hj=>by
 unfold Qv at hj
 rw [Pg hs] at hj
 simp only [Nat.zero_testBit,Bool.false_eq_true,false_or] at hj
 obtain⟨x,_,hx⟩:=hj
 have:=MO hs (k:=s.es.length) (by rw [List.take_length];exact hx)
 omega
theorem N9{a b:Nat}(ha:a < 2 ^ 62)(hb:b < 2 ^ 62):GZ .i64 (a:Nat) (b:Nat)=((a ||| b:Nat):Int):=by
 have h0:a ||| b < 2 ^ 62:=Nat.or_lt_two_pow ha hb
 unfold GZ
 have h1:(BitVec.ofInt IntKind.i64.bits (a:Int) ||| BitVec.ofInt IntKind.i64.bits (b:Int)).toNat=a ||| b:=by
  have e:IntKind.i64.bits=64:=rfl
  rw [e]
  simp only [BitVec.toNat_or,BitVec.ofInt_natCast,BitVec.toNat_ofNat]
  rw [Nat.mod_eq_of_lt (by omega),Nat.mod_eq_of_lt (by omega)]
 rw [h1]
 exact IntWalk.i64_in _ (by omega)
theorem gk[Df TB]{s:Sys}(hs:AR s=true){l:Int}(hl:0≤l∧l < 6){m:Nat}(hm:m < 65536):Pure Tryz.prog TB 222 [.o (.ip (FB s.es)),eI .i64 (m:Nat),eI .i64 l] (eI .i64 (Cg s.es l m:Nat)):=by
 rw [←fI hs hl.1 hm]
 rw [Sg hm]
 have hb:∀x∈EE m 16,0≤x∧x < 16:=fun x hx=>⟨(Mc hx).1,(Mc hx).2.1⟩
 have hp:=Qf m 16
 rw [←Sg hm]
 conv=>arg 4;rw [Sg hm]
 generalize EE m 16=xs at *
 refine eG Tryz.func222 rfl (by kernel_rfl) rfl ?_;intro Γ hΓ
 (repeat first|refine tA rfl ?_ |refine aU rfl ?_ |refine Aa ?_)
 refine aB ?_
 refine aL (α:={k:Nat // k≤xs.length}) [0,2] [] rfl rfl (fun ⟨k,hk⟩=>[(1,eI .i64 (BH (xs.drop k):Nat)),(7,eI .i64 (Qv s.es l (xs.take k):Nat))]) (fun ⟨k,hk⟩=>[]) 0 (fun ⟨k,hk⟩=>xs.length - k) (⟨0,by omega⟩) hΓ rfl (by (simp[cX,zC,hΓ]<;>rfl)) ?_;rintro⟨k,hk⟩;(try dsimp only[cA,cB])
 by_cases hkl:k < xs.length
 ·obtain⟨x,hx⟩:=get_some hkl
  have hd:=Bo hx
  have hxb:=hb x (List.mem_of_getElem? hx)
  have hpd:(x::xs.drop (k+1)).Pairwise (· < ·):=by rw [←hd];exact hp.sublist (List.drop_sublist _ _)
  have hlt:BH (x::xs.drop (k+1)) < 2 ^ 16:=by
   refine Lv hpd fun y hy=>?_
   rw [←hd] at hy;exact hb y (List.mem_of_mem_drop hy)
  have hps:=Jj (x:=x) (l:=xs.drop (k+1))
  have hct:=Vk hpd hxb.1 (by omega)
  have hia:=QS hpd hxb.1 (by omega)
  rw [←hd] at hlt hps hct hia
  have htz:=gV (TB:=TB) (BH (xs.drop k)) (by omega) (by omega)
  rw [hct] at htz
  have ex:((x.toNat:Nat):Int)=x:=by omega
  rw [ex] at htz
  have hto:=Fk hs s.es.length x.toNat l.toNat
  rw [List.take_length] at hto
  have hs2:BH (LW s.es x.toNat l.toNat) < 65536:=Lv (t:=16) hto fun y hy=>MO hs (k:=s.es.length) (by rw [List.take_length];exact hy)
  have hs1:Qv s.es l (xs.take k) < 65536:=fJ hs
  have hor:=N9 (a:=Qv s.es l (xs.take k)) (b:=BH (LW s.es x.toNat l.toNat)) (by omega) (by omega)
  have hst:Qv s.es l (xs.take (k+1))=Qv s.es l (xs.take k) ||| BH (LW s.es x.toNat l.toNat):=by unfold Qv;rw [List.take_add_one,hx,List.foldl_append];rfl
  rw [←hst] at hor
  (repeat first|refine tA rfl ?_ |refine s2 rfl fun _ _hb=>?_ |refine aU rfl ?_ |refine Aa ?_)
  ((refine aC rfl ?_ ?_<;>rintro⟨⟩);all_goals try(exfalso;(simp only[oZ] at *;omega)))
  refine aK ?_
  refine aS (aB ?_)
  refine rG (IZ []) (by kernel_rfl) ?_
  (repeat first|(refine sA rfl ?_ ?_;first|exact tI|omega) |refine sP rfl (htz) rfl ?_|(refine Ai rfl ?_;refine gA rfl ?_;first| refine gS (fun _ _=>Ey rfl (cI hxb hl)) ?_) |refine aU rfl ?_ |refine Aa ?_)
  refine⟨⟨k+1,by omega⟩,by dsimp only;(omega),[],?_⟩
  simp[cX,zC,hΓ,hor,hia]
 ·obtain rfl:k=xs.length:=by omega
  rw [List.take_length]
  (repeat first|refine tA rfl ?_ |refine s2 rfl fun _ _hb=>?_ |refine aU rfl ?_ |refine Aa ?_)
  (refine aC rfl ?_ ?_<;>rintro⟨⟩)
  ·exfalso
   rw [List.drop_length] at _hb
   simp [BH] at _hb
  refine aE ?_
  (repeat first|refine tA rfl ?_ |refine aU rfl ?_ |refine Aa ?_)
  (subst_vars;exact aR ⟨_,rfl,rfl⟩)
end Go.Am
