/-
  A drawn automaton of the greatest number of states, walked.
-/
import Derived.Test.YtkkihplpglchjaaGreatDoorPart19
import Derived.Test.YtkkihplpglchjaaGreatDoorPart9
import Derived.Test.YtkkihplpglchjaaGreatDoorPart10
import Derived.Test.YtkkihplpglchjaaGreatDoorPart11
import Derived.Test.YtkkihplpglchjaaGreatDoorPart14
import Derived.Test.YtkkihplpglchjaaGreatDoorPart16
set_option linter.constructorNameAsVariable false
set_option linter.unusedSimpArgs false
set_option linter.unusedVariables false
namespace Go.Am
open Go Go.Proofs
set_option maxHeartbeats 1000000
attribute [local irreducible] AU B3 Lex Br Ai Spec
variable {TB:Bc}
theorem Tt (b:List UInt8) (hb:b.length≤2000) (p:Int) (h0:0≤p∧p < 900000000):Spec Tryz.prog TB 146 [(0,AI b p)] 1 [.o (.ptr 0 2 0 0)] (Ef b p 30 (fun a'=>FQ 12 a')):=by
  refine eR Tryz.func146 rfl (by kernel_rfl) rfl ?_;intro Γ hΓ
  (repeat first|refine tA rfl ?_ |refine aU rfl ?_ |refine Aa ?_)
  (refine pW rfl ?_ rfl (by rfl);refine GR 1 1 90 2 1 4 rfl rfl (by decide) rfl rfl (by rfl) (by rfl) ?_)
  (repeat first|refine tA rfl ?_ |refine aU rfl ?_ |refine Aa ?_)
  refine aB ?_
  refine Ai.VU 3 ?_
  refine aL (α:={s:Nat×Int×GC×List Bool // s.1≤12∧(p≤s.2.1∧s.2.1≤p+2*s.1)∧s.2.2.1.length=s.1∧s.2.2.2.length=s.1∧∀x∈s.2.2.1,x.2.length≤12}) [0,2,3] [1] rfl rfl (fun s=>[(4,eI .i64 s.1.1)]) (fun s=>[(0,AI b s.1.2.1),(2,.cells 90 1 (Aw s.1.2.2.1)),(3,.cells 4 1 (s.1.2.2.2.map AL)),(4,.cells 26 3 [[.d (iD 3),.arr 2 1 0 s.1.2.2.1.length,.arr 3 1 0 s.1.2.2.2.length]]),(5,.sld 3 (sI s.1.2.2.1))]) 6 (fun s=>12 - s.1.1) (⟨⟨0,p,[],[]⟩,by simp⟩) hΓ rfl (by (simp[cX,zC,hΓ]<;>rfl)) ?_;rintro ⟨⟨k,q,l,ac⟩,hk,hq,hl,hac,hx⟩;(try dsimp only[cA,cB])
  have hk:k≤12:=hk
  have hq:p≤q∧q≤p+2*k:=hq
  have hl:l.length=k:=hl
  have hac:ac.length=k:=hac
  (repeat first|refine tA rfl ?_ |refine s2 rfl fun _ _hb=>?_ |refine aU rfl ?_ |refine Aa ?_)
  ((refine aC rfl ?_ ?_<;>rintro ⟨⟩);all_goals try (simp at _hb;done))
  · have hlt:k < 12:=by (simp only[oZ] at *;omega)
    obtain ⟨w,w1,hw⟩:=BC (TB:=TB) b hb q (by omega) [(k:Int),0,11] (by simp) (by simp)
    obtain ⟨c,c0,c1,hc⟩:=AK (TB:=TB) b hb (q+1) 5 (by omega)
    refine aK ?_
    refine aS (aB ?_)
    refine aS ?_
    refine rG (JU [(1,14),(8,1016),(9,1016),(10,1016),(11,1),(13,1)]) (by kernel_rfl) ?_
    (repeat first|(refine sA rfl ?_ ?_;first|exact tI|omega))
    (refine Ag rfl ?_;refine Bp ?_ rfl ⟨rfl,rfl⟩;refine Ac [0] rfl rfl (hw) ⟨rfl,by decide,by decide⟩ rfl (by simp[cX,zC,hΓ,cN]) ?_;rintro x0 σ1 nx1 ⟨rfl,rfl,rfl⟩ _;refine ⟨BT 4 rfl rfl,?_⟩)
    (refine Ag rfl ?_;refine Bp ?_ rfl ⟨rfl,rfl⟩;refine Bg rfl rfl rfl rfl (by simp [eC,E.AP,C.AP]) (by rfl) (by rfl) (by rfl) (by rfl) ?_;refine ⟨BT 4 rfl rfl,?_⟩)
    (refine Ag rfl ?_;refine Bp ?_ rfl ⟨rfl,rfl⟩;refine Bg rfl rfl rfl rfl (by simp [eC,E.AP,C.AP]) (by rfl) (by rfl) (by rfl) (by rfl) ?_;refine ⟨BT 4 rfl rfl,?_⟩)
    (refine pW rfl ?_ rfl (by rfl);refine Av rfl rfl rfl (B1 _) rfl (by intro r hr;simp at hr;subst hr;rfl) (by rfl) (Nat.le_of_ble_eq_true rfl) (by simp;omega) ?_)
    (repeat first|refine tA rfl ?_)
    refine Aa ?_
    refine Ai.PF 8 6 5 l [((k:Int)+1) % 12,w] rfl rfl rfl fun v=>?_
    have hx2:∀x∈l++[(v,[((k:Int)+1) % 12,w])],x.2.length≤12:=fun x hm=>by
      rcases List.mem_append.1 hm with hm|hm
      · exact hx x hm
      · simp at hm;subst hm;simp
    refine rG (JU [(1,14),(6,1016),(10,1),(12,1)]) (by kernel_rfl) ?_
    (repeat' first|refine tA rfl ?_ |refine s2 rfl fun _ _hb=>?_ |refine s3 rfl ?_ ?_<;>rintro rfl)
    · (refine pW rfl ?_ rfl (by rfl);refine Av rfl rfl rfl (by first| (simp;done)|(simp;(omega))) rfl (by intro r hr;simp at hr;subst hr;rfl) (by rfl) (Nat.le_of_ble_eq_true rfl) (by simp;omega) ?_)
      (repeat first|(refine sA rfl ?_ ?_;first|exact tI|omega) |refine aU rfl ?_ |refine Aa ?_)
      refine ⟨⟨⟨k+1,q+1,l++[(v,[((k:Int)+1) % 12,w])],ac++[true]⟩,by dsimp only;omega,by dsimp only;omega,by simp;omega,by simp;omega,hx2⟩,by dsimp only;(omega),[0,1,8,9,4,5],?_⟩
      (simp[cX,zC,hΓ,cN]<;>rfl)
    · (refine Ag rfl ?_;refine Bp ?_ rfl ⟨rfl,rfl⟩;refine Ac [0] rfl rfl (hc) ⟨rfl,by decide,by decide⟩ rfl (by simp[cX,zC,hΓ,cN]) ?_;rintro x0 σ1 nx1 ⟨rfl,rfl,rfl⟩ _;refine ⟨BT 4 rfl rfl,?_⟩)
      (repeat first|refine tA rfl ?_ |refine s2 rfl fun _ _hb=>?_)
      (refine pW rfl ?_ rfl (by rfl);refine Av rfl rfl rfl (by first| (simp;done)|(simp;(omega))) rfl (by intro r hr;simp at hr;subst hr;rfl) (by rfl) (Nat.le_of_ble_eq_true rfl) (by simp;omega) ?_)
      (repeat first|(refine sA rfl ?_ ?_;first|exact tI|omega) |refine aU rfl ?_ |refine Aa ?_)
      subst _hb
      refine ⟨⟨⟨k+1,q+1+1,l++[(v,[((k:Int)+1) % 12,w])],ac++[decide (c=0)]⟩,by dsimp only;omega,by dsimp only;omega,by simp;omega,by simp;omega,hx2⟩,by dsimp only;(omega),[0,1,8,9,4,5],?_⟩
      (simp[cX,zC,hΓ,cN]<;>rfl)
  · refine aE ?_
    (repeat first|refine tA rfl ?_ |refine aU rfl ?_ |refine Aa ?_)
    refine Ai.Ak [2] [] rfl rfl [] [(0,AI b q),(1,.cells 26 3 [[.d (iD 3),.arr 2 1 0 l.length,.arr 3 1 0 ac.length]]),(2,.cells 90 1 (Aw l)),(3,.cells 4 1 (ac.map AL)),(4,.sld 3 (sI l))] [0,1,2,3,5] (rl hΓ rfl) (by (simp[cX,zC,hΓ,cN,Ae,eC])) ?_;(try dsimp only[cA,cB])
    refine Ai.AD [1,2,3,4] [(2,.o (.ip (BQ ⟨3,l.map (·.2),ac⟩)))] ⟨⟨_,rfl,.inr (.o (.box rfl (.cons .d (.cons (.JZ (s:=4) rfl rfl) (.cons (.full rfl (by simp [Function.comp_def]) (by simp)) .nil)))))⟩,trivial⟩ ?_
    refine aR ⟨_,rfl,[0],BH ⟨3,l.map (·.2),ac⟩,[(0,AI b q)],⟨by intro i hi;match i with|0=>rfl,by decide⟩,rfl,by (simp[cX,zC,hΓ,cN]),_,⟨3,l.map (·.2),ac⟩,by omega,Gu (by omega) (by omega) hx,rfl,rfl,rfl⟩
def Cv {α:Type} (Q:α→Prop) (g:α→E) (x:E) (σ:Ab) (nx:Nat):Prop:=∃r,Q r∧x=g r∧σ=[]∧nx=0
theorem Dl (n:Int):Spec Tryz.prog TB 203 [] 0 [eI .i64 n] (Cv (fun r:W=>r.length≤6) eT):=by
  have hla:(Af n).length≤6:=AM n 6
  refine eR Tryz.func203 rfl (by kernel_rfl) rfl ?_;intro Γ hΓ
  (repeat first|refine tA rfl ?_ |refine s2 rfl fun _ _hb=>?_ |(refine sC rfl (C3 n) ?_;intro _ _hb) |refine aU rfl ?_ |refine Aa ?_)
  (refine aC rfl ?_ ?_<;>rintro ⟨⟩)
  · (repeat first|refine tA rfl ?_ |refine aU rfl ?_ |refine Aa ?_)
    refine aR ⟨_,rfl,[],eT [],[],⟨by intro i hi;omega,by decide⟩,rfl,trivial,[],by decide,rfl,rfl,rfl⟩
  refine aK ?_
  (repeat first|refine tA rfl ?_ |refine s2 rfl fun _ _hb=>?_ |refine aU rfl ?_ |refine Aa ?_)
  (refine aC rfl ?_ ?_<;>rintro ⟨⟩)
  · (repeat first|refine tA rfl ?_ |refine aU rfl ?_ |refine Aa ?_)
    refine aR ⟨_,rfl,[],eT [45],[],⟨by intro i hi;omega,by decide⟩,rfl,trivial,[45],by decide,rfl,rfl,rfl⟩
  refine aK ?_
  (repeat first|refine tA rfl ?_ |refine sP rfl (BZ n) rfl ?_ |refine aU rfl ?_ |refine Aa ?_)
  refine aB ?_
  refine aL (α:={s:Nat×W // s.1≤(Af n).length∧s.2.length=s.1}) [4] [] rfl rfl (fun s=>[(3,eT s.1.2),(5,eI .i64 s.1.1)]) (fun s=>[]) 0 (fun s=>(Af n).length - s.1.1) (⟨⟨0,[]⟩,by simp⟩) hΓ rfl (by (simp[cX,zC,hΓ])) ?_;rintro ⟨⟨k,w⟩,hk,hw⟩;(try dsimp only[cA,cB])
  have hk:k≤(Af n).length:=hk
  have hw:w.length=k:=hw
  (repeat first|refine sN rfl ?_ |refine tA rfl ?_ |refine s2 rfl fun _ _hb=>?_ |refine aU rfl ?_ |refine Aa ?_)
  ((refine aC rfl ?_ ?_<;>rintro ⟨⟩);all_goals try (simp at _hb;done))
  · have hlt:k < (Af n).length:=by (simp only[oZ] at *;omega)
    obtain ⟨l,hl⟩:=get_some (l:=Af n) (k:=k) hlt
    have hl':=get_map (g:=Db) hl
    have hlb:=Bj (List.mem_of_getElem? hl)
    refine aK ?_
    refine aS (aB ?_)
    (repeat first|(refine sA rfl ?_ ?_;first|exact tI|omega|simp only[oZ] at *;omega) |(refine s4 rfl ‹_› rfl ?_ ?_;omega) |refine sP rfl (Fe l hlb.1 (by omega)) rfl ?_ |refine aU rfl ?_ |refine Aa ?_)
    refine ⟨⟨⟨k+1,w++[UInt8.ofNat (97+l.toNat)]⟩,by dsimp only;omega,by simp;omega⟩,by dsimp only;(omega),[],?_⟩
    (simp[cX,zC,hΓ,cN]<;>rfl)
  · refine aE ?_
    (repeat first|refine tA rfl ?_ |refine aU rfl ?_ |refine Aa ?_)
    refine aR ⟨_,rfl,[],eT w,[],⟨by intro i hi;omega,by decide⟩,rfl,trivial,w,by show w.length≤6;omega,rfl,rfl,rfl⟩
theorem EW (s:W):Spec Tryz.prog TB 186 [] 0 [eT s] (Cv (fun _:Int×Bool=>True) (fun r=>.t [(false,[.d (iD r.1)]),(false,[.d (bD r.2)])])):=by
  refine eR Tryz.func186 rfl (by kernel_rfl) rfl ?_;intro Γ hΓ
  (repeat first|refine tA rfl ?_ |refine aU rfl ?_ |refine Aa ?_)
  refine aB ?_
  refine aL (α:={k:Nat // k≤64}) [0] [] rfl rfl (fun s=>[(4,eI .i64 s.1)]) (fun s=>[]) 0 (fun s=>64 - s.1) (⟨0,by omega⟩) hΓ rfl (by (simp[cX,zC,hΓ])) ?_;rintro ⟨k,hk⟩;(try dsimp only[cA,cB])
  (repeat first|refine tA rfl ?_ |refine s2 rfl fun _ _hb=>?_ |refine aU rfl ?_ |refine Aa ?_)
  ((refine aC rfl ?_ ?_<;>rintro ⟨⟩);all_goals try (simp at _hb;done))
  · have hlt:k < 64:=by (simp only[oZ] at *;omega)
    refine aK ?_
    refine aS (aB ?_)
    (repeat first|refine tA rfl ?_ |refine aU rfl ?_)
    (refine pW rfl ?_ rfl (by rfl);refine Ac [] rfl rfl (Dl (TB:=TB) (k:Int)) ⟨rfl,by decide,by decide⟩ rfl trivial ?_;rintro x0 σ1 nx1 ⟨r,hr,rfl,rfl,rfl⟩ _)
    (repeat first|refine tA rfl ?_ |refine s2 rfl fun _ _hb=>?_ |refine Aa ?_)
    (refine aC rfl ?_ ?_<;>rintro ⟨⟩)
    · (repeat first|refine tA rfl ?_ |refine aU rfl ?_ |refine Aa ?_)
      refine aR ⟨_,rfl,[],.t [(false,[.d (iD k)]),(false,[.d (bD true)])],[],⟨by intro i hi;omega,by decide⟩,rfl,trivial,(k,true),trivial,rfl,rfl,rfl⟩
    · refine aK ?_
      (repeat first|(refine sA rfl ?_ ?_;first|exact tI|omega) |refine aU rfl ?_ |refine Aa ?_)
      refine ⟨⟨k+1,by omega⟩,by dsimp only;(omega),[],?_⟩
      (simp[cX,zC,hΓ,cN]<;>rfl)
  · refine aE ?_
    (repeat first|refine tA rfl ?_ |refine aU rfl ?_ |refine Aa ?_)
    refine aR ⟨_,rfl,[],.t [(false,[.d (iD 0)]),(false,[.d (bD false)])],[],⟨by intro i hi;omega,by decide⟩,rfl,trivial,(0,false),trivial,rfl,rfl,rfl⟩
theorem IU (w0:W) (hs:w0.length≤1000000) (c:UInt8):Spec Tryz.prog TB 185 [] 0 [eT w0,eI .u8 c.toNat] (Cv (fun r:List W=>1≤r.length∧r.length≤w0.length+1∧∀w∈r,w.length≤w0.length) Bk):=by
  refine eR Tryz.func185 rfl (by kernel_rfl) rfl ?_;intro Γ hΓ
  (repeat first|refine tX rfl ?_ |refine aU rfl ?_ |refine Aa ?_)
  (refine pW rfl ?_ rfl (by rfl);refine Bg rfl rfl rfl rfl (by simp) (by rfl) (by rfl) (by rfl) (by rfl) ?_)
  (repeat first|refine tX rfl ?_ |refine aU rfl ?_ |refine Aa ?_)
  refine aB ?_
  refine aL (α:={z:Nat×Nat×List W // z.1≤w0.length+1∧z.2.1≤z.1∧z.2.2.length≤z.1∧(z.1=w0.length+1→1≤z.2.2.length)∧∀w∈z.2.2,w.length≤w0.length}) [0,1] [] rfl rfl (fun s=>[(5,.o (.arr 0 1 0 s.1.2.2.length)),(6,eI .i64 s.1.2.1),(7,eI .i64 s.1.1)]) (fun s=>[(0,.cells 9 1 (s.1.2.2.map AH))]) 1 (fun s=>w0.length+1 - s.1.1) (⟨⟨0,0,[]⟩,by simp⟩) hΓ rfl (by (simp[cX,zC,hΓ])) ?_;rintro ⟨⟨k,fr,r⟩,hk,hf,hr,hr1,hw⟩;(try dsimp only[cA,cB])
  have hk:k≤w0.length+1:=hk
  have hf:fr≤k:=hf
  have hr:r.length≤k:=hr
  have hr1:k=w0.length+1→1≤r.length:=hr1
  (repeat first|refine tA rfl ?_ |refine s2 rfl fun _ _hb=>?_ |refine aU rfl ?_ |refine Aa ?_)
  ((refine aC rfl ?_ ?_<;>rintro ⟨⟩);all_goals try (simp at _hb;done))
  · have hlt:k≤w0.length:=by (simp only[oZ] at *;omega)
    refine aK ?_
    refine aS (aB ?_)
    have hx:k=w0.length∨∃e,w0[(k:Int).toNat]? = some e:=by
      rcases Nat.lt_or_ge k w0.length with h|h
      · obtain ⟨e,he⟩:=get_some (l:=w0) (k:=(k:Int).toNat) (by omega)
        exact .inr ⟨e,he⟩
      · exact .inl (by omega)
    rcases hx with hx|⟨e,he⟩
    all_goals (repeat' first|refine tA rfl ?_ |(refine s4 rfl ‹_› rfl ?_ ?_;omega) |refine s2 rfl fun _ _hb=>?_|(refine Ag rfl ?_;refine gA rfl ?_;first| refine gS (fun _ _=>Nr rfl rfl rfl (by simp [IY]) (by simp [IY,IS];omega) (by simp [IS];omega)) ?_) |refine s3 rfl ?_ ?_<;>rintro rfl |refine aU rfl ?_ |refine Aa ?_|(refine aC rfl ?_ ?_<;>rintro ⟨⟩))
    all_goals first
      | (exfalso;(simp only[oZ] at *;omega);done)
      | (refine aK ?_
         (repeat first|(refine sA rfl ?_ ?_;first|exact tI|omega) |refine aU rfl ?_ |refine Aa ?_)
         refine ⟨⟨⟨k+1,fr,r⟩,by dsimp only;omega,by dsimp only;omega,by dsimp only;omega,by dsimp only;intro h9;exfalso;(simp only[oZ] at *;omega),hw⟩,by dsimp only;(omega),[0],?_⟩
         (simp[cX,zC,hΓ,cN]<;>rfl)
         done)
      | ((refine pW rfl ?_ rfl (by rfl);refine Av rfl rfl rfl (by first| (simp;done)|(simp;(omega))) rfl (by intro r hr;simp at hr;subst hr;rfl) (by rfl) (Nat.le_of_ble_eq_true rfl) (by simp;omega) ?_)
         (repeat first|(refine sA rfl ?_ ?_;first|exact tI|omega) |refine aU rfl ?_ |refine Aa ?_)
         have hw2:∀w∈r++[(w0.take k).drop fr],w.length≤w0.length:=fun w hm=>by
           rcases List.mem_append.1 hm with hm|hm
           · exact hw w hm
           · simp at hm;subst hm;simp;omega
         refine ⟨⟨⟨k+1,k+1,r++[(w0.take k).drop fr]⟩,by dsimp only;omega,by dsimp only;omega,by simp;omega,by simp,hw2⟩,by dsimp only;(omega),[1],?_⟩
         (simp[cX,zC,hΓ,cN,IY,IS]<;>rfl))
  · have hkn:k=w0.length+1:=by (simp only[oZ] at *;omega)
    refine aE ?_
    (repeat first|refine tA rfl ?_ |refine aU rfl ?_ |refine Aa ?_)
    refine Ai.settle [(4,Bk r)] ⟨⟨_,rfl,.o (.full rfl (by simp [Function.comp_def]) (by simp))⟩,trivial⟩ ?_
    refine aR ⟨_,rfl,[],Bk r,[],⟨by intro i hi;omega,by decide⟩,rfl,trivial,r,⟨hr1 hkn,by omega,hw⟩,rfl,rfl,rfl⟩
abbrev Si (r:Int×Bool):E:=.t [(false,[.d (iD r.1)]),(false,[.d (bD r.2)])]
theorem SJ {z:Int} (h:0≤z∧z < 256):[[D.v (.int .u8 z)]]=[UInt8.ofNat z.toNat].map Yd:=by
  have h2:z.toNat % 256=z.toNat:=Nat.mod_eq_of_lt (by omega)
  have h3:((z.toNat:Nat):Int)=z:=by omega
  simp [Yd,h2,h3]
theorem Fc (n:Int) (hn:0≤n∧n < 100):Spec Tryz.prog TB 204 [] 0 [eI .i64 n] (Cv (fun r:W=>r.length≤3) eT):=by
  refine eR Tryz.func204 rfl (by kernel_rfl) rfl ?_;intro Γ hΓ
  (repeat first|refine tA rfl ?_ |refine s2 rfl fun _ _hb=>?_ |refine aU rfl ?_ |refine Aa ?_)
  ((refine aC rfl ?_ ?_<;>rintro ⟨⟩);all_goals try (simp at _hb;done))
  · exfalso;(simp only[oZ] at *;omega)
  refine aK ?_
  (repeat first|refine tA rfl ?_ |refine s2 rfl fun _ _hb=>?_ |refine aU rfl ?_ |refine Aa ?_)
  ((refine aC rfl ?_ ?_<;>rintro ⟨⟩);all_goals try (simp at _hb;done))
  · exfalso;(simp only[oZ] at *;omega)
  refine aK ?_
  (repeat first|refine tA rfl ?_ |refine aU rfl ?_ |refine Aa ?_)
  refine aB ?_
  refine aL (α:={s:Int×W // (0≤s.1∧s.1 < 100)∧s.2.length≤2∧(9 < s.1→s.2.length≤1)}) [] [] rfl rfl (fun s=>[(0,eI .i64 s.1.1),(3,eT s.1.2)]) (fun s=>[]) 0 (fun s=>s.1.1.toNat) (⟨⟨n,[]⟩,by simp;omega⟩) hΓ rfl (by (simp[cX,zC,hΓ])) ?_;rintro ⟨⟨q,w⟩,hq,hw,hw2⟩;(try dsimp only[cA,cB])
  have hq:0≤q∧q < 100:=hq
  have hw:w.length≤2:=hw
  have hw2:9 < q→w.length≤1:=hw2
  (repeat first|refine tA rfl ?_ |refine s2 rfl fun _ _hb=>?_ |refine aU rfl ?_ |refine Aa ?_)
  ((refine aC rfl ?_ ?_<;>rintro ⟨⟩);all_goals try (simp at _hb;done))
  · have hlt:9 < q:=by (simp only[oZ] at *;omega)
    have hw3:=hw2 hlt
    refine aK ?_
    refine aB ?_
    (repeat first|(refine sA rfl ?_ ?_;first|exact tI|omega|simp only[oZ] at *;omega)|(refine Ag rfl ?_;refine gA rfl ?_;first| refine gS (fun _ _=>Nt _ rfl (SJ (by omega))) ?_) |refine aU rfl ?_ |refine Aa ?_)
    refine ⟨⟨⟨q / 10,[UInt8.ofNat (48+q % 10).toNat]++w⟩,⟨by dsimp only;omega,by dsimp only;omega⟩,by simp;omega,fun h9=>by exfalso;dsimp only at h9;omega⟩,by dsimp only;(omega),[],?_⟩
    (simp[cX,zC,hΓ,cN]<;>rfl)
  · refine aE ?_
    (repeat first|(refine sA rfl ?_ ?_;first|exact tI|omega|simp only[oZ] at *;omega)|(refine Ag rfl ?_;refine gA rfl ?_;first| refine gS (fun _ _=>Nt _ rfl (SJ (by omega))) ?_) |refine aU rfl ?_ |refine Aa ?_)
    refine aR ⟨_,rfl,[],eT ([UInt8.ofNat (48+q).toNat]++w),[],⟨by intro i hi;omega,by decide⟩,rfl,trivial,[UInt8.ofNat (48+q).toNat]++w,by simp;omega,rfl,rfl,rfl⟩
theorem Iv (k:Nat) (hk:k < 17):(10 ^ (k+1):Nat)=10 ^ k*10∧(10 ^ k:Nat)≤100000000000000000:=⟨Nat.pow_succ ..,Nat.le_trans (Nat.pow_le_pow_right (by omega) (Nat.le_of_lt hk)) (by decide)⟩
theorem GM (s0:W) (hs:s0.length≤1000000):Spec Tryz.prog TB 187 [] 0 [eT s0] (Cv (fun _:Int×Bool=>True) Si):=by
  by_cases z0:s0.length=0
  · refine eR Tryz.func187 rfl (by kernel_rfl) rfl ?_;intro Γ hΓ
    (repeat' first|refine tA rfl ?_ |refine s2 rfl fun _ _hb=>?_|(refine Ag rfl ?_;refine gA rfl ?_;first| refine gS (fun _ _=>Eb rfl rfl (by omega) (by omega)) ?_) |refine s3 rfl ?_ ?_<;>rintro rfl |refine aU rfl ?_ |refine Aa ?_|(refine aC rfl ?_ ?_<;>rintro ⟨⟩)|refine aK ?_)
    all_goals first
      | (exfalso;(simp only[oZ] at *;omega);done)
      | refine aR ⟨_,rfl,[],Si (0,false),[],⟨by intro i hi;omega,by decide⟩,rfl,trivial,(0,false),trivial,rfl,rfl,rfl⟩
  obtain ⟨c,h0⟩:=get_some (l:=s0) (k:=(0:Int).toNat) (by simp;omega)
  have h1:1 < s0.length→∃d,(s0.drop (Int.toNat 1))[(0:Int).toNat]? = some d:=fun h=>get_some (by simp;omega)
  have hlen:∀m:Nat,(s0.drop m).length=s0.length - m:=fun m=>List.length_drop
  by_cases z1:s0.length=1
  · refine eR Tryz.func187 rfl (by kernel_rfl) rfl ?_;intro Γ hΓ
    (repeat' first|refine tA rfl ?_ |(refine s4 rfl ‹_› rfl ?_ ?_;omega) |refine s2 rfl fun _ _hb=>?_|(refine Ag rfl ?_;refine gA rfl ?_;first| refine gS (fun _ _=>Eb rfl rfl (by omega) (by omega)) ?_) |refine s3 rfl ?_ ?_<;>rintro rfl |refine aU rfl ?_ |refine Aa ?_|(refine aC rfl ?_ ?_<;>rintro ⟨⟩)|refine aK ?_)
    all_goals first
      | (exfalso;(simp only[oZ] at *;omega);done)
      | refine aR ⟨_,rfl,[],Si (0,false),[],⟨by intro i hi;omega,by decide⟩,rfl,trivial,(0,false),trivial,rfl,rfl,rfl⟩
      | (exfalso;simp only [oZ,hlen] at *;omega)
      | skip
    · have h17:(s0).length≤17:=by omega
      refine aB ?_
      refine aL (α:={s:Nat×Int // s.1≤(s0).length∧0≤s.2∧s.2 < ((10 ^ s.1:Nat):Int)}) [0,4] [] rfl rfl (fun s=>[(5,eI .i64 s.1.2),(6,eI .i64 s.1.1)]) (fun s=>[]) 0 (fun s=>(s0).length - s.1.1) (⟨⟨0,0⟩,by simp⟩) hΓ rfl (by (simp[cX,zC,hΓ])) ?_;rintro ⟨⟨k,n⟩,hk,hn0,hn⟩;(try dsimp only[cA,cB])
      have hk:k≤(s0).length:=hk
      have hn0:0≤n:=hn0
      have hn:n < ((10 ^ k:Nat):Int):=hn
      (repeat first|refine tA rfl ?_ |refine s2 rfl fun _ _hb=>?_ |refine aU rfl ?_ |refine Aa ?_)
      ((refine aC rfl ?_ ?_<;>rintro ⟨⟩);all_goals try (simp at _hb;done))
      · have hlt:k < (s0).length:=by (simp only[oZ] at *;omega)
        obtain ⟨e,he⟩:=get_some (l:=s0) (k:=(k:Int).toNat) (by omega)
        have hel:=e.toNat_lt
        obtain ⟨t1,t2⟩:=Iv k (by omega)
        refine aK ?_
        refine aS (aB ?_)
        (repeat' first|(refine sA rfl ?_ ?_;first|exact tI|omega|simp only[oZ] at *;omega) |(refine s4 rfl ‹_› rfl ?_ ?_;omega) |refine s2 rfl fun _ _hb=>?_|(refine Ag rfl ?_;refine gA rfl ?_;first| refine gS (fun _ _=>Eb rfl rfl (by omega) (by omega)) ?_) |refine s3 rfl ?_ ?_<;>rintro rfl |refine aU rfl ?_ |refine Aa ?_|(refine aC rfl ?_ ?_<;>rintro ⟨⟩)|refine aK ?_)
        all_goals first
          | (exfalso;omega;done)
          | refine aR ⟨_,rfl,[],Si (0,false),[],⟨by intro i hi;omega,by decide⟩,rfl,trivial,(0,false),trivial,rfl,rfl,rfl⟩
          | (refine ⟨⟨⟨k+1,n*10+((e.toNat:Int) - 48)⟩,by dsimp only;omega,by dsimp only;(simp only[oZ] at *;omega),by dsimp only;rw [t1];(simp only[oZ] at *;omega)⟩,by dsimp only;(omega),[],?_⟩
             (simp[cX,zC,hΓ,cN]<;>rfl))
      · refine aE ?_
        have hP:(10 ^ k:Nat)≤100000000000000000:=Nat.le_trans (Nat.pow_le_pow_right (by omega) (Nat.le_trans hk h17)) (by decide)
        (repeat' first|refine tA rfl ?_|(refine Ag rfl ?_;refine gA rfl ?_;first| refine gS (fun _ _=>OJ rfl (IntWalk.i64_in _ (by omega))) ?_) |refine aU rfl ?_ |refine Aa ?_|(refine aC rfl ?_ ?_<;>rintro ⟨⟩)|refine aK ?_)
        exact aR ⟨_,rfl,[],Si (n,true),[],⟨fun i hi=>absurd hi (Nat.not_lt_zero i),List.nodup_nil⟩,rfl,trivial,(n,true),trivial,rfl,rfl,rfl⟩
    · have h17:(s0).length≤17:=by omega
      refine aB ?_
      refine aL (α:={s:Nat×Int // s.1≤(s0).length∧0≤s.2∧s.2 < ((10 ^ s.1:Nat):Int)}) [0,4] [] rfl rfl (fun s=>[(5,eI .i64 s.1.2),(6,eI .i64 s.1.1)]) (fun s=>[]) 0 (fun s=>(s0).length - s.1.1) (⟨⟨0,0⟩,by simp⟩) hΓ rfl (by (simp[cX,zC,hΓ])) ?_;rintro ⟨⟨k,n⟩,hk,hn0,hn⟩;(try dsimp only[cA,cB])
      have hk:k≤(s0).length:=hk
      have hn0:0≤n:=hn0
      have hn:n < ((10 ^ k:Nat):Int):=hn
      (repeat first|refine tA rfl ?_ |refine s2 rfl fun _ _hb=>?_ |refine aU rfl ?_ |refine Aa ?_)
      ((refine aC rfl ?_ ?_<;>rintro ⟨⟩);all_goals try (simp at _hb;done))
      · have hlt:k < (s0).length:=by (simp only[oZ] at *;omega)
        obtain ⟨e,he⟩:=get_some (l:=s0) (k:=(k:Int).toNat) (by omega)
        have hel:=e.toNat_lt
        obtain ⟨t1,t2⟩:=Iv k (by omega)
        refine aK ?_
        refine aS (aB ?_)
        (repeat' first|(refine sA rfl ?_ ?_;first|exact tI|omega|simp only[oZ] at *;omega) |(refine s4 rfl ‹_› rfl ?_ ?_;omega) |refine s2 rfl fun _ _hb=>?_|(refine Ag rfl ?_;refine gA rfl ?_;first| refine gS (fun _ _=>Eb rfl rfl (by omega) (by omega)) ?_) |refine s3 rfl ?_ ?_<;>rintro rfl |refine aU rfl ?_ |refine Aa ?_|(refine aC rfl ?_ ?_<;>rintro ⟨⟩)|refine aK ?_)
        all_goals first
          | (exfalso;omega;done)
          | refine aR ⟨_,rfl,[],Si (0,false),[],⟨by intro i hi;omega,by decide⟩,rfl,trivial,(0,false),trivial,rfl,rfl,rfl⟩
          | (refine ⟨⟨⟨k+1,n*10+((e.toNat:Int) - 48)⟩,by dsimp only;omega,by dsimp only;(simp only[oZ] at *;omega),by dsimp only;rw [t1];(simp only[oZ] at *;omega)⟩,by dsimp only;(omega),[],?_⟩
             (simp[cX,zC,hΓ,cN]<;>rfl))
      · refine aE ?_
        have hP:(10 ^ k:Nat)≤100000000000000000:=Nat.le_trans (Nat.pow_le_pow_right (by omega) (Nat.le_trans hk h17)) (by decide)
        (repeat' first|refine tA rfl ?_|(refine Ag rfl ?_;refine gA rfl ?_;first| refine gS (fun _ _=>OJ rfl (IntWalk.i64_in _ (by omega))) ?_) |refine aU rfl ?_ |refine Aa ?_|(refine aC rfl ?_ ?_<;>rintro ⟨⟩)|refine aK ?_)
        exact aR ⟨_,rfl,[],Si (n,true),[],⟨fun i hi=>absurd hi (Nat.not_lt_zero i),List.nodup_nil⟩,rfl,trivial,(n,true),trivial,rfl,rfl,rfl⟩
  obtain ⟨d,h1⟩:=h1 (by omega)
  refine eR Tryz.func187 rfl (by kernel_rfl) rfl ?_;intro Γ hΓ
  (repeat' first|refine tA rfl ?_ |(refine s4 rfl ‹_› rfl ?_ ?_;omega) |refine s2 rfl fun _ _hb=>?_|(refine Ag rfl ?_;refine gA rfl ?_;first| refine gS (fun _ _=>Eb rfl rfl (by omega) (by omega)) ?_) |refine s3 rfl ?_ ?_<;>rintro rfl |refine aU rfl ?_ |refine Aa ?_|(refine aC rfl ?_ ?_<;>rintro ⟨⟩)|refine aK ?_)
  all_goals first
    | (exfalso;(simp only[oZ] at *;omega);done)
    | refine aR ⟨_,rfl,[],Si (0,false),[],⟨by intro i hi;omega,by decide⟩,rfl,trivial,(0,false),trivial,rfl,rfl,rfl⟩
    | (exfalso;simp only [oZ,hlen] at *;omega)
    | skip
  · have h17:(List.drop (Int.toNat 1) s0).length≤17:=by (simp only[oZ] at *;omega)
    refine aB ?_
    refine aL (α:={s:Nat×Int // s.1≤(List.drop (Int.toNat 1) s0).length∧0≤s.2∧s.2 < ((10 ^ s.1:Nat):Int)}) [0,4] [] rfl rfl (fun s=>[(5,eI .i64 s.1.2),(6,eI .i64 s.1.1)]) (fun s=>[]) 0 (fun s=>(List.drop (Int.toNat 1) s0).length - s.1.1) (⟨⟨0,0⟩,by simp⟩) hΓ rfl (by (simp[cX,zC,hΓ])) ?_;rintro ⟨⟨k,n⟩,hk,hn0,hn⟩;(try dsimp only[cA,cB])
    have hk:k≤(List.drop (Int.toNat 1) s0).length:=hk
    have hn0:0≤n:=hn0
    have hn:n < ((10 ^ k:Nat):Int):=hn
    (repeat first|refine tA rfl ?_ |refine s2 rfl fun _ _hb=>?_ |refine aU rfl ?_ |refine Aa ?_)
    ((refine aC rfl ?_ ?_<;>rintro ⟨⟩);all_goals try (simp at _hb;done))
    · have hlt:k < (List.drop (Int.toNat 1) s0).length:=by (simp only[oZ] at *;omega)
      obtain ⟨e,he⟩:=get_some (l:=List.drop (Int.toNat 1) s0) (k:=(k:Int).toNat) (by omega)
      have hel:=e.toNat_lt
      obtain ⟨t1,t2⟩:=Iv k (by omega)
      refine aK ?_
      refine aS (aB ?_)
      (repeat' first|(refine sA rfl ?_ ?_;first|exact tI|omega|simp only[oZ] at *;omega) |(refine s4 rfl ‹_› rfl ?_ ?_;omega) |refine s2 rfl fun _ _hb=>?_|(refine Ag rfl ?_;refine gA rfl ?_;first| refine gS (fun _ _=>Eb rfl rfl (by omega) (by omega)) ?_) |refine s3 rfl ?_ ?_<;>rintro rfl |refine aU rfl ?_ |refine Aa ?_|(refine aC rfl ?_ ?_<;>rintro ⟨⟩)|refine aK ?_)
      all_goals first
        | (exfalso;omega;done)
        | refine aR ⟨_,rfl,[],Si (0,false),[],⟨by intro i hi;omega,by decide⟩,rfl,trivial,(0,false),trivial,rfl,rfl,rfl⟩
        | (refine ⟨⟨⟨k+1,n*10+((e.toNat:Int) - 48)⟩,by dsimp only;omega,by dsimp only;(simp only[oZ] at *;omega),by dsimp only;rw [t1];(simp only[oZ] at *;omega)⟩,by dsimp only;(omega),[],?_⟩
           (simp[cX,zC,hΓ,cN]<;>rfl))
    · refine aE ?_
      have hP:(10 ^ k:Nat)≤100000000000000000:=Nat.le_trans (Nat.pow_le_pow_right (by omega) (Nat.le_trans hk h17)) (by decide)
      (repeat' first|refine tA rfl ?_|(refine Ag rfl ?_;refine gA rfl ?_;first| refine gS (fun _ _=>OJ rfl (IntWalk.i64_in _ (by omega))) ?_) |refine aU rfl ?_ |refine Aa ?_|(refine aC rfl ?_ ?_<;>rintro ⟨⟩)|refine aK ?_)
      exact aR ⟨_,rfl,[],Si (-n,true),[],⟨fun i hi=>absurd hi (Nat.not_lt_zero i),List.nodup_nil⟩,rfl,trivial,(-n,true),trivial,rfl,rfl,rfl⟩
  · have h17:(s0).length≤17:=by (simp only[oZ] at *;omega)
    refine aB ?_
    refine aL (α:={s:Nat×Int // s.1≤(s0).length∧0≤s.2∧s.2 < ((10 ^ s.1:Nat):Int)}) [0,4] [] rfl rfl (fun s=>[(5,eI .i64 s.1.2),(6,eI .i64 s.1.1)]) (fun s=>[]) 0 (fun s=>(s0).length - s.1.1) (⟨⟨0,0⟩,by simp⟩) hΓ rfl (by (simp[cX,zC,hΓ])) ?_;rintro ⟨⟨k,n⟩,hk,hn0,hn⟩;(try dsimp only[cA,cB])
    have hk:k≤(s0).length:=hk
    have hn0:0≤n:=hn0
    have hn:n < ((10 ^ k:Nat):Int):=hn
    (repeat first|refine tA rfl ?_ |refine s2 rfl fun _ _hb=>?_ |refine aU rfl ?_ |refine Aa ?_)
    ((refine aC rfl ?_ ?_<;>rintro ⟨⟩);all_goals try (simp at _hb;done))
    · have hlt:k < (s0).length:=by (simp only[oZ] at *;omega)
      obtain ⟨e,he⟩:=get_some (l:=s0) (k:=(k:Int).toNat) (by omega)
      have hel:=e.toNat_lt
      obtain ⟨t1,t2⟩:=Iv k (by omega)
      refine aK ?_
      refine aS (aB ?_)
      (repeat' first|(refine sA rfl ?_ ?_;first|exact tI|omega|simp only[oZ] at *;omega) |(refine s4 rfl ‹_› rfl ?_ ?_;omega) |refine s2 rfl fun _ _hb=>?_|(refine Ag rfl ?_;refine gA rfl ?_;first| refine gS (fun _ _=>Eb rfl rfl (by omega) (by omega)) ?_) |refine s3 rfl ?_ ?_<;>rintro rfl |refine aU rfl ?_ |refine Aa ?_|(refine aC rfl ?_ ?_<;>rintro ⟨⟩)|refine aK ?_)
      all_goals first
        | (exfalso;omega;done)
        | refine aR ⟨_,rfl,[],Si (0,false),[],⟨by intro i hi;omega,by decide⟩,rfl,trivial,(0,false),trivial,rfl,rfl,rfl⟩
        | (refine ⟨⟨⟨k+1,n*10+((e.toNat:Int) - 48)⟩,by dsimp only;omega,by dsimp only;(simp only[oZ] at *;omega),by dsimp only;rw [t1];(simp only[oZ] at *;omega)⟩,by dsimp only;(omega),[],?_⟩
           (simp[cX,zC,hΓ,cN]<;>rfl))
    · refine aE ?_
      have hP:(10 ^ k:Nat)≤100000000000000000:=Nat.le_trans (Nat.pow_le_pow_right (by omega) (Nat.le_trans hk h17)) (by decide)
      (repeat' first|refine tA rfl ?_|(refine Ag rfl ?_;refine gA rfl ?_;first| refine gS (fun _ _=>OJ rfl (IntWalk.i64_in _ (by omega))) ?_) |refine aU rfl ?_ |refine Aa ?_|(refine aC rfl ?_ ?_<;>rintro ⟨⟩)|refine aK ?_)
      exact aR ⟨_,rfl,[],Si (n,true),[],⟨fun i hi=>absurd hi (Nat.not_lt_zero i),List.nodup_nil⟩,rfl,trivial,(n,true),trivial,rfl,rfl,rfl⟩
abbrev Zh (r:List Int×Bool):E:=.t [(false,[.d (E9 r.1)]),(false,[.d (bD r.2)])]
theorem Pt (w0:W) (hs:w0.length≤1000000):Spec Tryz.prog TB 190 [] 0 [eT w0] (Cv (fun r:List Int×Bool=>r.1.length≤w0.length+1) Zh):=by
  refine eR Tryz.func190 rfl (by kernel_rfl) rfl ?_;intro Γ hΓ
  (repeat first|refine tX rfl ?_ |refine aU rfl ?_ |refine Aa ?_)
  (refine pW rfl ?_ rfl (by rfl);refine Bg rfl rfl rfl rfl (by simp) (by rfl) (by rfl) (by rfl) (by rfl) ?_)
  (repeat first|refine tX rfl ?_ |refine s2 rfl fun _ _hb=>?_ |refine aU rfl ?_ |refine Aa ?_)
  (refine aC rfl ?_ ?_<;>rintro ⟨⟩)
  · (repeat first|refine tX rfl ?_ |refine aU rfl ?_ |refine Aa ?_)
    refine Ai.settle [(2,A7 []),(3,eB true)] ⟨⟨_,rfl,.o (.full rfl (by simp) (by simp))⟩,⟨_,rfl,.o .d⟩,trivial⟩ ?_
    exact aR ⟨_,rfl,[],Zh ([],true),[],⟨fun i hi=>absurd hi (Nat.not_lt_zero i),List.nodup_nil⟩,rfl,trivial,([],true),Nat.zero_le _,rfl,rfl,rfl⟩
  refine aK ?_
  (repeat first|refine tA rfl ?_ |refine aU rfl ?_)
  (refine pW rfl ?_ rfl (by rfl);refine Ac [] rfl rfl (IU (TB:=TB) w0 hs 44) ⟨rfl,by decide,by decide⟩ rfl trivial ?_;rintro x0 σ1 nx1 ⟨ps,⟨hp1,hp2,hp3⟩,rfl,rfl,rfl⟩ _)
  (repeat first|refine tA rfl ?_ |refine aU rfl ?_ |refine Aa ?_)
  refine aB ?_
  refine aL (α:={z:Nat×List Int // z.1≤ps.length∧z.2.length=z.1}) [5] [] rfl rfl (fun s=>[(4,.o (.arr 0 1 0 s.1.2.length)),(6,eI .i64 s.1.1)]) (fun s=>[(0,.cells 3 1 (s.1.2.map AY))]) 1 (fun s=>ps.length - s.1.1) (⟨⟨0,[]⟩,by simp⟩) hΓ rfl (by (simp[cX,zC,hΓ])) ?_;rintro ⟨⟨k,r⟩,hk,hr⟩;(try dsimp only[cA,cB])
  have hk:k≤ps.length:=hk
  have hr:r.length=k:=hr
  (repeat first|refine sN rfl ?_ |refine tA rfl ?_ |refine s2 rfl fun _ _hb=>?_ |refine aU rfl ?_ |refine Aa ?_)
  ((refine aC rfl ?_ ?_<;>rintro ⟨⟩);all_goals try (simp at _hb;done))
  · have hlt:k < ps.length:=by (simp only[oZ] at *;omega)
    obtain ⟨w,hw⟩:=get_some (l:=ps) (k:=k) hlt
    have hw':=get_map (g:=BI) hw
    have hwl:=hp3 w (List.mem_of_getElem? hw)
    refine aK ?_
    refine aS (aB ?_)
    (repeat first|refine tA rfl ?_ |(refine s4 rfl ‹_› rfl ?_ ?_;omega) |refine aU rfl ?_)
    (refine pW rfl ?_ rfl (by rfl);refine Ac [] rfl rfl (GM (TB:=TB) w (by omega)) ⟨rfl,by decide,by decide⟩ rfl trivial ?_;rintro x0 σ1 nx1 ⟨⟨n,ok⟩,_,rfl,rfl,rfl⟩ _)
    (repeat first|refine tA rfl ?_ |refine s2 rfl fun _ _hb=>?_ |refine aU rfl ?_ |refine Aa ?_)
    (refine aC rfl ?_ ?_<;>rintro ⟨⟩)
    · (repeat first|refine tA rfl ?_ |refine aU rfl ?_ |refine Aa ?_)
      exact aR ⟨_,rfl,[],Zh ([],false),[],⟨fun i hi=>absurd hi (Nat.not_lt_zero i),List.nodup_nil⟩,rfl,trivial,([],false),Nat.zero_le _,rfl,rfl,rfl⟩
    refine aK ?_
    (repeat first|refine tA rfl ?_ |refine aU rfl ?_)
    (refine pW rfl ?_ rfl (by rfl);refine Av rfl rfl rfl (by first| (simp;done)|(simp;(omega))) rfl (by intro r hr;simp at hr;subst hr;rfl) (by rfl) (Nat.le_of_ble_eq_true rfl) (by simp;omega) ?_)
    (repeat first|(refine sA rfl ?_ ?_;first|exact tI|omega) |refine aU rfl ?_ |refine Aa ?_)
    refine ⟨⟨⟨k+1,r++[n]⟩,by dsimp only;omega,by simp;omega⟩,by dsimp only;(omega),[1],?_⟩
    (simp[cX,zC,hΓ,cN]<;>rfl)
  · refine aE ?_
    (repeat first|refine tA rfl ?_ |refine aU rfl ?_ |refine Aa ?_)
    refine Ai.settle [(2,A7 r),(3,eB true)] ⟨⟨_,rfl,.o (.full rfl (by simp [Function.comp_def]) (by simp))⟩,⟨_,rfl,.o .d⟩,trivial⟩ ?_
    exact aR ⟨_,rfl,[],Zh (r,true),[],⟨fun i hi=>absurd hi (Nat.not_lt_zero i),List.nodup_nil⟩,rfl,trivial,(r,true),by show r.length≤_;omega,rfl,rfl,rfl⟩
theorem Eg (a:Ci):Spec Tryz.prog TB 191 [] 0 [BH a] (Cv (fun r:W=>r.length≤1000) eT):=by
  refine eR Tryz.func191 rfl (by kernel_rfl) rfl ?_;intro Γ hΓ
  (repeat first|refine tA rfl ?_ |refine s2 rfl fun _ _hb=>?_ |(refine sC rfl (Bt a) ?_;intro _ _hb) |refine aU rfl ?_ |refine Aa ?_)
  (refine aC rfl ?_ ?_<;>rintro ⟨⟩)
  · (repeat first|refine tA rfl ?_ |refine aU rfl ?_ |refine Aa ?_)
    exact aR ⟨_,rfl,[],eT [],[],⟨fun i hi=>absurd hi (Nat.not_lt_zero i),List.nodup_nil⟩,rfl,trivial,[],Nat.zero_le _,rfl,rfl,rfl⟩
  have hok:Bh a=true:=by (simp at _hb;subst _hb;assumption)
  obtain ⟨_,hn1,hn2,hac⟩:=AX hok
  have hla:(Af a.al).length≤6:=AM a.al 6
  refine aK ?_
  (repeat first|refine tA rfl ?_ |refine aU rfl ?_)
  (refine pW rfl ?_ rfl (by rfl);refine Ac [] rfl rfl (Dl (TB:=TB) a.al) ⟨rfl,by decide,by decide⟩ rfl trivial ?_;rintro x0 σ1 nx1 ⟨w0,hw0,rfl,rfl,rfl⟩ _)
  (repeat first|refine tA rfl ?_ |refine aU rfl ?_ |refine Aa ?_)
  refine aB ?_
  refine aL (α:={z:Nat×W // z.1≤a.nx.length∧z.2.length≤6+30*z.1}) [1] [] rfl rfl (fun s=>[(3,eT s.1.2),(4,eI .i64 s.1.1)]) (fun s=>[]) 0 (fun s=>a.nx.length - s.1.1) (⟨⟨0,w0⟩,by simp;omega⟩) hΓ rfl (by (simp[cX,zC,hΓ])) ?_;rintro ⟨⟨k,w⟩,hk,hw⟩;(try dsimp only[cA,cB])
  have hk:k≤a.nx.length:=hk
  have hw:w.length≤6+30*k:=hw
  (repeat first|refine sN rfl ?_ |refine tA rfl ?_ |refine s2 rfl fun _ _hb=>?_ |refine aU rfl ?_ |refine Aa ?_)
  ((refine aC rfl ?_ ?_<;>rintro ⟨⟩);all_goals try (simp at _hb;done))
  · have hlt:k < a.nx.length:=by (simp only[oZ] at *;omega)
    obtain ⟨row,hrow,hrl,hrv⟩:=GF hok hlt
    have hrow':=get_map (g:=fun r:List Int=>[E9 r]) hrow
    obtain ⟨b,hb⟩:=get_some (l:=a.ac) (k:=k) (by omega)
    have hb':=get_map (g:=Lv) hb
    refine aK ?_
    refine aS (aB ?_)
    (repeat first|refine tA rfl ?_ |(refine s4 rfl ‹_› rfl ?_ ?_;omega) |refine aU rfl ?_ |refine Aa ?_)
    (refine aC rfl ?_ ?_<;>rintro ⟨⟩)
    · (repeat first|(refine sA rfl ?_ ?_;first|exact tI|simp only[oZ] at *;omega) |refine aU rfl ?_ |refine Aa ?_)
      refine aB ?_
      refine aL (α:={z:Nat×W // z.1≤row.length∧z.2.length≤8+30*k+4*z.1}) [1,4] [] rfl rfl (fun s=>[(3,eT s.1.2),(6,eI .i64 s.1.1)]) (fun s=>[]) 0 (fun s=>row.length - s.1.1) (⟨⟨0,w++[32,43]⟩,by dsimp only;omega,by simp;omega⟩) hΓ rfl (by (simp[cX,zC,hΓ])) ?_;rintro ⟨⟨j,v⟩,hj,hv⟩;(try dsimp only[cA,cB])
      have hj:j≤row.length:=hj
      have hv:v.length≤8+30*k+4*j:=hv
      (repeat first|refine sN rfl ?_ |refine tA rfl ?_ |(refine s4 rfl ‹_› rfl ?_ ?_;omega) |refine s2 rfl fun _ _hb=>?_ |refine aU rfl ?_ |refine Aa ?_)
      ((refine aC rfl ?_ ?_<;>rintro ⟨⟩);all_goals try (simp at _hb;done))
      · have hjl:j < row.length:=by (simp only[oZ] at *;omega)
        obtain ⟨x,hx⟩:=get_some (l:=row) (k:=j) hjl
        have hx':=get_map (g:=Db) hx
        have hxv:=hrv j x hx
        have hdec:=Fc (TB:=TB) x (by omega)
        refine aK ?_
        refine aS (aB ?_)
        (repeat first|refine tA rfl ?_ |refine s2 rfl fun _ _hb=>?_ |refine aU rfl ?_ |refine Aa ?_)
        (refine aC rfl ?_ ?_<;>rintro ⟨⟩)
        · (repeat first|(refine sA rfl ?_ ?_;first|exact tI|simp only[oZ] at *;omega) |(refine s4 rfl ‹_› rfl ?_ ?_;omega) |refine aU rfl ?_ |refine Aa ?_)
          (refine pW rfl ?_ rfl (by rfl);refine Ac [] rfl rfl (hdec) ⟨rfl,by decide,by decide⟩ rfl trivial ?_;rintro x0 σ1 nx1 ⟨d,hd,rfl,rfl,rfl⟩ _)
          (repeat first|(refine sA rfl ?_ ?_;first|exact tI|omega|simp only[oZ] at *;omega) |refine aU rfl ?_ |refine Aa ?_)
          refine ⟨⟨⟨j+1,v++[44]++d⟩,by dsimp only;omega,by simp;omega⟩,by dsimp only;(omega),[],?_⟩
          (simp[cX,zC,hΓ,cN]<;>rfl)
        · refine aK ?_
          (repeat first|refine tA rfl ?_ |(refine s4 rfl ‹_› rfl ?_ ?_;omega) |refine aU rfl ?_)
          (refine pW rfl ?_ rfl (by rfl);refine Ac [] rfl rfl (hdec) ⟨rfl,by decide,by decide⟩ rfl trivial ?_;rintro x0 σ1 nx1 ⟨d,hd,rfl,rfl,rfl⟩ _)
          (repeat first|(refine sA rfl ?_ ?_;first|exact tI|omega) |refine aU rfl ?_ |refine Aa ?_)
          refine ⟨⟨⟨j+1,v++d⟩,by dsimp only;omega,by simp;omega⟩,by dsimp only;(omega),[],?_⟩
          (simp[cX,zC,hΓ,cN]<;>rfl)
      · refine aE ?_
        (repeat first|(refine sA rfl ?_ ?_;first|exact tI|omega) |refine aU rfl ?_ |refine Aa ?_)
        refine ⟨⟨⟨k+1,v⟩,by dsimp only;omega,by dsimp only;omega⟩,by dsimp only;(omega),[],?_⟩
        (simp[cX,zC,hΓ,cN]<;>rfl)
    · refine aK ?_
      (repeat first|(refine sA rfl ?_ ?_;first|exact tI|simp only[oZ] at *;omega) |refine aU rfl ?_ |refine Aa ?_)
      refine aB ?_
      refine aL (α:={z:Nat×W // z.1≤row.length∧z.2.length≤8+30*k+4*z.1}) [1,4] [] rfl rfl (fun s=>[(3,eT s.1.2),(6,eI .i64 s.1.1)]) (fun s=>[]) 0 (fun s=>row.length - s.1.1) (⟨⟨0,w++[32,45]⟩,by dsimp only;omega,by simp;omega⟩) hΓ rfl (by (simp[cX,zC,hΓ])) ?_;rintro ⟨⟨j,v⟩,hj,hv⟩;(try dsimp only[cA,cB])
      have hj:j≤row.length:=hj
      have hv:v.length≤8+30*k+4*j:=hv
      (repeat first|refine sN rfl ?_ |refine tA rfl ?_ |(refine s4 rfl ‹_› rfl ?_ ?_;omega) |refine s2 rfl fun _ _hb=>?_ |refine aU rfl ?_ |refine Aa ?_)
      ((refine aC rfl ?_ ?_<;>rintro ⟨⟩);all_goals try (simp at _hb;done))
      · have hjl:j < row.length:=by (simp only[oZ] at *;omega)
        obtain ⟨x,hx⟩:=get_some (l:=row) (k:=j) hjl
        have hx':=get_map (g:=Db) hx
        have hxv:=hrv j x hx
        have hdec:=Fc (TB:=TB) x (by omega)
        refine aK ?_
        refine aS (aB ?_)
        (repeat first|refine tA rfl ?_ |refine s2 rfl fun _ _hb=>?_ |refine aU rfl ?_ |refine Aa ?_)
        (refine aC rfl ?_ ?_<;>rintro ⟨⟩)
        · (repeat first|(refine sA rfl ?_ ?_;first|exact tI|simp only[oZ] at *;omega) |(refine s4 rfl ‹_› rfl ?_ ?_;omega) |refine aU rfl ?_ |refine Aa ?_)
          (refine pW rfl ?_ rfl (by rfl);refine Ac [] rfl rfl (hdec) ⟨rfl,by decide,by decide⟩ rfl trivial ?_;rintro x0 σ1 nx1 ⟨d,hd,rfl,rfl,rfl⟩ _)
          (repeat first|(refine sA rfl ?_ ?_;first|exact tI|omega|simp only[oZ] at *;omega) |refine aU rfl ?_ |refine Aa ?_)
          refine ⟨⟨⟨j+1,v++[44]++d⟩,by dsimp only;omega,by simp;omega⟩,by dsimp only;(omega),[],?_⟩
          (simp[cX,zC,hΓ,cN]<;>rfl)
        · refine aK ?_
          (repeat first|refine tA rfl ?_ |(refine s4 rfl ‹_› rfl ?_ ?_;omega) |refine aU rfl ?_)
          (refine pW rfl ?_ rfl (by rfl);refine Ac [] rfl rfl (hdec) ⟨rfl,by decide,by decide⟩ rfl trivial ?_;rintro x0 σ1 nx1 ⟨d,hd,rfl,rfl,rfl⟩ _)
          (repeat first|(refine sA rfl ?_ ?_;first|exact tI|omega) |refine aU rfl ?_ |refine Aa ?_)
          refine ⟨⟨⟨j+1,v++d⟩,by dsimp only;omega,by simp;omega⟩,by dsimp only;(omega),[],?_⟩
          (simp[cX,zC,hΓ,cN]<;>rfl)
      · refine aE ?_
        (repeat first|(refine sA rfl ?_ ?_;first|exact tI|omega) |refine aU rfl ?_ |refine Aa ?_)
        refine ⟨⟨⟨k+1,v⟩,by dsimp only;omega,by dsimp only;omega⟩,by dsimp only;(omega),[],?_⟩
        (simp[cX,zC,hΓ,cN]<;>rfl)
  · refine aE ?_
    (repeat first|refine tA rfl ?_ |refine aU rfl ?_ |refine Aa ?_)
    exact aR ⟨_,rfl,[],eT w,[],⟨fun i hi=>absurd hi (Nat.not_lt_zero i),List.nodup_nil⟩,rfl,trivial,w,by show w.length≤_;omega,rfl,rfl,rfl⟩
abbrev Wi (r:Ci×Bool):E:=.t [(true,[.d (iD r.1.al),.d (DA r.1.nx),.d (FT r.1.ac)]),(false,[.d (bD r.2)])]
def ON (n:Int):List (List Int)→List Bool→Ab
  | [],_=>[(1,.cells 26 3 [[.d (iD n),.d (.v (.slice none 0 0)),.d (.v (.slice none 0 0))]])]
  | r::l,ac=>[(1,.cells 26 3 [[.d (iD n),.arr 2 1 0 (l.length+1),.arr 3 1 0 ac.length]]),(2,.cells 90 1 ((r::l).map Tl)),(3,.cells 4 1 (ac.map AL))]
theorem EC (w0:W) (hs:w0.length≤10000):Spec Tryz.prog TB 156 [] 0 [eT w0] (Cv (fun r:Ci×Bool=>FQ (w0.length+1) r.1) Wi):=by
  have hb0:FQ (w0.length+1) ⟨0,[],[]⟩:=⟨Nat.zero_le _,Nat.zero_le _,fun r hr=>by cases hr⟩
  refine eR Tryz.func156 rfl (by kernel_rfl) rfl ?_;intro Γ hΓ
  (repeat first|refine tA rfl ?_ |refine aU rfl ?_ |refine Aa ?_)
  (refine pW rfl ?_ rfl (by rfl);refine Ac [] rfl rfl (IU (TB:=TB) w0 (by omega) 32) ⟨rfl,by decide,by decide⟩ rfl trivial ?_;rintro x0 σ1 nx1 ⟨ps,⟨hp1,hp2,hp3⟩,rfl,rfl,rfl⟩ _)
  obtain ⟨p0,h0⟩:=get_some (l:=ps) (k:=(0:Int).toNat) (by simp;omega)
  have h0':=get_map (g:=BI) h0
  (repeat first|refine tA rfl ?_ |(refine s4 rfl ‹_› rfl ?_ ?_;omega) |refine aU rfl ?_ |refine Aa ?_)
  (refine pW rfl ?_ rfl (by rfl);refine Ac [] rfl rfl (EW (TB:=TB) p0) ⟨rfl,by decide,by decide⟩ rfl trivial ?_;rintro x0 σ1 nx1 ⟨⟨n,ok⟩,_,rfl,rfl,rfl⟩ _)
  (repeat first|refine tA rfl ?_ |refine s2 rfl fun _ _hb=>?_ |refine aU rfl ?_ |refine Aa ?_)
  (refine aC rfl ?_ ?_<;>rintro ⟨⟩)
  · (repeat first|refine tA rfl ?_|(refine Ag rfl ?_;refine gA rfl ?_;first| refine gS (fun _ _=>Au rfl rfl (by rfl) (by rfl)) ?_) |refine aU rfl ?_ |refine Aa ?_)
    exact aR ⟨_,rfl,[],Wi (⟨0,[],[]⟩,false),[],⟨fun i hi=>absurd hi (Nat.not_lt_zero i),List.nodup_nil⟩,rfl,trivial,(⟨0,[],[]⟩,false),hb0,rfl,rfl,rfl⟩
  refine aK ?_
  by_cases hp9:ps.length=1
  · (repeat first|refine tA rfl ?_|(refine Ag rfl ?_;refine gA rfl ?_;first| refine gS (fun _ _=>Au rfl rfl (by rfl) (by rfl)) ?_) |refine aU rfl ?_ |refine Aa ?_)
    refine aB ?_
    refine aL (α:={k:Nat // k=1}) [0,3] [] rfl rfl (fun s=>[(2,.o (.ptr 0 3 0 0)),(4,Bk ps),(7,.o (.ptr 1 3 0 0)),(8,eI .i64 s.1)]) (fun s=>[(0,.cells 26 3 [[.d (iD 0),.d (.l []),.d (.l [])]]),(1,.cells 26 3 [[.d (iD n),.d (.l []),.d (.l [])]])]) 2 (fun s=>0) (⟨1,rfl⟩) hΓ rfl (by (simp[cX,zC,hΓ,cN])) ?_;rintro ⟨k,hk⟩;(try dsimp only[cA,cB])
    (repeat first|refine sN rfl ?_ |refine tA rfl ?_ |refine s2 rfl fun _ _hb=>?_ |refine aU rfl ?_ |refine Aa ?_)
    ((refine aC rfl ?_ ?_<;>rintro ⟨⟩);all_goals try (simp at _hb;done))
    · exfalso;(simp only[oZ] at *;omega)
    refine aE ?_
    (repeat first|refine tA rfl ?_ |refine aU rfl ?_)
    (refine pW rfl ?_ rfl (by rfl);refine Ac [] rfl rfl (Eg (TB:=TB) ⟨n,[],[]⟩) ⟨rfl,by decide,by decide⟩ rfl trivial ?_;rintro x0 σ1 nx1 ⟨w9,hw9,rfl,rfl,rfl⟩ _)
    (repeat first|refine tA rfl ?_ |refine s2 rfl fun _ _hb=>?_ |refine Aa ?_)
    (refine aC rfl ?_ ?_<;>rintro ⟨⟩)
    · (repeat first|refine tA rfl ?_|(refine Ag rfl ?_;refine gA rfl ?_;first| refine gS (fun _ _=>Au rfl rfl (by rfl) (by rfl)) ?_) |refine aU rfl ?_ |refine Aa ?_)
      exact aR ⟨_,rfl,[],Wi (⟨0,[],[]⟩,false),[],⟨fun i hi=>absurd hi (Nat.not_lt_zero i),List.nodup_nil⟩,rfl,trivial,(⟨0,[],[]⟩,false),hb0,rfl,rfl,rfl⟩
    refine aK ?_
    (repeat first|refine tA rfl ?_ |refine aU rfl ?_ |refine Aa ?_)
    exact aR ⟨_,rfl,[],Wi (⟨n,[],[]⟩,true),[],⟨fun i hi=>absurd hi (Nat.not_lt_zero i),List.nodup_nil⟩,rfl,trivial,(⟨n,[],[]⟩,true),⟨Nat.zero_le _,Nat.zero_le _,fun r hr=>by cases hr⟩,rfl,rfl,rfl⟩
  (repeat first|refine tA rfl ?_|(refine Ag rfl ?_;refine gA rfl ?_;first| refine gS (fun _ _=>KR rfl rfl (by rfl) (by rfl)) ?_) |refine aU rfl ?_ |refine Aa ?_)
  refine aB ?_
  refine aL (α:={z:Nat×List (List Int)×List Bool // (1≤z.1∧z.1≤ps.length)∧z.2.1.length+1=z.1∧z.2.2.length+1=z.1∧∀r∈z.2.1,r.length≤w0.length+1}) [0,3] [] rfl rfl (fun s=>[(2,.o (.ptr 0 3 0 0)),(4,Bk ps),(7,.o (.ptr 1 3 0 0)),(8,eI .i64 s.1.1)]) (fun s=>((0,.cells 26 3 [[.d (iD 0),.d (.l []),.d (.l [])]])::ON n s.1.2.1 s.1.2.2)) 4 (fun s=>ps.length - s.1.1) (⟨⟨1,[],[]⟩,by simp;omega⟩) hΓ rfl (by (simp[cX,zC,hΓ,ON,cN])) ?_;rintro ⟨⟨k,l,ac⟩,hk,hl,hac,hr⟩;(try dsimp only[cA,cB])
  have hk:1≤k∧k≤ps.length:=hk
  have hl:l.length+1=k:=hl
  have hac:ac.length+1=k:=hac
  (repeat first|refine sN rfl ?_ |refine tA rfl ?_ |refine s2 rfl fun _ _hb=>?_ |refine aU rfl ?_ |refine Aa ?_)
  ((refine aC rfl ?_ ?_<;>rintro ⟨⟩);all_goals try (simp at _hb;done))
  · have hlt:k < ps.length:=by (simp only[oZ] at *;omega)
    obtain ⟨w,hw⟩:=get_some (l:=ps) (k:=k) hlt
    have hw':=get_map (g:=BI) hw
    have hwl:=hp3 w (List.mem_of_getElem? hw)
    refine aK ?_
    refine aS (aB ?_)
    (repeat first|refine tA rfl ?_ |(refine s4 rfl ‹_› rfl ?_ ?_;omega) |refine s2 rfl fun _ _hb=>?_ |refine aU rfl ?_ |refine Aa ?_)
    (refine aC rfl ?_ ?_<;>rintro ⟨⟩)
    · (repeat first|refine tA rfl ?_|(refine Ag rfl ?_;refine gA rfl ?_;first| refine gS (fun _ _=>Au rfl rfl (by rfl) (by rfl)) ?_) |refine aU rfl ?_ |refine Aa ?_)
      exact aR ⟨_,rfl,[],Wi (⟨0,[],[]⟩,false),[],⟨fun i hi=>absurd hi (Nat.not_lt_zero i),List.nodup_nil⟩,rfl,trivial,(⟨0,[],[]⟩,false),hb0,rfl,rfl,rfl⟩
    have hwp:0 < w.length:=by (simp at _hb;exact List.length_pos_iff.2 _hb)
    obtain ⟨e,he⟩:=get_some (l:=w) (k:=(0:Int).toNat) (by simp;omega)
    refine aK ?_
    (repeat first|refine tA rfl ?_ |(refine s4 rfl ‹_› rfl ?_ ?_;omega)|(refine Ag rfl ?_;refine gA rfl ?_;first| refine gS (fun _ _=>Eb rfl rfl (by omega) (by omega)) ?_) |refine aU rfl ?_)
    (refine pW rfl ?_ rfl (by rfl);refine Ac [] rfl rfl (Pt (TB:=TB) (w.drop (Int.toNat 1)) (by simp;omega)) ⟨rfl,by decide,by decide⟩ rfl trivial ?_;rintro x0 σ1 nx1 ⟨⟨r,ok2⟩,hrl,rfl,rfl,rfl⟩ _)
    have hrl:r.length≤w0.length+1:=Nat.le_trans hrl (by simp;omega)
    (repeat first|refine tA rfl ?_ |refine s2 rfl fun _ _hb=>?_ |refine aU rfl ?_ |refine Aa ?_)
    (refine aC rfl ?_ ?_<;>rintro ⟨⟩)
    · (repeat first|refine tA rfl ?_|(refine Ag rfl ?_;refine gA rfl ?_;first| refine gS (fun _ _=>Au rfl rfl (by rfl) (by rfl)) ?_) |refine aU rfl ?_ |refine Aa ?_)
      exact aR ⟨_,rfl,[],Wi (⟨0,[],[]⟩,false),[],⟨fun i hi=>absurd hi (Nat.not_lt_zero i),List.nodup_nil⟩,rfl,trivial,(⟨0,[],[]⟩,false),hb0,rfl,rfl,rfl⟩
    refine aK ?_
    have hr2:∀x∈l++[r],x.length≤w0.length+1:=fun x hx=>by
      rcases List.mem_append.1 hx with hx|hx
      · exact hr x hx
      · simp at hx;subst hx;exact hrl
    cases l with
    | nil=>
      obtain rfl:ac=[]:=List.length_eq_zero_iff.1 (by simp at hl;omega)
      (repeat first|refine tA rfl ?_ |refine aU rfl ?_)
      (refine pW rfl ?_ rfl (by rfl);refine Ow 50 rfl ?_;refine Ce rfl rfl rfl (by intro r hr;simp at hr;subst hr;rfl) (by rfl) (Nat.le_of_ble_eq_true rfl) (by simp) (fun h=>?_) (fun _=>?_))
      · exact absurd h (by simp)
      (repeat first|refine tA rfl ?_)
      refine Aa ?_
      refine rG (Jr [9,11]) (by kernel_rfl) ?_
      (repeat first|refine tA rfl ?_ |(refine s4 rfl ‹_› rfl ?_ ?_;omega) |refine s2 rfl fun _ _hb=>?_)
      (refine pW rfl ?_ rfl (by rfl);refine Ow 56 rfl ?_;refine Ce rfl rfl rfl (by intro r hr;simp at hr;subst hr;rfl) (by rfl) (Nat.le_of_ble_eq_true rfl) (by simp) (fun h=>?_) (fun _=>?_))
      · exact absurd h (by simp)
      (repeat first|(refine sA rfl ?_ ?_;first|exact tI|omega) |refine aU rfl ?_ |refine Aa ?_)
      subst _hb
      refine ⟨⟨⟨k+1,[r],[decide ((e.toNat:Int)=43)]⟩,⟨by dsimp only;omega,by dsimp only;omega⟩,by simp at hl;simp;omega,by simp at hl;simp;omega,hr2⟩,by dsimp only;(omega),[0,1,4,5],?_⟩
      (simp[cX,zC,hΓ,cN,ON,Ae,eC]<;>rfl)
    | cons r0 l=>
      (repeat first|refine tA rfl ?_ |refine aU rfl ?_)
      (refine pW rfl ?_ rfl (by rfl);refine Av rfl rfl rfl (by first| (simp;done)|(simp;(omega))) rfl (by intro r hr;simp at hr;subst hr;rfl) (by rfl) (Nat.le_of_ble_eq_true rfl) (by simp at hl ⊢;omega) ?_)
      (repeat first|refine tA rfl ?_)
      refine Aa ?_
      refine Ai.Ak [0,3,8] [] rfl rfl [(2,.o (.ptr 0 3 0 0)),(4,Bk ps),(7,.o (.ptr 1 3 0 0))] [(0,.cells 26 3 [[.d (iD 0),.d (.l []),.d (.l [])]]),(1,.cells 26 3 [[.d (iD n),.arr 2 1 0 (l.length+1+1),.arr 3 1 0 ac.length]]),(2,.cells 90 1 ((r0::(l++[r])).map Tl)),(3,.cells 4 1 (ac.map AL))] [0,1,4,3] (rl hΓ rfl) (by (simp[cX,zC,hΓ,cN,ON,Ae,eC])) ?_;(try dsimp only[cA,cB])
      refine rG (Jr [9,11]) (by kernel_rfl) ?_
      (repeat first|refine tA rfl ?_ |(refine s4 rfl ‹_› rfl ?_ ?_;omega) |refine s2 rfl fun _ _hb=>?_)
      (refine pW rfl ?_ rfl (by rfl);refine Av rfl rfl rfl (by first| (simp;done)|(simp;(omega))) rfl (by intro r hr;simp at hr;subst hr;rfl) (by rfl) (Nat.le_of_ble_eq_true rfl) (by simp at hl ⊢;omega) ?_)
      (repeat first|(refine sA rfl ?_ ?_;first|exact tI|omega) |refine aU rfl ?_ |refine Aa ?_)
      subst _hb
      refine ⟨⟨⟨k+1,r0::(l++[r]),ac++[decide ((e.toNat:Int)=43)]⟩,⟨by dsimp only;omega,by dsimp only;omega⟩,by simp at hl ⊢;omega,by simp;omega,hr2⟩,by dsimp only;(omega),[0,1,2,4],?_⟩
      (simp[cX,zC,hΓ,cN,ON,Ae,eC]<;>rfl)
  refine aE ?_
  have hkn:k=ps.length:=by (simp only[oZ] at *;omega)
  cases l with
  | nil=>exfalso;simp at hl;omega
  | cons r0 l=>
    refine Ai.AD [1,2,3] [(0,eT w0),(2,.o (.ptr 0 3 0 0)),(3,eB false),(7,.o (.ip (BQ ⟨n,r0::l,ac⟩)))] ⟨⟨_,rfl,.inl rfl⟩,⟨_,rfl,.inl rfl⟩,⟨_,rfl,.inl rfl⟩,⟨_,rfl,.inr (.o (.box rfl (.cons .d (.cons (.full rfl (by simp [Function.comp_def]) (by simp)) (.cons (.full rfl (by simp [Function.comp_def]) (by simp)) .nil)))))⟩,trivial⟩ ?_
    (repeat first|refine tA rfl ?_ |refine aU rfl ?_)
    (refine pW rfl ?_ rfl (by rfl);refine Ac [] rfl rfl (Eg (TB:=TB) ⟨n,r0::l,ac⟩) ⟨rfl,by decide,by decide⟩ rfl trivial ?_;rintro x0 σ1 nx1 ⟨w9,hw9,rfl,rfl,rfl⟩ _)
    (repeat first|refine tA rfl ?_ |refine s2 rfl fun _ _hb=>?_ |refine Aa ?_)
    (refine aC rfl ?_ ?_<;>rintro ⟨⟩)
    · (repeat first|refine tA rfl ?_|(refine Ag rfl ?_;refine gA rfl ?_;first| refine gS (fun _ _=>Au rfl rfl (by rfl) (by rfl)) ?_) |refine aU rfl ?_ |refine Aa ?_)
      exact aR ⟨_,rfl,[],Wi (⟨0,[],[]⟩,false),[],⟨fun i hi=>absurd hi (Nat.not_lt_zero i),List.nodup_nil⟩,rfl,trivial,(⟨0,[],[]⟩,false),hb0,rfl,rfl,rfl⟩
    refine aK ?_
    (repeat first|refine tA rfl ?_ |refine aU rfl ?_ |refine Aa ?_)
    exact aR ⟨_,rfl,[],Wi (⟨n,r0::l,ac⟩,true),[],⟨fun i hi=>absurd hi (Nat.not_lt_zero i),List.nodup_nil⟩,rfl,trivial,(⟨n,r0::l,ac⟩,true),⟨by show (r0::l).length≤_;omega,by show ac.length≤_;omega,hr⟩,rfl,rfl,rfl⟩
def PU:List W:=[[97,98,32,43,49,44,48,32,45,49,44,49],[97,98,32,43,48,44,49,32,43,50,44,49,32,45,50,44,50],[97,99,32,43,49,44,50,32,43,49,44,50,32,45,50,44,50],[98,32,43,49,32,45,49],[97,98,99,32,43,49,44,48,44,50,32,43,50,44,48,44,49,32,45,50,44,50,44,50],[45,32,43],[45,32,45],[97,32,43,49,32,45,48],[97,98,32,43,48,44,49,32,45,48,44,49],[98,99,32,43,49,44,50,32,43,50,44,48,32,45,50,44,50],[97,98,32,43,49,44,50,32,45,49,44,51,32,43,52,44,50,32,45,49,44,51,32,43,52,44,50],[97,98,99,32,43,48,44,49,44,48,32,43,48,44,49,44,50,32,45,50,44,50,44,50]]
theorem Sb:∀w∈PU,w.length≤40:=by decide
theorem Pu:Pure Tryz.prog TB 179 [] (Bk PU):=by
  refine eN Tryz.func179 rfl (by kernel_rfl) rfl ?_;intro Γ hΓ
  (repeat first|refine tA rfl ?_ |refine aU rfl ?_ |refine Aa ?_)
  refine aR ⟨_,rfl,rfl⟩
theorem RB (b:List UInt8) (hb:b.length≤2000) (p:Int) (h0:0≤p∧p < 700000000):Spec Tryz.prog TB 144 [(0,AI b p)] 1 [.o (.ptr 0 2 0 0)] (Ef b p 60 (fun a=>FQ 41 a)):=by
  obtain ⟨c,c1,c2,hp⟩:=AK (TB:=TB) b hb p 3 (by omega)
  obtain ⟨w,hw,ho⟩:=My (TB:=TB) b hb (p+1) (by omega) PU (by decide) (by decide)
  have hwl:=Sb w hw
  have hpa:=EC (TB:=TB) w (by omega)
  refine eR Tryz.func144 rfl (by kernel_rfl) rfl ?_;intro Γ hΓ
  (repeat first|refine tA rfl ?_ |refine aU rfl ?_ |refine Aa ?_)
  (refine pW rfl ?_ rfl (by rfl);refine Ac [0] rfl rfl (hp) ⟨rfl,by decide,by decide⟩ rfl (by simp[cX,zC,hΓ,cN]) ?_;rintro x0 σ1 nx1 ⟨rfl,rfl,rfl⟩ _)
  (repeat first|refine s2 rfl fun _ _hb=>?_ |refine Aa ?_)
  (refine aC rfl ?_ ?_<;>rintro ⟨⟩)
  · (repeat first|refine tA rfl ?_ |refine sP rfl (Pu) rfl ?_ |refine aU rfl ?_)
    (refine pW rfl ?_ rfl (by rfl);refine Ac [0] rfl rfl (ho) ⟨rfl,by decide,by decide⟩ rfl (by simp[cX,zC,hΓ,cN]) ?_;rintro x0 σ1 nx1 ⟨rfl,rfl,rfl⟩ _)
    (refine pW rfl ?_ rfl (by rfl);refine Ac [] rfl rfl (hpa) ⟨rfl,by decide,by decide⟩ rfl trivial ?_;rintro x0 σ1 nx1 ⟨⟨a,ok⟩,ha,rfl,rfl,rfl⟩ _)
    have hA:FQ (w.length+1) a:=ha
    (repeat first|refine tA rfl ?_ |refine aU rfl ?_ |refine Aa ?_)
    (refine aC rfl ?_ ?_<;>rintro ⟨⟩)
    · (repeat first|refine tA rfl ?_ |refine aU rfl ?_ |refine Aa ?_)
      exact aR ⟨_,rfl,[0],BH a,[(0,AI b (p+1+1))],⟨by intro i hi;match i with|0=>rfl,by decide⟩,rfl,by (simp[cX,zC,hΓ,cN]),p+1+1,a,by omega,⟨by have:=hA.nx;omega,by have:=hA.ac;omega,fun r hr=>by have:=hA.row r hr;omega⟩,rfl,rfl,rfl⟩
    refine aK ?_
    obtain ⟨n1,m1,k1⟩:=BC (TB:=TB) b hb (p+1+1) (by omega) [3,6,7,5,1,0,2] (by decide) (by decide)
    have f1:=GN (TB:=TB) b hb (p+1+1+1) (by omega) n1
    (repeat first|refine tA rfl ?_ |refine aU rfl ?_)
    (refine pW rfl ?_ rfl (by rfl);refine Ac [0] rfl rfl (k1) ⟨rfl,by decide,by decide⟩ rfl (by simp[cX,zC,hΓ,cN]) ?_;rintro x0 σ1 nx1 ⟨rfl,rfl,rfl⟩ _)
    (refine pW rfl ?_ rfl (by rfl);refine Ac [0] rfl rfl (f1) ⟨rfl,by decide,by decide⟩ rfl (by simp[cX,zC,hΓ,cN]) ?_;rintro x0 σ1 nx1 ⟨q,a2,hq,⟨_,ha2⟩,rfl,rfl,rfl⟩ _)
    (repeat first|refine tA rfl ?_ |refine Aa ?_)
    exact aR ⟨_,rfl,[0],BH a2,[(0,AI b (q))],⟨by intro i hi;match i with|0=>rfl,by decide⟩,rfl,by (simp[cX,zC,hΓ,cN]),q,a2,by omega,⟨by have:=ha2.nx;omega,by have:=ha2.ac;omega,fun r hr=>by have:=ha2.row r hr;omega⟩,rfl,rfl,rfl⟩
  refine aK ?_
  obtain ⟨n1,m1,k1⟩:=BC (TB:=TB) b hb (p+1) (by omega) [3,6,7,5,1,0,2] (by decide) (by decide)
  have f1:=GN (TB:=TB) b hb (p+1+1) (by omega) n1
  (repeat first|refine tA rfl ?_ |refine aU rfl ?_)
  (refine pW rfl ?_ rfl (by rfl);refine Ac [0] rfl rfl (k1) ⟨rfl,by decide,by decide⟩ rfl (by simp[cX,zC,hΓ,cN]) ?_;rintro x0 σ1 nx1 ⟨rfl,rfl,rfl⟩ _)
  (refine pW rfl ?_ rfl (by rfl);refine Ac [0] rfl rfl (f1) ⟨rfl,by decide,by decide⟩ rfl (by simp[cX,zC,hΓ,cN]) ?_;rintro x0 σ1 nx1 ⟨q,a2,hq,⟨_,ha2⟩,rfl,rfl,rfl⟩ _)
  (repeat first|refine tA rfl ?_ |refine Aa ?_)
  exact aR ⟨_,rfl,[0],BH a2,[(0,AI b (q))],⟨by intro i hi;match i with|0=>rfl,by decide⟩,rfl,by (simp[cX,zC,hΓ,cN]),q,a2,by omega,⟨by have:=ha2.nx;omega,by have:=ha2.ac;omega,fun r hr=>by have:=ha2.row r hr;omega⟩,rfl,rfl,rfl⟩
theorem FQ.mono {m n:Nat} {a:Ci} (h:FQ m a) (hm:m≤n):FQ n a:=⟨Nat.le_trans h.nx hm,Nat.le_trans h.ac hm,fun r hr=>Nat.le_trans (h.row r hr) hm⟩
abbrev SH (a:Ci):List C:=[.d (iD a.al),.d (DA a.nx),.d (FT a.ac)]
theorem Oq (b:List UInt8) (hb:b.length≤2000) (p:Int) (h0:0≤p∧p < 600000000):Spec Tryz.prog TB 115 [(0,AI b p)] 1 [.o (.ptr 0 2 0 0)] (Ef b p 200 (fun a=>FQ 100 a)):=by
  have f0:=RB (TB:=TB) b hb p (by omega)
  refine eR Tryz.func115 rfl (by kernel_rfl) rfl ?_;intro Γ hΓ
  (repeat first|refine tA rfl ?_ |refine aU rfl ?_ |refine Aa ?_)
  (refine pW rfl ?_ rfl (by rfl);refine Ac [0] rfl rfl (f0) ⟨rfl,by decide,by decide⟩ rfl (by simp[cX,zC,hΓ,cN]) ?_;rintro x0 σ1 nx1 ⟨p1,a0,hp1,ha0,rfl,rfl,rfl⟩ _)
  (repeat first|refine tA rfl ?_ |refine aU rfl ?_ |refine Aa ?_)
  obtain ⟨c,c1,c2,hc⟩:=AK (TB:=TB) b hb p1 3 (by omega)
  (refine pW rfl ?_ rfl (by rfl);refine Ac [0] rfl rfl (hc) ⟨rfl,by decide,by decide⟩ rfl (by simp[cX,zC,hΓ,cN]) ?_;rintro x0 σ1 nx1 ⟨rfl,rfl,rfl⟩ _)
  (repeat first|refine tA rfl ?_ |refine Aa ?_)
  refine aB ?_
  refine aL (α:={s:Int×Int×Ci // (0≤s.1∧s.1≤2)∧(p≤s.2.1∧s.2.1≤p+61+5*(2 - s.1))∧FQ (43 - s.1.toNat) s.2.2}) [] [] rfl rfl (fun s=>[(0,.o (.ptr 0 2 0 0)),(2,.o (.ptr 1 3 0 0)),(3,.o (.ptr 2 3 0 0)),(4,eI .i64 s.1.1)]) (fun s=>[(0,AI b s.1.2.1),(1,.cells 26 3 [[.d (iD 0),.d (.l []),.d (.l [])]]),(2,.cells 26 3 [SH s.1.2.2])]) 3 (fun s=>s.1.1.toNat) (⟨⟨c,p1+1,a0⟩,⟨c1,by dsimp only;omega⟩,⟨by dsimp only;omega,by dsimp only;omega⟩,ha0.mono (by dsimp only;omega)⟩) hΓ rfl (by (simp[cX,zC,hΓ,cN,Ae,eC])) ?_;rintro ⟨⟨j,q,x⟩,hj,hq,hx⟩;(try dsimp only[cA,cB])
  have hj:0≤j∧j≤2:=hj
  have hq:p≤q∧q≤p+61+5*(2 - j):=hq
  have hx:FQ (43 - j.toNat) x:=hx
  (repeat first|refine tA rfl ?_ |refine s2 rfl fun _ _hb=>?_ |refine aU rfl ?_ |refine Aa ?_)
  ((refine aC rfl ?_ ?_<;>rintro ⟨⟩);all_goals try (simp at _hb;done))
  · have hpos:0 < j:=by (simp only[oZ] at *;omega)
    refine aK ?_
    refine aS (aB ?_)
    (repeat first|refine tA rfl ?_ |refine aU rfl ?_)
    (refine pW rfl ?_ rfl (by rfl);refine Ac [0] rfl rfl (Oo (TB:=TB) b hb q (by omega) x (43 - j.toNat) hx (by omega)) ⟨rfl,by decide,by decide⟩ rfl (by simp[cX,zC,hΓ,cN]) ?_;rintro x0 σ1 nx1 ⟨r1,u1,hr1,⟨_,hu1⟩,rfl,rfl,rfl⟩ _)
    (repeat first|(refine sA rfl ?_ ?_;first|exact tI|omega) |refine aU rfl ?_ |refine Aa ?_)
    refine ⟨⟨⟨j - 1,r1,u1⟩,⟨by dsimp only;omega,by dsimp only;omega⟩,⟨by dsimp only;omega,by dsimp only;omega⟩,hu1.mono (by dsimp only;omega)⟩,by dsimp only;(omega),[0,1,2],?_⟩
    (simp[cX,zC,hΓ,cN,Ae,eC]<;>rfl)
  refine aE ?_
  have hx43:FQ 43 x:=hx.mono (by omega)
  obtain ⟨d,d1,d2,hd⟩:=AK (TB:=TB) b hb q 10 (by omega)
  (repeat first|refine tA rfl ?_ |refine aU rfl ?_)
  (refine pW rfl ?_ rfl (by rfl);refine Ac [0] rfl rfl (hd) ⟨rfl,by decide,by decide⟩ rfl (by simp[cX,zC,hΓ,cN]) ?_;rintro x0 σ1 nx1 ⟨rfl,rfl,rfl⟩ _)
  (repeat first|refine s2 rfl fun _ _hb=>?_ |refine Aa ?_)
  (refine aC rfl ?_ ?_<;>rintro ⟨⟩)
  · (repeat first|refine tA rfl ?_ |refine aU rfl ?_)
    (refine pW rfl ?_ rfl (by rfl);refine Ac [0] rfl rfl (Tt (TB:=TB) b hb (q+1) (by omega)) ⟨rfl,by decide,by decide⟩ rfl (by simp[cX,zC,hΓ,cN]) ?_;rintro x0 σ1 nx1 ⟨r1,u1,hr1,hu1,rfl,rfl,rfl⟩ _)
    have hu43:FQ 43 u1:=hu1.mono (by omega)
    (repeat first|refine tA rfl ?_)
    refine Aa ?_
    refine Ai.Ak [] [] rfl rfl [(0,.o (.ptr 0 2 0 0)),(2,.o (.ptr 1 3 0 0)),(3,.o (.ptr 2 3 0 0))] [(0,AI b (r1)),(1,.cells 26 3 [[.d (iD 0),.d (.l []),.d (.l [])]]),(2,.cells 26 3 [SH u1])] [0,1,2] (rl hΓ rfl) (by (simp[cX,zC,hΓ,cN,Ae,eC])) ?_;(try dsimp only[cA,cB])
    obtain ⟨e,e1,e2,he⟩:=AK (TB:=TB) b hb (r1) 6 (by omega)
    (repeat first|refine tA rfl ?_ |refine aU rfl ?_)
    (refine pW rfl ?_ rfl (by rfl);refine Ac [0] rfl rfl (he) ⟨rfl,by decide,by decide⟩ rfl (by simp[cX,zC,hΓ,cN]) ?_;rintro x0 σ1 nx1 ⟨rfl,rfl,rfl⟩ _)
    (repeat first|refine s2 rfl fun _ _hb=>?_ |refine Aa ?_)
    (refine aC rfl ?_ ?_<;>rintro ⟨⟩)
    · (repeat first|refine tA rfl ?_ |refine aU rfl ?_)
      (refine pW rfl ?_ rfl (by rfl);refine Ac [0] rfl rfl (HA (TB:=TB) b hb (r1+1) (by omega) u1 43 hu43 (by omega)) ⟨rfl,by decide,by decide⟩ rfl (by simp[cX,zC,hΓ,cN]) ?_;rintro x0 σ1 nx1 ⟨r9,u9,hr9,hu9,rfl,rfl,rfl⟩ _)
      (repeat first|refine tA rfl ?_ |refine aU rfl ?_ |refine Aa ?_)
      exact aR ⟨_,rfl,[0],BH u9,[(0,AI b (r9))],⟨by intro i hi;match i with|0=>rfl,by decide⟩,rfl,by (simp[cX,zC,hΓ,cN,Ae,eC]),r9,u9,by omega,hu9.mono (by omega),rfl,rfl,rfl⟩
    refine aK ?_
    (repeat first|refine tA rfl ?_ |refine aU rfl ?_ |refine Aa ?_)
    exact aR ⟨_,rfl,[0],BH u1,[(0,AI b (r1+1))],⟨by intro i hi;match i with|0=>rfl,by decide⟩,rfl,by (simp[cX,zC,hΓ,cN,Ae,eC]),r1+1,u1,by omega,hu43.mono (by omega),rfl,rfl,rfl⟩
  refine aK ?_
  obtain ⟨e,e1,e2,he⟩:=AK (TB:=TB) b hb (q+1) 6 (by omega)
  (repeat first|refine tA rfl ?_ |refine aU rfl ?_)
  (refine pW rfl ?_ rfl (by rfl);refine Ac [0] rfl rfl (he) ⟨rfl,by decide,by decide⟩ rfl (by simp[cX,zC,hΓ,cN]) ?_;rintro x0 σ1 nx1 ⟨rfl,rfl,rfl⟩ _)
  (repeat first|refine s2 rfl fun _ _hb=>?_ |refine Aa ?_)
  (refine aC rfl ?_ ?_<;>rintro ⟨⟩)
  · (repeat first|refine tA rfl ?_ |refine aU rfl ?_)
    (refine pW rfl ?_ rfl (by rfl);refine Ac [0] rfl rfl (HA (TB:=TB) b hb (q+1+1) (by omega) x 43 hx43 (by omega)) ⟨rfl,by decide,by decide⟩ rfl (by simp[cX,zC,hΓ,cN]) ?_;rintro x0 σ1 nx1 ⟨r9,u9,hr9,hu9,rfl,rfl,rfl⟩ _)
    (repeat first|refine tA rfl ?_ |refine aU rfl ?_ |refine Aa ?_)
    exact aR ⟨_,rfl,[0],BH u9,[(0,AI b (r9))],⟨by intro i hi;match i with|0=>rfl,by decide⟩,rfl,by (simp[cX,zC,hΓ,cN,Ae,eC]),r9,u9,by omega,hu9.mono (by omega),rfl,rfl,rfl⟩
  refine aK ?_
  (repeat first|refine tA rfl ?_ |refine aU rfl ?_ |refine Aa ?_)
  exact aR ⟨_,rfl,[0],BH x,[(0,AI b (q+1+1))],⟨by intro i hi;match i with|0=>rfl,by decide⟩,rfl,by (simp[cX,zC,hΓ,cN,Ae,eC]),q+1+1,x,by omega,hx43.mono (by omega),rfl,rfl,rfl⟩
def JQ (b:List UInt8) (p m:Int) (P:Sys→Prop) (x:E) (σ:Ab) (nx:Nat):Prop:=∃(p':Int) (s:Sys),(p≤p'∧p'≤p+m)∧P s∧x=CS s∧σ=[(0,AI b p')]∧nx=1
def Zt (n:Int) (s:Sys):Prop:=s.st=n∧(∀e∈s.es,0≤e.t∧e.t < n)∧s.es.length≤400
theorem Gs (b:List UInt8) (hb:b.length≤2000) (p:Int) (h0:0≤p∧p < 900000000) (al n few:Int) (hn:0≤n∧n≤8):AN Tryz.prog TB 181 1 [(0,AI b p)] 1 [.o (.ptr 0 2 0 0),eI .i64 al,eI .i64 n,eI .i64 few] (JQ b p 400 (Zt n)):=by
  have hla:(Af al).length≤6:=AM al 6
  refine AN.AP (AN.NM (m:=1) (Nat.le_of_ble_eq_true rfl) Tryz.func181 rfl (by kernel_rfl) (Nat.le_of_ble_eq_true rfl) ?_);intro Γ hΓ
  (repeat first|refine tA rfl ?_ |refine aU rfl ?_ |refine Aa ?_)
  (refine pW rfl ?_ rfl (by rfl);refine Ox 2 3 163 rfl rfl rfl (by rfl) (by rfl) ?_)
  (repeat first|refine tA rfl ?_ |refine sP rfl (BZ al) rfl ?_ |refine aU rfl ?_ |refine Aa ?_)
  refine aB ?_
  refine aL (α:={s:Nat×Int×List Dw // (s.1:Int)≤n∧(p≤s.2.1∧s.2.1≤p+48*s.1)∧(s.2.2.length:Int)≤s.2.1 - p∧∀e∈s.2.2,0≤e.t∧e.t < n}) [0,2,3,8,9,10] [1] rfl rfl (fun s=>[(11,eI .i64 s.1.1)]) (fun s=>[(0,AI b s.1.2.1),(2,.cells 163 3 (s.1.2.2.map A5)),(3,.cells 29 3 [[.d (iD al),.d (iD n),.arr 2 3 0 s.1.2.2.length]])]) 4 (fun s=>n.toNat - s.1.1) (⟨⟨0,p,[]⟩,by simp;omega⟩) hΓ rfl (by (simp[cX,zC,hΓ])) ?_;rintro ⟨⟨k,q,es⟩,hk,hq,hl,he⟩;(try dsimp only[cA,cB])
  have hk:(k:Int)≤n:=hk
  have hq:p≤q∧q≤p+48*k:=hq
  have hl:(es.length:Int)≤q - p:=hl
  (repeat first|refine tM rfl ?_ |refine s2 rfl fun _ _hb=>?_ |refine aU rfl ?_ |refine Aa ?_)
  ((refine aC rfl ?_ ?_<;>rintro ⟨⟩);all_goals try (simp at _hb;done))
  · have hlt : (k:Int) < n:=by (simp only[oZ] at *;omega)
    refine aK ?_
    refine aS (aB ?_)
    (repeat first|refine tX rfl ?_ |refine aU rfl ?_ |refine Aa ?_)
    refine aB ?_
    refine aL (α:={s:Nat×Int×List Dw // s.1≤(Af al).length∧(q≤s.2.1∧s.2.1≤q+8*s.1)∧(s.2.2.length:Int)≤s.2.1 - p∧∀e∈s.2.2,0≤e.t∧e.t < n}) [0,2,3,8,9,10,11] [1] rfl rfl (fun s=>[(12,eI .i64 s.1.1)]) (fun s=>[(0,AI b s.1.2.1),(2,.cells 163 3 (s.1.2.2.map A5)),(3,.cells 29 3 [[.d (iD al),.d (iD n),.arr 2 3 0 s.1.2.2.length]])]) 4 (fun s=>(Af al).length - s.1.1) (⟨⟨0,q,es⟩,by simp,by simp,hl,he⟩) hΓ rfl (by (simp[cX,zC,hΓ])) ?_;rintro ⟨⟨i,u,es1⟩,hi,hu,hl1,he1⟩;(try dsimp only[cA,cB])
    have hi:i≤(Af al).length:=hi
    have hu:q≤u∧u≤q+8*i:=hu
    have hl1:(es1.length:Int)≤u - p:=hl1
    clear he hl
    (repeat first|refine sN rfl ?_ |refine tM rfl ?_ |refine s2 rfl fun _ _hb=>?_ |refine aU rfl ?_ |refine Aa ?_)
    ((refine aC rfl ?_ ?_<;>rintro ⟨⟩);all_goals try (simp at _hb;done))
    · have hil:i < (Af al).length:=by (simp only[oZ] at *;omega)
      obtain ⟨l,hl0⟩:=get_some hil
      have hl':((Af al).map Db)[((i:Nat):Int).toNat]? = some (Db l):=by rw [Int.toNat_natCast];simp [hl0]
      refine aK ?_
      refine aS (aB ?_)
      (repeat first|refine tX rfl ?_ |refine aU rfl ?_ |refine Aa ?_)
      refine aB ?_
      refine aL (α:={s:Nat×Int×List Dw // (s.1:Int)≤n∧(u≤s.2.1∧s.2.1≤u+s.1)∧(s.2.2.length:Int)≤s.2.1 - p∧∀e∈s.2.2,0≤e.t∧e.t < n}) [0,2,3,8,9,10,11,12] [1] rfl rfl (fun s=>[(13,eI .i64 s.1.1)]) (fun s=>[(0,AI b s.1.2.1),(2,.cells 163 3 (s.1.2.2.map A5)),(3,.cells 29 3 [[.d (iD al),.d (iD n),.arr 2 3 0 s.1.2.2.length]])]) 4 (fun s=>n.toNat - s.1.1) (⟨⟨0,u,es1⟩,by simp;omega,by simp,hl1,he1⟩) hΓ rfl (by (simp[cX,zC,hΓ])) ?_;rintro ⟨⟨j,v,es2⟩,hj,hv,hl2,he2⟩;(try dsimp only[cA,cB])
      have hj:(j:Int)≤n:=hj
      have hv:u≤v∧v≤u+j:=hv
      have hl2:(es2.length:Int)≤v - p:=hl2
      clear he1 hl1
      (repeat first|refine tM rfl ?_ |refine s2 rfl fun _ _hb=>?_ |refine aU rfl ?_ |refine Aa ?_)
      ((refine aC rfl ?_ ?_<;>rintro ⟨⟩);all_goals try (simp at _hb;done))
      · obtain ⟨c,c1,c2,hp⟩:=AK (TB:=TB) b hb v few (by omega)
        have hjn:(j:Int) < n:=by (simp only[oZ] at *;omega)
        refine aK ?_
        refine aS (aB ?_)
        (repeat first|refine tA rfl ?_ |refine aU rfl ?_)
        (refine pW rfl ?_ rfl (by rfl);refine Ac [0] rfl rfl (hp) ⟨rfl,by decide,by decide⟩ rfl (by simp[cX,zC,hΓ]) ?_;rintro x0 σ1 nx1 ⟨rfl,rfl,rfl⟩ _)
        (repeat first|refine s2 rfl fun _ _hb=>?_ |refine Aa ?_)
        (refine aC rfl ?_ ?_<;>rintro ⟨⟩)
        · refine rG (JU [(1,13),(10,1),(12,1)]) (by kernel_rfl) ?_
          (repeat first|refine tA rfl ?_ |(refine s4 rfl ‹_› rfl ?_ ?_;omega)|(refine Ag rfl ?_;refine gA rfl ?_;first| refine gS (fun _ _=>Au rfl rfl (by rfl) (by rfl)) ?_))
          (refine pW rfl ?_ rfl (by rfl);refine Av rfl rfl rfl (by first| (simp;done)|(simp;(omega))) rfl (by intro r hr;simp at hr;subst hr;rfl) (by rfl) (Nat.le_of_ble_eq_true rfl) (by simp;omega) ?_)
          (repeat first|(refine sA rfl ?_ ?_;first|exact tI|omega) |refine aU rfl ?_ |refine Aa ?_)
          have he3:∀e∈es2++[(⟨k,l,j⟩:Dw)],0≤e.t∧e.t < n:=fun e hm=>by
            rcases List.mem_append.1 hm with hm|hm
            · exact he2 e hm
            · simp at hm;subst hm;exact ⟨by dsimp only;omega,hjn⟩
          refine ⟨⟨⟨j+1,v+1,es2++[⟨k,l,j⟩]⟩,by dsimp only;omega,by dsimp only;omega,by simp;omega,he3⟩,by dsimp only;(omega),[0,1,4,3],?_⟩
          (simp[cX,zC,hΓ,cN]<;>rfl)
        · refine aK ?_
          (repeat first|(refine sA rfl ?_ ?_;first|exact tI|omega) |refine aU rfl ?_ |refine Aa ?_)
          refine ⟨⟨⟨j+1,v+1,es2⟩,by dsimp only;omega,by dsimp only;omega,by dsimp only;omega,he2⟩,by dsimp only;(omega),[0,1,2,3],?_⟩
          (simp[cX,zC,hΓ,cN]<;>rfl)
      · have hkn:(j:Int)=n:=by (simp only[oZ] at *;omega)
        refine aE ?_
        (repeat first|(refine sA rfl ?_ ?_;first|exact tI|omega) |refine aU rfl ?_ |refine Aa ?_)
        refine ⟨⟨⟨i+1,v,es2⟩,by dsimp only;omega,by dsimp only;omega,hl2,he2⟩,by dsimp only;(omega),[0,1,2,3],?_⟩
        (simp[cX,zC,hΓ,cN]<;>rfl)
    · refine aE ?_
      have hil:i=(Af al).length:=by (simp only[oZ] at *;omega)
      (repeat first|(refine sA rfl ?_ ?_;first|exact tI|omega) |refine aU rfl ?_ |refine Aa ?_)
      refine ⟨⟨⟨k+1,u,es1⟩,by dsimp only;omega,by dsimp only;omega,hl1,he1⟩,by dsimp only;(omega),[0,1,2,3],?_⟩
      (simp[cX,zC,hΓ,cN]<;>rfl)
  · have hkn:(k:Int)=n:=by (simp only[oZ] at *;omega)
    refine aE ?_
    (repeat first|refine tA rfl ?_ |refine aU rfl ?_ |refine Aa ?_)
    refine Ai.AD [1,2] [(8,.o (.ip [iD al,iD n,EO es]))] ⟨⟨_,rfl,.inr (.o (.box rfl (.cons .d (.cons .d (.cons (.full rfl (by simp [Function.comp_def]) (by simp)) .nil)))))⟩,trivial⟩ ?_
    refine aR ⟨_,rfl,[0],CS ⟨al,n,es⟩,[(0,AI b q)],⟨by intro i hi;match i with|0=>rfl,by decide⟩,rfl,by (simp[cX,zC,hΓ,cN]),q,⟨al,n,es⟩,by omega,⟨rfl,he,by dsimp only;omega⟩,rfl,rfl,rfl⟩
end Go.Am
