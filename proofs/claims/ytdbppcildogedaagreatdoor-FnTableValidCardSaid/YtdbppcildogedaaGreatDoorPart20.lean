/-
  Parts of texts, walked: any parts that are not too many will do.
-/
import Derived.Test.YtdbppcildogedaaGreatDoorPart19
import Derived.Test.YtdbppcildogedaaGreatDoorPart10
import Derived.Test.YtdbppcildogedaaGreatDoorPart11
import Derived.Test.YtdbppcildogedaaGreatDoorPart13
set_option linter.constructorNameAsVariable false
set_option linter.unusedSimpArgs false
set_option linter.unusedVariables false
namespace Go.Am
open Go Go.Proofs
set_option maxHeartbeats 1000000
attribute [local irreducible] QOp AOp Lex LexO AWp Spec
variable {TB:Amb}
def AnyPost {α:Type} (Q:α→Prop) (g:α→E) (x:E) (σ:Store) (nx:Nat):Prop:=∃r,Q r∧x=g r∧σ=[]∧nx=0
theorem FormatAlphabet_ok (n:Int):Spec Tryz.prog TB 173 [] 0 [eI .i64 n] (AnyPost (fun r:W=>r.length≤6) eT):=by
  have hla:(letters n).length≤6:=lettersTo_len n 6
  refine SpecK.toSpec (SpecK.ren (SpecK.ofG (Nat.le_refl _) Tryz.func173 rfl (by kernel_rfl) (Nat.le_of_ble_eq_true rfl) ?_));intro Γ hΓ
  (repeat first|refine sN rfl ?_|((first|refine sA rfl ?_ ?_|refine s4 rfl ‹_› rfl ?_ ?_);first|exact tI|omega|simp only[oZ] at *;omega)|refine s2 rfl fun _ _hb=>?_ |(refine sC rfl (l1Alphabet_ok n) ?_;intro _ _hb)|refine s3 rfl ?_ ?_<;>rintro rfl|refine aU rfl ?_|refine lexE ?_)
  (refine aC rfl ?_ ?_<;>rintro ⟨⟩)
  · (repeat first|refine sN rfl ?_|((first|refine sA rfl ?_ ?_|refine s4 rfl ‹_› rfl ?_ ?_);first|exact tI|omega|simp only[oZ] at *;omega)|refine s2 rfl fun _ _hb=>?_|refine s3 rfl ?_ ?_<;>rintro rfl|refine aU rfl ?_|refine lexE ?_)
    refine AWp.ret ⟨_,rfl,[],eT [],[],⟨by intro i hi;omega,by decide⟩,rfl,trivial,[],by decide,rfl,rfl,rfl⟩
  refine AWp.skip ?_
  (repeat first|refine sN rfl ?_|((first|refine sA rfl ?_ ?_|refine s4 rfl ‹_› rfl ?_ ?_);first|exact tI|omega|simp only[oZ] at *;omega)|refine s2 rfl fun _ _hb=>?_|refine s3 rfl ?_ ?_<;>rintro rfl|refine aU rfl ?_|refine lexE ?_)
  (refine aC rfl ?_ ?_<;>rintro ⟨⟩)
  · (repeat first|refine sN rfl ?_|((first|refine sA rfl ?_ ?_|refine s4 rfl ‹_› rfl ?_ ?_);first|exact tI|omega|simp only[oZ] at *;omega)|refine s2 rfl fun _ _hb=>?_|refine s3 rfl ?_ ?_<;>rintro rfl|refine aU rfl ?_|refine lexE ?_)
    refine AWp.ret ⟨_,rfl,[],eT [45],[],⟨by intro i hi;omega,by decide⟩,rfl,trivial,[45],by decide,rfl,rfl,rfl⟩
  refine AWp.skip ?_
  (repeat first|refine sN rfl ?_|((first|refine sA rfl ?_ ?_|refine s4 rfl ‹_› rfl ?_ ?_);first|exact tI|omega|simp only[oZ] at *;omega)|refine s2 rfl fun _ _hb=>?_ |refine sP rfl (l1Letters_ok n) rfl ?_|refine s3 rfl ?_ ?_<;>rintro rfl|refine aU rfl ?_|refine lexE ?_)
  refine aB ?_
  refine AWp.loopV (α:={s:Nat×W // s.1≤(letters n).length∧s.2.length=s.1}) [4] [] rfl rfl (fun s=>[(3,eT s.1.2),(5,eI .i64 s.1.1)]) (fun s=>[]) 0 (fun s=>(letters n).length - s.1.1) (⟨⟨0,[]⟩,by simp⟩) (List.range 0) (rg hΓ rfl) (by (repeat' first|exact tI|rfl|refine And.intro ?_ ?_)<;>(simp[cX,zC,hΓ]<;>rfl)) ?_;rintro ⟨⟨k,w⟩,hk,hw⟩;(try dsimp only[List.cons_append,List.nil_append])
  have hk:k≤(letters n).length:=hk
  have hw:w.length=k:=hw
  (repeat first|refine sN rfl ?_|((first|refine sA rfl ?_ ?_|refine s4 rfl ‹_› rfl ?_ ?_);first|exact tI|omega|simp only[oZ] at *;omega)|refine s2 rfl fun _ _hb=>?_|refine s3 rfl ?_ ?_<;>rintro rfl|refine aU rfl ?_|refine lexE ?_)
  ((refine aC rfl ?_ ?_<;>rintro ⟨⟩);all_goals try (simp at _hb;done))
  · have hlt:k < (letters n).length:=by first|omega|simp only[oZ] at *;omega
    obtain ⟨l,hl⟩:=get_some (l:=letters n) (k:=k) hlt
    have hl':=get_map (g:=iRow) hl
    have hlb:=lettersTo_in (List.mem_of_getElem? hl)
    refine AWp.skip ?_
    refine AWp.seq (AWp.block ?_)
    (repeat first|refine sN rfl ?_|((first|refine sA rfl ?_ ?_|refine s4 rfl ‹_› rfl ?_ ?_);first|exact tI|omega|simp only[oZ] at *;omega)|refine s2 rfl fun _ _hb=>?_ |refine sP rfl (l1Text_ok l hlb.1 (by omega)) rfl ?_|refine s3 rfl ?_ ?_<;>rintro rfl|refine aU rfl ?_|refine lexE ?_)
    refine ⟨⟨⟨k+1,w++[UInt8.ofNat (97+l.toNat)]⟩,by dsimp only;omega,by simp;omega⟩,by dsimp only;(first|omega|simp only[oZ] at *;omega),[],?_⟩
    (simp[cX,zC,hΓ,cN]<;>rfl)
  · refine AWp.exit ?_
    (repeat first|refine sN rfl ?_|((first|refine sA rfl ?_ ?_|refine s4 rfl ‹_› rfl ?_ ?_);first|exact tI|omega|simp only[oZ] at *;omega)|refine s2 rfl fun _ _hb=>?_|refine s3 rfl ?_ ?_<;>rintro rfl|refine aU rfl ?_|refine lexE ?_)
    refine AWp.ret ⟨_,rfl,[],eT w,[],⟨by intro i hi;omega,by decide⟩,rfl,trivial,w,by show w.length≤6;omega,rfl,rfl,rfl⟩
theorem ParseAlphabet_ok (s:W):Spec Tryz.prog TB 159 [] 0 [eT s] (AnyPost (fun _:Int×Bool=>True) (fun r=>.t [(false,[.d (iD r.1)]),(false,[.d (bD r.2)])])):=by
  refine SpecK.toSpec (SpecK.ren (SpecK.ofG (Nat.le_refl _) Tryz.func159 rfl (by kernel_rfl) (Nat.le_of_ble_eq_true rfl) ?_));intro Γ hΓ
  (repeat first|refine sN rfl ?_|((first|refine sA rfl ?_ ?_|refine s4 rfl ‹_› rfl ?_ ?_);first|exact tI|omega|simp only[oZ] at *;omega)|refine s2 rfl fun _ _hb=>?_|refine s3 rfl ?_ ?_<;>rintro rfl|refine aU rfl ?_|refine lexE ?_)
  refine aB ?_
  refine AWp.loopV (α:={k:Nat // k≤64}) [0] [] rfl rfl (fun s=>[(4,eI .i64 s.1)]) (fun s=>[]) 0 (fun s=>64 - s.1) (⟨0,by omega⟩) (List.range 0) (rg hΓ rfl) (by (repeat' first|exact tI|rfl|refine And.intro ?_ ?_)<;>(simp[cX,zC,hΓ]<;>rfl)) ?_;rintro ⟨k,hk⟩;(try dsimp only[List.cons_append,List.nil_append])
  (repeat first|refine sN rfl ?_|((first|refine sA rfl ?_ ?_|refine s4 rfl ‹_› rfl ?_ ?_);first|exact tI|omega|simp only[oZ] at *;omega)|refine s2 rfl fun _ _hb=>?_|refine s3 rfl ?_ ?_<;>rintro rfl|refine aU rfl ?_|refine lexE ?_)
  ((refine aC rfl ?_ ?_<;>rintro ⟨⟩);all_goals try (simp at _hb;done))
  · have hlt:k < 64:=by first|omega|simp only[oZ] at *;omega
    refine AWp.skip ?_
    refine AWp.seq (AWp.block ?_)
    (repeat first|refine sN rfl ?_|((first|refine sA rfl ?_ ?_|refine s4 rfl ‹_› rfl ?_ ?_);first|exact tI|omega|simp only[oZ] at *;omega)|refine s2 rfl fun _ _hb=>?_|refine s3 rfl ?_ ?_<;>rintro rfl|refine aU rfl ?_|refine lexE ?_)
    (refine pW rfl ?_ rfl (by rfl);refine n_call [] rfl rfl (FormatAlphabet_ok (TB:=TB) (k:Int)) ⟨rfl,by decide,by decide⟩ rfl trivial ?_;rintro x0 σ1 nx1 ⟨r,hr,rfl,rfl,rfl⟩ _)
    (repeat first|refine sN rfl ?_|((first|refine sA rfl ?_ ?_|refine s4 rfl ‹_› rfl ?_ ?_);first|exact tI|omega|simp only[oZ] at *;omega)|refine s2 rfl fun _ _hb=>?_|refine s3 rfl ?_ ?_<;>rintro rfl|refine aU rfl ?_|refine lexE ?_)
    (refine aC rfl ?_ ?_<;>rintro ⟨⟩)
    · (repeat first|refine sN rfl ?_|((first|refine sA rfl ?_ ?_|refine s4 rfl ‹_› rfl ?_ ?_);first|exact tI|omega|simp only[oZ] at *;omega)|refine s2 rfl fun _ _hb=>?_|refine s3 rfl ?_ ?_<;>rintro rfl|refine aU rfl ?_|refine lexE ?_)
      refine AWp.ret ⟨_,rfl,[],.t [(false,[.d (iD k)]),(false,[.d (bD true)])],[],⟨by intro i hi;omega,by decide⟩,rfl,trivial,(k,true),trivial,rfl,rfl,rfl⟩
    · refine AWp.skip ?_
      (repeat first|refine sN rfl ?_|((first|refine sA rfl ?_ ?_|refine s4 rfl ‹_› rfl ?_ ?_);first|exact tI|omega|simp only[oZ] at *;omega)|refine s2 rfl fun _ _hb=>?_|refine s3 rfl ?_ ?_<;>rintro rfl|refine aU rfl ?_|refine lexE ?_)
      refine ⟨⟨k+1,by omega⟩,by dsimp only;(first|omega|simp only[oZ] at *;omega),[],?_⟩
      (simp[cX,zC,hΓ,cN]<;>rfl)
  · refine AWp.exit ?_
    (repeat first|refine sN rfl ?_|((first|refine sA rfl ?_ ?_|refine s4 rfl ‹_› rfl ?_ ?_);first|exact tI|omega|simp only[oZ] at *;omega)|refine s2 rfl fun _ _hb=>?_|refine s3 rfl ?_ ?_<;>rintro rfl|refine aU rfl ?_|refine lexE ?_)
    refine AWp.ret ⟨_,rfl,[],.t [(false,[.d (iD 0)]),(false,[.d (bD false)])],[],⟨by intro i hi;omega,by decide⟩,rfl,trivial,(0,false),trivial,rfl,rfl,rfl⟩
theorem l19Cut_ok (w0:W) (hs:w0.length≤1000000) (c:UInt8):Spec Tryz.prog TB 158 [] 0 [eT w0,eI .u8 c.toNat] (AnyPost (fun r:List W=>1≤r.length∧r.length≤w0.length+1∧∀w∈r,w.length≤w0.length) eTexts):=by
  refine SpecK.toSpec (SpecK.ren (SpecK.ofG (Nat.le_refl _) Tryz.func158 rfl (by kernel_rfl) (Nat.le_of_ble_eq_true rfl) ?_));intro Γ hΓ
  (repeat first|refine sN rfl ?_|((first|refine sX rfl ?_ ?_|refine s4 rfl ‹_› rfl ?_ ?_);first|exact tI|omega|simp only[oZ] at *;omega)|refine s2 rfl fun _ _hb=>?_|refine s3 rfl ?_ ?_<;>rintro rfl|refine aU rfl ?_|refine lexE ?_)
  (refine pW rfl ?_ rfl (by rfl);refine n_sliceB rfl rfl rfl rfl (by simp) (by rfl) (by rfl) (by rfl) (by rfl) ?_)
  (repeat first|refine sN rfl ?_|((first|refine sX rfl ?_ ?_|refine s4 rfl ‹_› rfl ?_ ?_);first|exact tI|omega|simp only[oZ] at *;omega)|refine s2 rfl fun _ _hb=>?_|refine s3 rfl ?_ ?_<;>rintro rfl|refine aU rfl ?_|refine lexE ?_)
  refine aB ?_
  refine AWp.loopV (α:={z:Nat×Nat×List W // z.1≤w0.length+1∧z.2.1≤z.1∧z.2.2.length≤z.1∧(z.1=w0.length+1→1≤z.2.2.length)∧∀w∈z.2.2,w.length≤w0.length}) [0,1] [] rfl rfl (fun s=>[(5,.o (.arr 0 1 0 s.1.2.2.length)),(6,eI .i64 s.1.2.1),(7,eI .i64 s.1.1)]) (fun s=>[(0,.cells 9 1 (s.1.2.2.map tRowC))]) 1 (fun s=>w0.length+1 - s.1.1) (⟨⟨0,0,[]⟩,by simp⟩) (List.range 1) (rg hΓ rfl) (by (repeat' first|exact tI|rfl|refine And.intro ?_ ?_)<;>(simp[cX,zC,hΓ]<;>rfl)) ?_;rintro ⟨⟨k,fr,r⟩,hk,hf,hr,hr1,hw⟩;(try dsimp only[List.cons_append,List.nil_append])
  have hk:k≤w0.length+1:=hk
  have hf:fr≤k:=hf
  have hr:r.length≤k:=hr
  have hr1:k=w0.length+1→1≤r.length:=hr1
  (repeat first|refine sN rfl ?_|((first|refine sA rfl ?_ ?_|refine s4 rfl ‹_› rfl ?_ ?_);first|exact tI|omega|simp only[oZ] at *;omega)|refine s2 rfl fun _ _hb=>?_|refine s3 rfl ?_ ?_<;>rintro rfl|refine aU rfl ?_|refine lexE ?_)
  ((refine aC rfl ?_ ?_<;>rintro ⟨⟩);all_goals try (simp at _hb;done))
  · have hlt:k≤w0.length:=by first|omega|simp only[oZ] at *;omega
    refine AWp.skip ?_
    refine AWp.seq (AWp.block ?_)
    have hx:k=w0.length∨∃e,w0[(k:Int).toNat]? = some e:=by
      rcases Nat.lt_or_ge k w0.length with h|h
      · obtain ⟨e,he⟩:=get_some (l:=w0) (k:=(k:Int).toNat) (by omega)
        exact .inr ⟨e,he⟩
      · exact .inl (by omega)
    rcases hx with hx|⟨e,he⟩
    all_goals (repeat' first|refine sN rfl ?_|((first|refine sA rfl ?_ ?_|refine s4 rfl ‹_› rfl ?_ ?_);first|exact tI|omega|simp only[oZ] at *;omega)|refine s2 rfl fun _ _hb=>?_|(refine popO rfl ?_;refine gA rfl ?_;first|refine gS (fun _ _=>q_partT rfl rfl rfl (by simp [loV]) (by simp [loV,hiV];omega) (by simp [hiV];omega)) ?_)|refine s3 rfl ?_ ?_<;>rintro rfl|refine aU rfl ?_|refine lexE ?_|(refine aC rfl ?_ ?_<;>rintro ⟨⟩))
    all_goals first
      | (exfalso;first|omega|simp only[oZ] at *;omega;done)
      | (refine AWp.skip ?_
         (repeat first|refine sN rfl ?_|((first|refine sA rfl ?_ ?_|refine s4 rfl ‹_› rfl ?_ ?_);first|exact tI|omega|simp only[oZ] at *;omega)|refine s2 rfl fun _ _hb=>?_|refine s3 rfl ?_ ?_<;>rintro rfl|refine aU rfl ?_|refine lexE ?_)
         refine ⟨⟨⟨k+1,fr,r⟩,by dsimp only;omega,by dsimp only;omega,by dsimp only;omega,by dsimp only;intro h9;exfalso;first|omega|simp only[oZ] at *;omega,hw⟩,by dsimp only;(first|omega|simp only[oZ] at *;omega),[0],?_⟩
         (simp[cX,zC,hΓ,cN]<;>rfl)
         done)
      | ((refine pW rfl ?_ rfl (by rfl);refine n_append rfl rfl rfl (by first|(simp;done)|(simp;(first|omega|simp only[oZ] at *;omega))) rfl (by intro r hr;simp at hr;subst hr;rfl) (by rfl) (Nat.le_of_ble_eq_true rfl) (by simp;omega) ?_)
         (repeat first|refine sN rfl ?_|((first|refine sA rfl ?_ ?_|refine s4 rfl ‹_› rfl ?_ ?_);first|exact tI|omega|simp only[oZ] at *;omega)|refine s2 rfl fun _ _hb=>?_|refine s3 rfl ?_ ?_<;>rintro rfl|refine aU rfl ?_|refine lexE ?_)
         have hw2:∀w∈r++[(w0.take k).drop fr],w.length≤w0.length:=fun w hm=>by
           rcases List.mem_append.1 hm with hm|hm
           · exact hw w hm
           · simp at hm;subst hm;simp;omega
         refine ⟨⟨⟨k+1,k+1,r++[(w0.take k).drop fr]⟩,by dsimp only;omega,by dsimp only;omega,by simp;omega,by simp,hw2⟩,by dsimp only;(first|omega|simp only[oZ] at *;omega),[1],?_⟩
         (simp[cX,zC,hΓ,cN,loV,hiV]<;>rfl))
  · have hkn:k=w0.length+1:=by first|omega|simp only[oZ] at *;omega
    refine AWp.exit ?_
    (repeat first|refine sN rfl ?_|((first|refine sA rfl ?_ ?_|refine s4 rfl ‹_› rfl ?_ ?_);first|exact tI|omega|simp only[oZ] at *;omega)|refine s2 rfl fun _ _hb=>?_|refine s3 rfl ?_ ?_<;>rintro rfl|refine aU rfl ?_|refine lexE ?_)
    refine AWp.settle [(4,eTexts r)] ⟨⟨_,rfl,.o (.full rfl (by simp [Function.comp_def]) (by simp))⟩,trivial⟩ ?_
    refine AWp.ret ⟨_,rfl,[],eTexts r,[],⟨by intro i hi;omega,by decide⟩,rfl,trivial,r,⟨hr1 hkn,by omega,hw⟩,rfl,rfl,rfl⟩
abbrev eNB (r:Int×Bool):E:=.t [(false,[.d (iD r.1)]),(false,[.d (bD r.2)])]
theorem byD_of {z:Int} (h:0≤z∧z < 256):[[D.v (.int .u8 z)]]=[UInt8.ofNat z.toNat].map byD:=by
  have h2:z.toNat % 256=z.toNat:=Nat.mod_eq_of_lt (by omega)
  have h3:((z.toNat:Nat):Int)=z:=by omega
  simp [byD,h2,h3]
theorem l19Dec_ok (n:Int) (hn:0≤n∧n < 100):Spec Tryz.prog TB 174 [] 0 [eI .i64 n] (AnyPost (fun r:W=>r.length≤3) eT):=by
  refine SpecK.toSpec (SpecK.ren (SpecK.ofG (Nat.le_refl _) Tryz.func174 rfl (by kernel_rfl) (Nat.le_of_ble_eq_true rfl) ?_));intro Γ hΓ
  (repeat first|refine sN rfl ?_|((first|refine sA rfl ?_ ?_|refine s4 rfl ‹_› rfl ?_ ?_);first|exact tI|omega|simp only[oZ] at *;omega)|refine s2 rfl fun _ _hb=>?_|refine s3 rfl ?_ ?_<;>rintro rfl|refine aU rfl ?_|refine lexE ?_)
  ((refine aC rfl ?_ ?_<;>rintro ⟨⟩);all_goals try (simp at _hb;done))
  · exfalso;first|omega|simp only[oZ] at *;omega
  refine AWp.skip ?_
  (repeat first|refine sN rfl ?_|((first|refine sA rfl ?_ ?_|refine s4 rfl ‹_› rfl ?_ ?_);first|exact tI|omega|simp only[oZ] at *;omega)|refine s2 rfl fun _ _hb=>?_|refine s3 rfl ?_ ?_<;>rintro rfl|refine aU rfl ?_|refine lexE ?_)
  ((refine aC rfl ?_ ?_<;>rintro ⟨⟩);all_goals try (simp at _hb;done))
  · exfalso;first|omega|simp only[oZ] at *;omega
  refine AWp.skip ?_
  (repeat first|refine sN rfl ?_|((first|refine sA rfl ?_ ?_|refine s4 rfl ‹_› rfl ?_ ?_);first|exact tI|omega|simp only[oZ] at *;omega)|refine s2 rfl fun _ _hb=>?_|refine s3 rfl ?_ ?_<;>rintro rfl|refine aU rfl ?_|refine lexE ?_)
  refine aB ?_
  refine AWp.loopV (α:={s:Int×W // (0≤s.1∧s.1 < 100)∧s.2.length≤2∧(9 < s.1→s.2.length≤1)}) [] [] rfl rfl (fun s=>[(0,eI .i64 s.1.1),(3,eT s.1.2)]) (fun s=>[]) 0 (fun s=>s.1.1.toNat) (⟨⟨n,[]⟩,by simp;omega⟩) (List.range 0) (rg hΓ rfl) (by (repeat' first|exact tI|rfl|refine And.intro ?_ ?_)<;>(simp[cX,zC,hΓ]<;>rfl)) ?_;rintro ⟨⟨q,w⟩,hq,hw,hw2⟩;(try dsimp only[List.cons_append,List.nil_append])
  have hq:0≤q∧q < 100:=hq
  have hw:w.length≤2:=hw
  have hw2:9 < q→w.length≤1:=hw2
  (repeat first|refine sN rfl ?_|((first|refine sA rfl ?_ ?_|refine s4 rfl ‹_› rfl ?_ ?_);first|exact tI|omega|simp only[oZ] at *;omega)|refine s2 rfl fun _ _hb=>?_|refine s3 rfl ?_ ?_<;>rintro rfl|refine aU rfl ?_|refine lexE ?_)
  ((refine aC rfl ?_ ?_<;>rintro ⟨⟩);all_goals try (simp at _hb;done))
  · have hlt:9 < q:=by first|omega|simp only[oZ] at *;omega
    have hw3:=hw2 hlt
    refine AWp.skip ?_
    refine AWp.block ?_
    (repeat first|refine sN rfl ?_|((first|refine sA rfl ?_ ?_|refine s4 rfl ‹_› rfl ?_ ?_);first|exact tI|omega|simp only[oZ] at *;omega)|refine s2 rfl fun _ _hb=>?_|(refine popO rfl ?_;refine gA rfl ?_;first|refine gS (fun _ _=>q_textL _ rfl (byD_of (by omega))) ?_)|refine s3 rfl ?_ ?_<;>rintro rfl|refine aU rfl ?_|refine lexE ?_)
    refine ⟨⟨⟨q / 10,[UInt8.ofNat (48+q % 10).toNat]++w⟩,⟨by dsimp only;omega,by dsimp only;omega⟩,by simp;omega,fun h9=>by exfalso;dsimp only at h9;omega⟩,by dsimp only;(first|omega|simp only[oZ] at *;omega),[],?_⟩
    (simp[cX,zC,hΓ,cN]<;>rfl)
  · refine AWp.exit ?_
    (repeat first|refine sN rfl ?_|((first|refine sA rfl ?_ ?_|refine s4 rfl ‹_› rfl ?_ ?_);first|exact tI|omega|simp only[oZ] at *;omega)|refine s2 rfl fun _ _hb=>?_|(refine popO rfl ?_;refine gA rfl ?_;first|refine gS (fun _ _=>q_textL _ rfl (byD_of (by omega))) ?_)|refine s3 rfl ?_ ?_<;>rintro rfl|refine aU rfl ?_|refine lexE ?_)
    refine AWp.ret ⟨_,rfl,[],eT ([UInt8.ofNat (48+q).toNat]++w),[],⟨by intro i hi;omega,by decide⟩,rfl,trivial,[UInt8.ofNat (48+q).toNat]++w,by simp;omega,rfl,rfl,rfl⟩
theorem ten_step (k:Nat) (hk:k < 17):(10 ^ (k+1):Nat)=10 ^ k*10∧(10 ^ k:Nat)≤100000000000000000:=⟨Nat.pow_succ ..,Nat.le_trans (Nat.pow_le_pow_right (by omega) (Nat.le_of_lt hk)) (by decide)⟩
theorem l19Num_ok (s0:W) (hs:s0.length≤1000000):Spec Tryz.prog TB 160 [] 0 [eT s0] (AnyPost (fun _:Int×Bool=>True) eNB):=by
  by_cases z0:s0.length=0
  · refine SpecK.toSpec (SpecK.ren (SpecK.ofG (Nat.le_refl _) Tryz.func160 rfl (by kernel_rfl) (Nat.le_of_ble_eq_true rfl) ?_));intro Γ hΓ
    (repeat' first|refine sN rfl ?_|((first|refine sA rfl ?_ ?_|refine s4 rfl ‹_› rfl ?_ ?_);first|exact tI|omega|simp only[oZ] at *;omega)|refine s2 rfl fun _ _hb=>?_|(refine popO rfl ?_;refine gA rfl ?_;first|refine gS (fun _ _=>q_dropT rfl rfl (by omega) (by omega)) ?_)|refine s3 rfl ?_ ?_<;>rintro rfl|refine aU rfl ?_|refine lexE ?_|(refine aC rfl ?_ ?_<;>rintro ⟨⟩)|refine aK ?_)
    all_goals first
      | (exfalso;first|omega|simp only[oZ] at *;omega;done)
      | refine AWp.ret ⟨_,rfl,[],eNB (0,false),[],⟨by intro i hi;omega,by decide⟩,rfl,trivial,(0,false),trivial,rfl,rfl,rfl⟩
  obtain ⟨c,h0⟩:=get_some (l:=s0) (k:=(0:Int).toNat) (by simp;omega)
  have h1:1 < s0.length→∃d,(s0.drop (Int.toNat 1))[(0:Int).toNat]? = some d:=fun h=>get_some (by simp;omega)
  have hlen:∀m:Nat,(s0.drop m).length=s0.length - m:=fun m=>List.length_drop
  by_cases z1:s0.length=1
  · refine SpecK.toSpec (SpecK.ren (SpecK.ofG (Nat.le_refl _) Tryz.func160 rfl (by kernel_rfl) (Nat.le_of_ble_eq_true rfl) ?_));intro Γ hΓ
    (repeat' first|refine sN rfl ?_|((first|refine sA rfl ?_ ?_|refine s4 rfl ‹_› rfl ?_ ?_);first|exact tI|omega|simp only[oZ] at *;omega)|refine s2 rfl fun _ _hb=>?_|(refine popO rfl ?_;refine gA rfl ?_;first|refine gS (fun _ _=>q_dropT rfl rfl (by omega) (by omega)) ?_)|refine s3 rfl ?_ ?_<;>rintro rfl|refine aU rfl ?_|refine lexE ?_|(refine aC rfl ?_ ?_<;>rintro ⟨⟩)|refine aK ?_)
    all_goals first
      | (exfalso;first|omega|simp only[oZ] at *;omega;done)
      | refine AWp.ret ⟨_,rfl,[],eNB (0,false),[],⟨by intro i hi;omega,by decide⟩,rfl,trivial,(0,false),trivial,rfl,rfl,rfl⟩
      | (exfalso;simp only [oZ,hlen] at *;omega)
      | skip
    · have h17:(s0).length≤17:=by first|omega|simp only[oZ] at *;omega
      refine AWp.block ?_
      refine AWp.loopV (α:={s:Nat×Int // s.1≤(s0).length∧0≤s.2∧s.2 < ((10 ^ s.1:Nat):Int)}) [0,4] [] rfl rfl (fun s=>[(5,eI .i64 s.1.2),(6,eI .i64 s.1.1)]) (fun s=>[]) 0 (fun s=>(s0).length - s.1.1) (⟨⟨0,0⟩,by simp⟩) (List.range 0) (rg hΓ rfl) (by (repeat' first|exact tI|rfl|refine And.intro ?_ ?_)<;>(simp[cX,zC,hΓ]<;>rfl)) ?_;rintro ⟨⟨k,n⟩,hk,hn0,hn⟩;(try dsimp only[List.cons_append,List.nil_append])
      have hk:k≤(s0).length:=hk
      have hn0:0≤n:=hn0
      have hn:n < ((10 ^ k:Nat):Int):=hn
      (repeat first|refine sN rfl ?_|((first|refine sA rfl ?_ ?_|refine s4 rfl ‹_› rfl ?_ ?_);first|exact tI|omega|simp only[oZ] at *;omega)|refine s2 rfl fun _ _hb=>?_|refine s3 rfl ?_ ?_<;>rintro rfl|refine aU rfl ?_|refine lexE ?_)
      ((refine aC rfl ?_ ?_<;>rintro ⟨⟩);all_goals try (simp at _hb;done))
      · have hlt:k < (s0).length:=by first|omega|simp only[oZ] at *;omega
        obtain ⟨e,he⟩:=get_some (l:=s0) (k:=(k:Int).toNat) (by omega)
        have hel:=e.toNat_lt
        obtain ⟨t1,t2⟩:=ten_step k (by omega)
        refine AWp.skip ?_
        refine AWp.seq (AWp.block ?_)
        (repeat' first|refine sN rfl ?_|((first|refine sA rfl ?_ ?_|refine s4 rfl ‹_› rfl ?_ ?_);first|exact tI|omega|simp only[oZ] at *;omega)|refine s2 rfl fun _ _hb=>?_|(refine popO rfl ?_;refine gA rfl ?_;first|refine gS (fun _ _=>q_dropT rfl rfl (by omega) (by omega)) ?_)|refine s3 rfl ?_ ?_<;>rintro rfl|refine aU rfl ?_|refine lexE ?_|(refine aC rfl ?_ ?_<;>rintro ⟨⟩)|refine aK ?_)
        all_goals first
          | (exfalso;first|omega|simp only[oZ] at *;omega;done)
          | refine AWp.ret ⟨_,rfl,[],eNB (0,false),[],⟨by intro i hi;omega,by decide⟩,rfl,trivial,(0,false),trivial,rfl,rfl,rfl⟩
          | (refine ⟨⟨⟨k+1,n*10+((e.toNat:Int) - 48)⟩,by dsimp only;omega,by dsimp only;first|omega|simp only[oZ] at *;omega,by dsimp only;rw [t1];first|omega|simp only[oZ] at *;omega⟩,by dsimp only;(first|omega|simp only[oZ] at *;omega),[],?_⟩
             (simp[cX,zC,hΓ,cN]<;>rfl))
      · refine AWp.exit ?_
        have hP:(10 ^ k:Nat)≤100000000000000000:=Nat.le_trans (Nat.pow_le_pow_right (by omega) (Nat.le_trans hk h17)) (by decide)
        (repeat' first|refine sN rfl ?_|((first|refine sA rfl ?_ ?_|refine s4 rfl ‹_› rfl ?_ ?_);first|exact tI|omega|simp only[oZ] at *;omega)|refine s2 rfl fun _ _hb=>?_|(refine popO rfl ?_;refine gA rfl ?_;first|refine gS (fun _ _=>q_neg rfl (IntWalk.i64_in _ (by omega))) ?_)|refine s3 rfl ?_ ?_<;>rintro rfl|refine aU rfl ?_|refine lexE ?_|(refine aC rfl ?_ ?_<;>rintro ⟨⟩)|refine aK ?_)
        exact AWp.ret ⟨_,rfl,[],eNB (n,true),[],⟨fun i hi=>absurd hi (Nat.not_lt_zero i),List.nodup_nil⟩,rfl,trivial,(n,true),trivial,rfl,rfl,rfl⟩
    · have h17:(s0).length≤17:=by first|omega|simp only[oZ] at *;omega
      refine AWp.block ?_
      refine AWp.loopV (α:={s:Nat×Int // s.1≤(s0).length∧0≤s.2∧s.2 < ((10 ^ s.1:Nat):Int)}) [0,4] [] rfl rfl (fun s=>[(5,eI .i64 s.1.2),(6,eI .i64 s.1.1)]) (fun s=>[]) 0 (fun s=>(s0).length - s.1.1) (⟨⟨0,0⟩,by simp⟩) (List.range 0) (rg hΓ rfl) (by (repeat' first|exact tI|rfl|refine And.intro ?_ ?_)<;>(simp[cX,zC,hΓ]<;>rfl)) ?_;rintro ⟨⟨k,n⟩,hk,hn0,hn⟩;(try dsimp only[List.cons_append,List.nil_append])
      have hk:k≤(s0).length:=hk
      have hn0:0≤n:=hn0
      have hn:n < ((10 ^ k:Nat):Int):=hn
      (repeat first|refine sN rfl ?_|((first|refine sA rfl ?_ ?_|refine s4 rfl ‹_› rfl ?_ ?_);first|exact tI|omega|simp only[oZ] at *;omega)|refine s2 rfl fun _ _hb=>?_|refine s3 rfl ?_ ?_<;>rintro rfl|refine aU rfl ?_|refine lexE ?_)
      ((refine aC rfl ?_ ?_<;>rintro ⟨⟩);all_goals try (simp at _hb;done))
      · have hlt:k < (s0).length:=by first|omega|simp only[oZ] at *;omega
        obtain ⟨e,he⟩:=get_some (l:=s0) (k:=(k:Int).toNat) (by omega)
        have hel:=e.toNat_lt
        obtain ⟨t1,t2⟩:=ten_step k (by omega)
        refine AWp.skip ?_
        refine AWp.seq (AWp.block ?_)
        (repeat' first|refine sN rfl ?_|((first|refine sA rfl ?_ ?_|refine s4 rfl ‹_› rfl ?_ ?_);first|exact tI|omega|simp only[oZ] at *;omega)|refine s2 rfl fun _ _hb=>?_|(refine popO rfl ?_;refine gA rfl ?_;first|refine gS (fun _ _=>q_dropT rfl rfl (by omega) (by omega)) ?_)|refine s3 rfl ?_ ?_<;>rintro rfl|refine aU rfl ?_|refine lexE ?_|(refine aC rfl ?_ ?_<;>rintro ⟨⟩)|refine aK ?_)
        all_goals first
          | (exfalso;first|omega|simp only[oZ] at *;omega;done)
          | refine AWp.ret ⟨_,rfl,[],eNB (0,false),[],⟨by intro i hi;omega,by decide⟩,rfl,trivial,(0,false),trivial,rfl,rfl,rfl⟩
          | (refine ⟨⟨⟨k+1,n*10+((e.toNat:Int) - 48)⟩,by dsimp only;omega,by dsimp only;first|omega|simp only[oZ] at *;omega,by dsimp only;rw [t1];first|omega|simp only[oZ] at *;omega⟩,by dsimp only;(first|omega|simp only[oZ] at *;omega),[],?_⟩
             (simp[cX,zC,hΓ,cN]<;>rfl))
      · refine AWp.exit ?_
        have hP:(10 ^ k:Nat)≤100000000000000000:=Nat.le_trans (Nat.pow_le_pow_right (by omega) (Nat.le_trans hk h17)) (by decide)
        (repeat' first|refine sN rfl ?_|((first|refine sA rfl ?_ ?_|refine s4 rfl ‹_› rfl ?_ ?_);first|exact tI|omega|simp only[oZ] at *;omega)|refine s2 rfl fun _ _hb=>?_|(refine popO rfl ?_;refine gA rfl ?_;first|refine gS (fun _ _=>q_neg rfl (IntWalk.i64_in _ (by omega))) ?_)|refine s3 rfl ?_ ?_<;>rintro rfl|refine aU rfl ?_|refine lexE ?_|(refine aC rfl ?_ ?_<;>rintro ⟨⟩)|refine aK ?_)
        exact AWp.ret ⟨_,rfl,[],eNB (n,true),[],⟨fun i hi=>absurd hi (Nat.not_lt_zero i),List.nodup_nil⟩,rfl,trivial,(n,true),trivial,rfl,rfl,rfl⟩
  obtain ⟨d,h1⟩:=h1 (by omega)
  refine SpecK.toSpec (SpecK.ren (SpecK.ofG (Nat.le_refl _) Tryz.func160 rfl (by kernel_rfl) (Nat.le_of_ble_eq_true rfl) ?_));intro Γ hΓ
  (repeat' first|refine sN rfl ?_|((first|refine sA rfl ?_ ?_|refine s4 rfl ‹_› rfl ?_ ?_);first|exact tI|omega|simp only[oZ] at *;omega)|refine s2 rfl fun _ _hb=>?_|(refine popO rfl ?_;refine gA rfl ?_;first|refine gS (fun _ _=>q_dropT rfl rfl (by omega) (by omega)) ?_)|refine s3 rfl ?_ ?_<;>rintro rfl|refine aU rfl ?_|refine lexE ?_|(refine aC rfl ?_ ?_<;>rintro ⟨⟩)|refine aK ?_)
  all_goals first
    | (exfalso;first|omega|simp only[oZ] at *;omega;done)
    | refine AWp.ret ⟨_,rfl,[],eNB (0,false),[],⟨by intro i hi;omega,by decide⟩,rfl,trivial,(0,false),trivial,rfl,rfl,rfl⟩
    | (exfalso;simp only [oZ,hlen] at *;omega)
    | skip
  · have h17:(List.drop (Int.toNat 1) s0).length≤17:=by first|omega|simp only[oZ] at *;omega
    refine AWp.block ?_
    refine AWp.loopV (α:={s:Nat×Int // s.1≤(List.drop (Int.toNat 1) s0).length∧0≤s.2∧s.2 < ((10 ^ s.1:Nat):Int)}) [0,4] [] rfl rfl (fun s=>[(5,eI .i64 s.1.2),(6,eI .i64 s.1.1)]) (fun s=>[]) 0 (fun s=>(List.drop (Int.toNat 1) s0).length - s.1.1) (⟨⟨0,0⟩,by simp⟩) (List.range 0) (rg hΓ rfl) (by (repeat' first|exact tI|rfl|refine And.intro ?_ ?_)<;>(simp[cX,zC,hΓ]<;>rfl)) ?_;rintro ⟨⟨k,n⟩,hk,hn0,hn⟩;(try dsimp only[List.cons_append,List.nil_append])
    have hk:k≤(List.drop (Int.toNat 1) s0).length:=hk
    have hn0:0≤n:=hn0
    have hn:n < ((10 ^ k:Nat):Int):=hn
    (repeat first|refine sN rfl ?_|((first|refine sA rfl ?_ ?_|refine s4 rfl ‹_› rfl ?_ ?_);first|exact tI|omega|simp only[oZ] at *;omega)|refine s2 rfl fun _ _hb=>?_|refine s3 rfl ?_ ?_<;>rintro rfl|refine aU rfl ?_|refine lexE ?_)
    ((refine aC rfl ?_ ?_<;>rintro ⟨⟩);all_goals try (simp at _hb;done))
    · have hlt:k < (List.drop (Int.toNat 1) s0).length:=by first|omega|simp only[oZ] at *;omega
      obtain ⟨e,he⟩:=get_some (l:=List.drop (Int.toNat 1) s0) (k:=(k:Int).toNat) (by omega)
      have hel:=e.toNat_lt
      obtain ⟨t1,t2⟩:=ten_step k (by omega)
      refine AWp.skip ?_
      refine AWp.seq (AWp.block ?_)
      (repeat' first|refine sN rfl ?_|((first|refine sA rfl ?_ ?_|refine s4 rfl ‹_› rfl ?_ ?_);first|exact tI|omega|simp only[oZ] at *;omega)|refine s2 rfl fun _ _hb=>?_|(refine popO rfl ?_;refine gA rfl ?_;first|refine gS (fun _ _=>q_dropT rfl rfl (by omega) (by omega)) ?_)|refine s3 rfl ?_ ?_<;>rintro rfl|refine aU rfl ?_|refine lexE ?_|(refine aC rfl ?_ ?_<;>rintro ⟨⟩)|refine aK ?_)
      all_goals first
        | (exfalso;first|omega|simp only[oZ] at *;omega;done)
        | refine AWp.ret ⟨_,rfl,[],eNB (0,false),[],⟨by intro i hi;omega,by decide⟩,rfl,trivial,(0,false),trivial,rfl,rfl,rfl⟩
        | (refine ⟨⟨⟨k+1,n*10+((e.toNat:Int) - 48)⟩,by dsimp only;omega,by dsimp only;first|omega|simp only[oZ] at *;omega,by dsimp only;rw [t1];first|omega|simp only[oZ] at *;omega⟩,by dsimp only;(first|omega|simp only[oZ] at *;omega),[],?_⟩
           (simp[cX,zC,hΓ,cN]<;>rfl))
    · refine AWp.exit ?_
      have hP:(10 ^ k:Nat)≤100000000000000000:=Nat.le_trans (Nat.pow_le_pow_right (by omega) (Nat.le_trans hk h17)) (by decide)
      (repeat' first|refine sN rfl ?_|((first|refine sA rfl ?_ ?_|refine s4 rfl ‹_› rfl ?_ ?_);first|exact tI|omega|simp only[oZ] at *;omega)|refine s2 rfl fun _ _hb=>?_|(refine popO rfl ?_;refine gA rfl ?_;first|refine gS (fun _ _=>q_neg rfl (IntWalk.i64_in _ (by omega))) ?_)|refine s3 rfl ?_ ?_<;>rintro rfl|refine aU rfl ?_|refine lexE ?_|(refine aC rfl ?_ ?_<;>rintro ⟨⟩)|refine aK ?_)
      exact AWp.ret ⟨_,rfl,[],eNB (-n,true),[],⟨fun i hi=>absurd hi (Nat.not_lt_zero i),List.nodup_nil⟩,rfl,trivial,(-n,true),trivial,rfl,rfl,rfl⟩
  · have h17:(s0).length≤17:=by first|omega|simp only[oZ] at *;omega
    refine AWp.block ?_
    refine AWp.loopV (α:={s:Nat×Int // s.1≤(s0).length∧0≤s.2∧s.2 < ((10 ^ s.1:Nat):Int)}) [0,4] [] rfl rfl (fun s=>[(5,eI .i64 s.1.2),(6,eI .i64 s.1.1)]) (fun s=>[]) 0 (fun s=>(s0).length - s.1.1) (⟨⟨0,0⟩,by simp⟩) (List.range 0) (rg hΓ rfl) (by (repeat' first|exact tI|rfl|refine And.intro ?_ ?_)<;>(simp[cX,zC,hΓ]<;>rfl)) ?_;rintro ⟨⟨k,n⟩,hk,hn0,hn⟩;(try dsimp only[List.cons_append,List.nil_append])
    have hk:k≤(s0).length:=hk
    have hn0:0≤n:=hn0
    have hn:n < ((10 ^ k:Nat):Int):=hn
    (repeat first|refine sN rfl ?_|((first|refine sA rfl ?_ ?_|refine s4 rfl ‹_› rfl ?_ ?_);first|exact tI|omega|simp only[oZ] at *;omega)|refine s2 rfl fun _ _hb=>?_|refine s3 rfl ?_ ?_<;>rintro rfl|refine aU rfl ?_|refine lexE ?_)
    ((refine aC rfl ?_ ?_<;>rintro ⟨⟩);all_goals try (simp at _hb;done))
    · have hlt:k < (s0).length:=by first|omega|simp only[oZ] at *;omega
      obtain ⟨e,he⟩:=get_some (l:=s0) (k:=(k:Int).toNat) (by omega)
      have hel:=e.toNat_lt
      obtain ⟨t1,t2⟩:=ten_step k (by omega)
      refine AWp.skip ?_
      refine AWp.seq (AWp.block ?_)
      (repeat' first|refine sN rfl ?_|((first|refine sA rfl ?_ ?_|refine s4 rfl ‹_› rfl ?_ ?_);first|exact tI|omega|simp only[oZ] at *;omega)|refine s2 rfl fun _ _hb=>?_|(refine popO rfl ?_;refine gA rfl ?_;first|refine gS (fun _ _=>q_dropT rfl rfl (by omega) (by omega)) ?_)|refine s3 rfl ?_ ?_<;>rintro rfl|refine aU rfl ?_|refine lexE ?_|(refine aC rfl ?_ ?_<;>rintro ⟨⟩)|refine aK ?_)
      all_goals first
        | (exfalso;first|omega|simp only[oZ] at *;omega;done)
        | refine AWp.ret ⟨_,rfl,[],eNB (0,false),[],⟨by intro i hi;omega,by decide⟩,rfl,trivial,(0,false),trivial,rfl,rfl,rfl⟩
        | (refine ⟨⟨⟨k+1,n*10+((e.toNat:Int) - 48)⟩,by dsimp only;omega,by dsimp only;first|omega|simp only[oZ] at *;omega,by dsimp only;rw [t1];first|omega|simp only[oZ] at *;omega⟩,by dsimp only;(first|omega|simp only[oZ] at *;omega),[],?_⟩
           (simp[cX,zC,hΓ,cN]<;>rfl))
    · refine AWp.exit ?_
      have hP:(10 ^ k:Nat)≤100000000000000000:=Nat.le_trans (Nat.pow_le_pow_right (by omega) (Nat.le_trans hk h17)) (by decide)
      (repeat' first|refine sN rfl ?_|((first|refine sA rfl ?_ ?_|refine s4 rfl ‹_› rfl ?_ ?_);first|exact tI|omega|simp only[oZ] at *;omega)|refine s2 rfl fun _ _hb=>?_|(refine popO rfl ?_;refine gA rfl ?_;first|refine gS (fun _ _=>q_neg rfl (IntWalk.i64_in _ (by omega))) ?_)|refine s3 rfl ?_ ?_<;>rintro rfl|refine aU rfl ?_|refine lexE ?_|(refine aC rfl ?_ ?_<;>rintro ⟨⟩)|refine aK ?_)
      exact AWp.ret ⟨_,rfl,[],eNB (n,true),[],⟨fun i hi=>absurd hi (Nat.not_lt_zero i),List.nodup_nil⟩,rfl,trivial,(n,true),trivial,rfl,rfl,rfl⟩
abbrev eLB (r:List Int×Bool):E:=.t [(false,[.d (iList r.1)]),(false,[.d (bD r.2)])]
theorem l3Parse_ok (w0:W) (hs:w0.length≤1000000):Spec Tryz.prog TB 163 [] 0 [eT w0] (AnyPost (fun r:List Int×Bool=>r.1.length≤w0.length+1) eLB):=by
  refine SpecK.toSpec (SpecK.ren (SpecK.ofG (Nat.le_refl _) Tryz.func163 rfl (by kernel_rfl) (Nat.le_of_ble_eq_true rfl) ?_));intro Γ hΓ
  (repeat first|refine sN rfl ?_|((first|refine sX rfl ?_ ?_|refine s4 rfl ‹_› rfl ?_ ?_);first|exact tI|omega|simp only[oZ] at *;omega)|refine s2 rfl fun _ _hb=>?_|refine s3 rfl ?_ ?_<;>rintro rfl|refine aU rfl ?_|refine lexE ?_)
  (refine pW rfl ?_ rfl (by rfl);refine n_sliceB rfl rfl rfl rfl (by simp) (by rfl) (by rfl) (by rfl) (by rfl) ?_)
  (repeat first|refine sN rfl ?_|((first|refine sX rfl ?_ ?_|refine s4 rfl ‹_› rfl ?_ ?_);first|exact tI|omega|simp only[oZ] at *;omega)|refine s2 rfl fun _ _hb=>?_|refine s3 rfl ?_ ?_<;>rintro rfl|refine aU rfl ?_|refine lexE ?_)
  (refine aC rfl ?_ ?_<;>rintro ⟨⟩)
  · (repeat first|refine sN rfl ?_|((first|refine sX rfl ?_ ?_|refine s4 rfl ‹_› rfl ?_ ?_);first|exact tI|omega|simp only[oZ] at *;omega)|refine s2 rfl fun _ _hb=>?_|refine s3 rfl ?_ ?_<;>rintro rfl|refine aU rfl ?_|refine lexE ?_)
    refine AWp.settle [(2,eInts []),(3,eB true)] ⟨⟨_,rfl,.o (.full rfl (by simp) (by simp))⟩,⟨_,rfl,.o .d⟩,trivial⟩ ?_
    exact AWp.ret ⟨_,rfl,[],eLB ([],true),[],⟨fun i hi=>absurd hi (Nat.not_lt_zero i),List.nodup_nil⟩,rfl,trivial,([],true),Nat.zero_le _,rfl,rfl,rfl⟩
  refine AWp.skip ?_
  (repeat first|refine sN rfl ?_|((first|refine sA rfl ?_ ?_|refine s4 rfl ‹_› rfl ?_ ?_);first|exact tI|omega|simp only[oZ] at *;omega)|refine s2 rfl fun _ _hb=>?_|refine s3 rfl ?_ ?_<;>rintro rfl|refine aU rfl ?_|refine lexE ?_)
  (refine pW rfl ?_ rfl (by rfl);refine n_call [] rfl rfl (l19Cut_ok (TB:=TB) w0 hs 44) ⟨rfl,by decide,by decide⟩ rfl trivial ?_;rintro x0 σ1 nx1 ⟨ps,⟨hp1,hp2,hp3⟩,rfl,rfl,rfl⟩ _)
  (repeat first|refine sN rfl ?_|((first|refine sA rfl ?_ ?_|refine s4 rfl ‹_› rfl ?_ ?_);first|exact tI|omega|simp only[oZ] at *;omega)|refine s2 rfl fun _ _hb=>?_|refine s3 rfl ?_ ?_<;>rintro rfl|refine aU rfl ?_|refine lexE ?_)
  refine aB ?_
  refine AWp.loopV (α:={z:Nat×List Int // z.1≤ps.length∧z.2.length=z.1}) [5] [] rfl rfl (fun s=>[(4,.o (.arr 0 1 0 s.1.2.length)),(6,eI .i64 s.1.1)]) (fun s=>[(0,.cells 3 1 (s.1.2.map iRowC))]) 1 (fun s=>ps.length - s.1.1) (⟨⟨0,[]⟩,by simp⟩) (List.range 1) (rg hΓ rfl) (by (repeat' first|exact tI|rfl|refine And.intro ?_ ?_)<;>(simp[cX,zC,hΓ]<;>rfl)) ?_;rintro ⟨⟨k,r⟩,hk,hr⟩;(try dsimp only[List.cons_append,List.nil_append])
  have hk:k≤ps.length:=hk
  have hr:r.length=k:=hr
  (repeat first|refine sN rfl ?_|((first|refine sA rfl ?_ ?_|refine s4 rfl ‹_› rfl ?_ ?_);first|exact tI|omega|simp only[oZ] at *;omega)|refine s2 rfl fun _ _hb=>?_|refine s3 rfl ?_ ?_<;>rintro rfl|refine aU rfl ?_|refine lexE ?_)
  ((refine aC rfl ?_ ?_<;>rintro ⟨⟩);all_goals try (simp at _hb;done))
  · have hlt:k < ps.length:=by first|omega|simp only[oZ] at *;omega
    obtain ⟨w,hw⟩:=get_some (l:=ps) (k:=k) hlt
    have hw':=get_map (g:=tRow) hw
    have hwl:=hp3 w (List.mem_of_getElem? hw)
    refine AWp.skip ?_
    refine AWp.seq (AWp.block ?_)
    (repeat first|refine sN rfl ?_|((first|refine sA rfl ?_ ?_|refine s4 rfl ‹_› rfl ?_ ?_);first|exact tI|omega|simp only[oZ] at *;omega)|refine s2 rfl fun _ _hb=>?_|refine s3 rfl ?_ ?_<;>rintro rfl|refine aU rfl ?_|refine lexE ?_)
    (refine pW rfl ?_ rfl (by rfl);refine n_call [] rfl rfl (l19Num_ok (TB:=TB) w (by omega)) ⟨rfl,by decide,by decide⟩ rfl trivial ?_;rintro x0 σ1 nx1 ⟨⟨n,ok⟩,_,rfl,rfl,rfl⟩ _)
    (repeat first|refine sN rfl ?_|((first|refine sA rfl ?_ ?_|refine s4 rfl ‹_› rfl ?_ ?_);first|exact tI|omega|simp only[oZ] at *;omega)|refine s2 rfl fun _ _hb=>?_|refine s3 rfl ?_ ?_<;>rintro rfl|refine aU rfl ?_|refine lexE ?_)
    (refine aC rfl ?_ ?_<;>rintro ⟨⟩)
    · (repeat first|refine sN rfl ?_|((first|refine sA rfl ?_ ?_|refine s4 rfl ‹_› rfl ?_ ?_);first|exact tI|omega|simp only[oZ] at *;omega)|refine s2 rfl fun _ _hb=>?_|refine s3 rfl ?_ ?_<;>rintro rfl|refine aU rfl ?_|refine lexE ?_)
      exact AWp.ret ⟨_,rfl,[],eLB ([],false),[],⟨fun i hi=>absurd hi (Nat.not_lt_zero i),List.nodup_nil⟩,rfl,trivial,([],false),Nat.zero_le _,rfl,rfl,rfl⟩
    refine AWp.skip ?_
    (repeat first|refine sN rfl ?_|((first|refine sA rfl ?_ ?_|refine s4 rfl ‹_› rfl ?_ ?_);first|exact tI|omega|simp only[oZ] at *;omega)|refine s2 rfl fun _ _hb=>?_|refine s3 rfl ?_ ?_<;>rintro rfl|refine aU rfl ?_|refine lexE ?_)
    (refine pW rfl ?_ rfl (by rfl);refine n_append rfl rfl rfl (by first|(simp;done)|(simp;(first|omega|simp only[oZ] at *;omega))) rfl (by intro r hr;simp at hr;subst hr;rfl) (by rfl) (Nat.le_of_ble_eq_true rfl) (by simp;omega) ?_)
    (repeat first|refine sN rfl ?_|((first|refine sA rfl ?_ ?_|refine s4 rfl ‹_› rfl ?_ ?_);first|exact tI|omega|simp only[oZ] at *;omega)|refine s2 rfl fun _ _hb=>?_|refine s3 rfl ?_ ?_<;>rintro rfl|refine aU rfl ?_|refine lexE ?_)
    refine ⟨⟨⟨k+1,r++[n]⟩,by dsimp only;omega,by simp;omega⟩,by dsimp only;(first|omega|simp only[oZ] at *;omega),[1],?_⟩
    (simp[cX,zC,hΓ,cN]<;>rfl)
  · refine AWp.exit ?_
    (repeat first|refine sN rfl ?_|((first|refine sA rfl ?_ ?_|refine s4 rfl ‹_› rfl ?_ ?_);first|exact tI|omega|simp only[oZ] at *;omega)|refine s2 rfl fun _ _hb=>?_|refine s3 rfl ?_ ?_<;>rintro rfl|refine aU rfl ?_|refine lexE ?_)
    refine AWp.settle [(2,eInts r),(3,eB true)] ⟨⟨_,rfl,.o (.full rfl (by simp [Function.comp_def]) (by simp))⟩,⟨_,rfl,.o .d⟩,trivial⟩ ?_
    exact AWp.ret ⟨_,rfl,[],eLB (r,true),[],⟨fun i hi=>absurd hi (Nat.not_lt_zero i),List.nodup_nil⟩,rfl,trivial,(r,true),by show r.length≤_;omega,rfl,rfl,rfl⟩
theorem FormatAutomaton_ok (a:Aut):Spec Tryz.prog TB 164 [] 0 [eAut a] (AnyPost (fun r:W=>r.length≤1000) eT):=by
  refine SpecK.toSpec (SpecK.ren (SpecK.ofG (Nat.le_refl _) Tryz.func164 rfl (by kernel_rfl) (Nat.le_of_ble_eq_true rfl) ?_));intro Γ hΓ
  (repeat first|refine sN rfl ?_|((first|refine sA rfl ?_ ?_|refine s4 rfl ‹_› rfl ?_ ?_);first|exact tI|omega|simp only[oZ] at *;omega)|refine s2 rfl fun _ _hb=>?_ |(refine sC rfl (specAutomatonValid_ok a) ?_;intro _ _hb)|refine s3 rfl ?_ ?_<;>rintro rfl|refine aU rfl ?_|refine lexE ?_)
  (refine aC rfl ?_ ?_<;>rintro ⟨⟩)
  · (repeat first|refine sN rfl ?_|((first|refine sA rfl ?_ ?_|refine s4 rfl ‹_› rfl ?_ ?_);first|exact tI|omega|simp only[oZ] at *;omega)|refine s2 rfl fun _ _hb=>?_|refine s3 rfl ?_ ?_<;>rintro rfl|refine aU rfl ?_|refine lexE ?_)
    exact AWp.ret ⟨_,rfl,[],eT [],[],⟨fun i hi=>absurd hi (Nat.not_lt_zero i),List.nodup_nil⟩,rfl,trivial,[],Nat.zero_le _,rfl,rfl,rfl⟩
  have hok:autOk a=true:=by (simp at _hb;subst _hb;assumption)
  obtain ⟨_,hn1,hn2,hac⟩:=autOk_head hok
  have hla:(letters a.al).length≤6:=lettersTo_len a.al 6
  refine AWp.skip ?_
  (repeat first|refine sN rfl ?_|((first|refine sA rfl ?_ ?_|refine s4 rfl ‹_› rfl ?_ ?_);first|exact tI|omega|simp only[oZ] at *;omega)|refine s2 rfl fun _ _hb=>?_|refine s3 rfl ?_ ?_<;>rintro rfl|refine aU rfl ?_|refine lexE ?_)
  (refine pW rfl ?_ rfl (by rfl);refine n_call [] rfl rfl (FormatAlphabet_ok (TB:=TB) a.al) ⟨rfl,by decide,by decide⟩ rfl trivial ?_;rintro x0 σ1 nx1 ⟨w0,hw0,rfl,rfl,rfl⟩ _)
  (repeat first|refine sN rfl ?_|((first|refine sA rfl ?_ ?_|refine s4 rfl ‹_› rfl ?_ ?_);first|exact tI|omega|simp only[oZ] at *;omega)|refine s2 rfl fun _ _hb=>?_|refine s3 rfl ?_ ?_<;>rintro rfl|refine aU rfl ?_|refine lexE ?_)
  refine aB ?_
  refine AWp.loopV (α:={z:Nat×W // z.1≤a.nx.length∧z.2.length≤6+30*z.1}) [1] [] rfl rfl (fun s=>[(3,eT s.1.2),(4,eI .i64 s.1.1)]) (fun s=>[]) 0 (fun s=>a.nx.length - s.1.1) (⟨⟨0,w0⟩,by simp;omega⟩) (List.range 0) (rg hΓ rfl) (by (repeat' first|exact tI|rfl|refine And.intro ?_ ?_)<;>(simp[cX,zC,hΓ]<;>rfl)) ?_;rintro ⟨⟨k,w⟩,hk,hw⟩;(try dsimp only[List.cons_append,List.nil_append])
  have hk:k≤a.nx.length:=hk
  have hw:w.length≤6+30*k:=hw
  (repeat first|refine sN rfl ?_|((first|refine sA rfl ?_ ?_|refine s4 rfl ‹_› rfl ?_ ?_);first|exact tI|omega|simp only[oZ] at *;omega)|refine s2 rfl fun _ _hb=>?_|refine s3 rfl ?_ ?_<;>rintro rfl|refine aU rfl ?_|refine lexE ?_)
  ((refine aC rfl ?_ ?_<;>rintro ⟨⟩);all_goals try (simp at _hb;done))
  · have hlt:k < a.nx.length:=by first|omega|simp only[oZ] at *;omega
    obtain ⟨row,hrow,hrl,hrv⟩:=autOk_row hok hlt
    have hrow':=get_map (g:=fun r:List Int=>[iList r]) hrow
    obtain ⟨b,hb⟩:=get_some (l:=a.ac) (k:=k) (by omega)
    have hb':=get_map (g:=bRow) hb
    refine AWp.skip ?_
    refine AWp.seq (AWp.block ?_)
    (repeat first|refine sN rfl ?_|((first|refine sA rfl ?_ ?_|refine s4 rfl ‹_› rfl ?_ ?_);first|exact tI|omega|simp only[oZ] at *;omega)|refine s2 rfl fun _ _hb=>?_|refine s3 rfl ?_ ?_<;>rintro rfl|refine aU rfl ?_|refine lexE ?_)
    (refine aC rfl ?_ ?_<;>rintro ⟨⟩)
    · (repeat first|refine sN rfl ?_|((first|refine sA rfl ?_ ?_|refine s4 rfl ‹_› rfl ?_ ?_);first|exact tI|omega|simp only[oZ] at *;omega)|refine s2 rfl fun _ _hb=>?_|refine s3 rfl ?_ ?_<;>rintro rfl|refine aU rfl ?_|refine lexE ?_)
      refine aB ?_
      refine AWp.loopV (α:={z:Nat×W // z.1≤row.length∧z.2.length≤8+30*k+4*z.1}) [1,4] [] rfl rfl (fun s=>[(3,eT s.1.2),(6,eI .i64 s.1.1)]) (fun s=>[]) 0 (fun s=>row.length - s.1.1) (⟨⟨0,w++[32,43]⟩,by dsimp only;omega,by simp;omega⟩) (List.range 0) (rg hΓ rfl) (by (repeat' first|exact tI|rfl|refine And.intro ?_ ?_)<;>(simp[cX,zC,hΓ]<;>rfl)) ?_;rintro ⟨⟨j,v⟩,hj,hv⟩;(try dsimp only[List.cons_append,List.nil_append])
      have hj:j≤row.length:=hj
      have hv:v.length≤8+30*k+4*j:=hv
      (repeat first|refine sN rfl ?_|((first|refine sA rfl ?_ ?_|refine s4 rfl ‹_› rfl ?_ ?_);first|exact tI|omega|simp only[oZ] at *;omega)|refine s2 rfl fun _ _hb=>?_|refine s3 rfl ?_ ?_<;>rintro rfl|refine aU rfl ?_|refine lexE ?_)
      ((refine aC rfl ?_ ?_<;>rintro ⟨⟩);all_goals try (simp at _hb;done))
      · have hjl:j < row.length:=by first|omega|simp only[oZ] at *;omega
        obtain ⟨x,hx⟩:=get_some (l:=row) (k:=j) hjl
        have hx':=get_map (g:=iRow) hx
        have hxv:=hrv j x hx
        have hdec:=l19Dec_ok (TB:=TB) x (by omega)
        refine AWp.skip ?_
        refine AWp.seq (AWp.block ?_)
        (repeat first|refine sN rfl ?_|((first|refine sA rfl ?_ ?_|refine s4 rfl ‹_› rfl ?_ ?_);first|exact tI|omega|simp only[oZ] at *;omega)|refine s2 rfl fun _ _hb=>?_|refine s3 rfl ?_ ?_<;>rintro rfl|refine aU rfl ?_|refine lexE ?_)
        (refine aC rfl ?_ ?_<;>rintro ⟨⟩)
        · (repeat first|refine sN rfl ?_|((first|refine sA rfl ?_ ?_|refine s4 rfl ‹_› rfl ?_ ?_);first|exact tI|omega|simp only[oZ] at *;omega)|refine s2 rfl fun _ _hb=>?_|refine s3 rfl ?_ ?_<;>rintro rfl|refine aU rfl ?_|refine lexE ?_)
          (refine pW rfl ?_ rfl (by rfl);refine n_call [] rfl rfl (hdec) ⟨rfl,by decide,by decide⟩ rfl trivial ?_;rintro x0 σ1 nx1 ⟨d,hd,rfl,rfl,rfl⟩ _)
          (repeat first|refine sN rfl ?_|((first|refine sA rfl ?_ ?_|refine s4 rfl ‹_› rfl ?_ ?_);first|exact tI|omega|simp only[oZ] at *;omega)|refine s2 rfl fun _ _hb=>?_|refine s3 rfl ?_ ?_<;>rintro rfl|refine aU rfl ?_|refine lexE ?_)
          refine ⟨⟨⟨j+1,v++[44]++d⟩,by dsimp only;omega,by simp;omega⟩,by dsimp only;(first|omega|simp only[oZ] at *;omega),[],?_⟩
          (simp[cX,zC,hΓ,cN]<;>rfl)
        · refine AWp.skip ?_
          (repeat first|refine sN rfl ?_|((first|refine sA rfl ?_ ?_|refine s4 rfl ‹_› rfl ?_ ?_);first|exact tI|omega|simp only[oZ] at *;omega)|refine s2 rfl fun _ _hb=>?_|refine s3 rfl ?_ ?_<;>rintro rfl|refine aU rfl ?_|refine lexE ?_)
          (refine pW rfl ?_ rfl (by rfl);refine n_call [] rfl rfl (hdec) ⟨rfl,by decide,by decide⟩ rfl trivial ?_;rintro x0 σ1 nx1 ⟨d,hd,rfl,rfl,rfl⟩ _)
          (repeat first|refine sN rfl ?_|((first|refine sA rfl ?_ ?_|refine s4 rfl ‹_› rfl ?_ ?_);first|exact tI|omega|simp only[oZ] at *;omega)|refine s2 rfl fun _ _hb=>?_|refine s3 rfl ?_ ?_<;>rintro rfl|refine aU rfl ?_|refine lexE ?_)
          refine ⟨⟨⟨j+1,v++d⟩,by dsimp only;omega,by simp;omega⟩,by dsimp only;(first|omega|simp only[oZ] at *;omega),[],?_⟩
          (simp[cX,zC,hΓ,cN]<;>rfl)
      · refine AWp.exit ?_
        (repeat first|refine sN rfl ?_|((first|refine sA rfl ?_ ?_|refine s4 rfl ‹_› rfl ?_ ?_);first|exact tI|omega|simp only[oZ] at *;omega)|refine s2 rfl fun _ _hb=>?_|refine s3 rfl ?_ ?_<;>rintro rfl|refine aU rfl ?_|refine lexE ?_)
        refine ⟨⟨⟨k+1,v⟩,by dsimp only;omega,by dsimp only;omega⟩,by dsimp only;(first|omega|simp only[oZ] at *;omega),[],?_⟩
        (simp[cX,zC,hΓ,cN]<;>rfl)
    · refine AWp.skip ?_
      (repeat first|refine sN rfl ?_|((first|refine sA rfl ?_ ?_|refine s4 rfl ‹_› rfl ?_ ?_);first|exact tI|omega|simp only[oZ] at *;omega)|refine s2 rfl fun _ _hb=>?_|refine s3 rfl ?_ ?_<;>rintro rfl|refine aU rfl ?_|refine lexE ?_)
      refine aB ?_
      refine AWp.loopV (α:={z:Nat×W // z.1≤row.length∧z.2.length≤8+30*k+4*z.1}) [1,4] [] rfl rfl (fun s=>[(3,eT s.1.2),(6,eI .i64 s.1.1)]) (fun s=>[]) 0 (fun s=>row.length - s.1.1) (⟨⟨0,w++[32,45]⟩,by dsimp only;omega,by simp;omega⟩) (List.range 0) (rg hΓ rfl) (by (repeat' first|exact tI|rfl|refine And.intro ?_ ?_)<;>(simp[cX,zC,hΓ]<;>rfl)) ?_;rintro ⟨⟨j,v⟩,hj,hv⟩;(try dsimp only[List.cons_append,List.nil_append])
      have hj:j≤row.length:=hj
      have hv:v.length≤8+30*k+4*j:=hv
      (repeat first|refine sN rfl ?_|((first|refine sA rfl ?_ ?_|refine s4 rfl ‹_› rfl ?_ ?_);first|exact tI|omega|simp only[oZ] at *;omega)|refine s2 rfl fun _ _hb=>?_|refine s3 rfl ?_ ?_<;>rintro rfl|refine aU rfl ?_|refine lexE ?_)
      ((refine aC rfl ?_ ?_<;>rintro ⟨⟩);all_goals try (simp at _hb;done))
      · have hjl:j < row.length:=by first|omega|simp only[oZ] at *;omega
        obtain ⟨x,hx⟩:=get_some (l:=row) (k:=j) hjl
        have hx':=get_map (g:=iRow) hx
        have hxv:=hrv j x hx
        have hdec:=l19Dec_ok (TB:=TB) x (by omega)
        refine AWp.skip ?_
        refine AWp.seq (AWp.block ?_)
        (repeat first|refine sN rfl ?_|((first|refine sA rfl ?_ ?_|refine s4 rfl ‹_› rfl ?_ ?_);first|exact tI|omega|simp only[oZ] at *;omega)|refine s2 rfl fun _ _hb=>?_|refine s3 rfl ?_ ?_<;>rintro rfl|refine aU rfl ?_|refine lexE ?_)
        (refine aC rfl ?_ ?_<;>rintro ⟨⟩)
        · (repeat first|refine sN rfl ?_|((first|refine sA rfl ?_ ?_|refine s4 rfl ‹_› rfl ?_ ?_);first|exact tI|omega|simp only[oZ] at *;omega)|refine s2 rfl fun _ _hb=>?_|refine s3 rfl ?_ ?_<;>rintro rfl|refine aU rfl ?_|refine lexE ?_)
          (refine pW rfl ?_ rfl (by rfl);refine n_call [] rfl rfl (hdec) ⟨rfl,by decide,by decide⟩ rfl trivial ?_;rintro x0 σ1 nx1 ⟨d,hd,rfl,rfl,rfl⟩ _)
          (repeat first|refine sN rfl ?_|((first|refine sA rfl ?_ ?_|refine s4 rfl ‹_› rfl ?_ ?_);first|exact tI|omega|simp only[oZ] at *;omega)|refine s2 rfl fun _ _hb=>?_|refine s3 rfl ?_ ?_<;>rintro rfl|refine aU rfl ?_|refine lexE ?_)
          refine ⟨⟨⟨j+1,v++[44]++d⟩,by dsimp only;omega,by simp;omega⟩,by dsimp only;(first|omega|simp only[oZ] at *;omega),[],?_⟩
          (simp[cX,zC,hΓ,cN]<;>rfl)
        · refine AWp.skip ?_
          (repeat first|refine sN rfl ?_|((first|refine sA rfl ?_ ?_|refine s4 rfl ‹_› rfl ?_ ?_);first|exact tI|omega|simp only[oZ] at *;omega)|refine s2 rfl fun _ _hb=>?_|refine s3 rfl ?_ ?_<;>rintro rfl|refine aU rfl ?_|refine lexE ?_)
          (refine pW rfl ?_ rfl (by rfl);refine n_call [] rfl rfl (hdec) ⟨rfl,by decide,by decide⟩ rfl trivial ?_;rintro x0 σ1 nx1 ⟨d,hd,rfl,rfl,rfl⟩ _)
          (repeat first|refine sN rfl ?_|((first|refine sA rfl ?_ ?_|refine s4 rfl ‹_› rfl ?_ ?_);first|exact tI|omega|simp only[oZ] at *;omega)|refine s2 rfl fun _ _hb=>?_|refine s3 rfl ?_ ?_<;>rintro rfl|refine aU rfl ?_|refine lexE ?_)
          refine ⟨⟨⟨j+1,v++d⟩,by dsimp only;omega,by simp;omega⟩,by dsimp only;(first|omega|simp only[oZ] at *;omega),[],?_⟩
          (simp[cX,zC,hΓ,cN]<;>rfl)
      · refine AWp.exit ?_
        (repeat first|refine sN rfl ?_|((first|refine sA rfl ?_ ?_|refine s4 rfl ‹_› rfl ?_ ?_);first|exact tI|omega|simp only[oZ] at *;omega)|refine s2 rfl fun _ _hb=>?_|refine s3 rfl ?_ ?_<;>rintro rfl|refine aU rfl ?_|refine lexE ?_)
        refine ⟨⟨⟨k+1,v⟩,by dsimp only;omega,by dsimp only;omega⟩,by dsimp only;(first|omega|simp only[oZ] at *;omega),[],?_⟩
        (simp[cX,zC,hΓ,cN]<;>rfl)
  · refine AWp.exit ?_
    (repeat first|refine sN rfl ?_|((first|refine sA rfl ?_ ?_|refine s4 rfl ‹_› rfl ?_ ?_);first|exact tI|omega|simp only[oZ] at *;omega)|refine s2 rfl fun _ _hb=>?_|refine s3 rfl ?_ ?_<;>rintro rfl|refine aU rfl ?_|refine lexE ?_)
    exact AWp.ret ⟨_,rfl,[],eT w,[],⟨fun i hi=>absurd hi (Nat.not_lt_zero i),List.nodup_nil⟩,rfl,trivial,w,by show w.length≤_;omega,rfl,rfl,rfl⟩
abbrev eAB (r:Aut×Bool):E:=.t [(true,[.d (iD r.1.al),.d (iiList r.1.nx),.d (bList r.1.ac)]),(false,[.d (bD r.2)])]
def rowsS (n:Int):List (List Int)→List Bool→Store
  | [],_=>[(1,.cells 26 3 [[.d (iD n),.d (.v (.slice none 0 0)),.d (.v (.slice none 0 0))]])]
  | r::l,ac=>[(1,.cells 26 3 [[.d (iD n),.arr 2 1 0 (l.length+1),.arr 3 1 0 ac.length]]),(2,.cells 93 1 ((r::l).map iiRowC)),(3,.cells 4 1 (ac.map bRowC))]
theorem ParseAutomaton_ok (w0:W) (hs:w0.length≤10000):Spec Tryz.prog TB 135 [] 0 [eT w0] (AnyPost (fun r:Aut×Bool=>ABd (w0.length+1) r.1) eAB):=by
  have hb0:ABd (w0.length+1) ⟨0,[],[]⟩:=⟨Nat.zero_le _,Nat.zero_le _,fun r hr=>by cases hr⟩
  refine SpecK.toSpec (SpecK.ren (SpecK.ofG (Nat.le_refl _) Tryz.func135 rfl (by kernel_rfl) (Nat.le_of_ble_eq_true rfl) ?_));intro Γ hΓ
  (repeat first|refine sN rfl ?_|((first|refine sA rfl ?_ ?_|refine s4 rfl ‹_› rfl ?_ ?_);first|exact tI|omega|simp only[oZ] at *;omega)|refine s2 rfl fun _ _hb=>?_|refine s3 rfl ?_ ?_<;>rintro rfl|refine aU rfl ?_|refine lexE ?_)
  (refine pW rfl ?_ rfl (by rfl);refine n_call [] rfl rfl (l19Cut_ok (TB:=TB) w0 (by omega) 32) ⟨rfl,by decide,by decide⟩ rfl trivial ?_;rintro x0 σ1 nx1 ⟨ps,⟨hp1,hp2,hp3⟩,rfl,rfl,rfl⟩ _)
  obtain ⟨p0,h0⟩:=get_some (l:=ps) (k:=(0:Int).toNat) (by simp;omega)
  have h0':=get_map (g:=tRow) h0
  (repeat first|refine sN rfl ?_|((first|refine sA rfl ?_ ?_|refine s4 rfl ‹_› rfl ?_ ?_);first|exact tI|omega|simp only[oZ] at *;omega)|refine s2 rfl fun _ _hb=>?_|refine s3 rfl ?_ ?_<;>rintro rfl|refine aU rfl ?_|refine lexE ?_)
  (refine pW rfl ?_ rfl (by rfl);refine n_call [] rfl rfl (ParseAlphabet_ok (TB:=TB) p0) ⟨rfl,by decide,by decide⟩ rfl trivial ?_;rintro x0 σ1 nx1 ⟨⟨n,ok⟩,_,rfl,rfl,rfl⟩ _)
  (repeat first|refine sN rfl ?_|((first|refine sA rfl ?_ ?_|refine s4 rfl ‹_› rfl ?_ ?_);first|exact tI|omega|simp only[oZ] at *;omega)|refine s2 rfl fun _ _hb=>?_|refine s3 rfl ?_ ?_<;>rintro rfl|refine aU rfl ?_|refine lexE ?_)
  (refine aC rfl ?_ ?_<;>rintro ⟨⟩)
  · (repeat first|refine sN rfl ?_|((first|refine sA rfl ?_ ?_|refine s4 rfl ‹_› rfl ?_ ?_);first|exact tI|omega|simp only[oZ] at *;omega)|refine s2 rfl fun _ _hb=>?_|(refine popO rfl ?_;refine gA rfl ?_;first|refine gS (fun _ _=>q_build rfl rfl (by rfl) (by rfl)) ?_)|refine s3 rfl ?_ ?_<;>rintro rfl|refine aU rfl ?_|refine lexE ?_)
    exact AWp.ret ⟨_,rfl,[],eAB (⟨0,[],[]⟩,false),[],⟨fun i hi=>absurd hi (Nat.not_lt_zero i),List.nodup_nil⟩,rfl,trivial,(⟨0,[],[]⟩,false),hb0,rfl,rfl,rfl⟩
  refine AWp.skip ?_
  by_cases hp9:ps.length=1
  · (repeat first|refine sN rfl ?_|((first|refine sA rfl ?_ ?_|refine s4 rfl ‹_› rfl ?_ ?_);first|exact tI|omega|simp only[oZ] at *;omega)|refine s2 rfl fun _ _hb=>?_|(refine popO rfl ?_;refine gA rfl ?_;first|refine gS (fun _ _=>q_build rfl rfl (by rfl) (by rfl)) ?_)|refine s3 rfl ?_ ?_<;>rintro rfl|refine aU rfl ?_|refine lexE ?_)
    refine aB ?_
    refine AWp.loopV (α:={k:Nat // k=1}) [0,3] [] rfl rfl (fun s=>[(2,.o (.ptr 0 3 0 0)),(4,eTexts ps),(7,.o (.ptr 1 3 0 0)),(8,eI .i64 s.1)]) (fun s=>[(0,.cells 26 3 [[.d (iD 0),.d (.l []),.d (.l [])]]),(1,.cells 26 3 [[.d (iD n),.d (.l []),.d (.l [])]])]) 2 (fun s=>0) (⟨1,rfl⟩) (List.range 2) (rg hΓ rfl) (by (repeat' first|exact tI|rfl|refine And.intro ?_ ?_)<;>(simp[cX,zC,hΓ,cN]<;>rfl)) ?_;rintro ⟨k,hk⟩;(try dsimp only[List.cons_append,List.nil_append])
    (repeat first|refine sN rfl ?_|((first|refine sA rfl ?_ ?_|refine s4 rfl ‹_› rfl ?_ ?_);first|exact tI|omega|simp only[oZ] at *;omega)|refine s2 rfl fun _ _hb=>?_|refine s3 rfl ?_ ?_<;>rintro rfl|refine aU rfl ?_|refine lexE ?_)
    ((refine aC rfl ?_ ?_<;>rintro ⟨⟩);all_goals try (simp at _hb;done))
    · exfalso;first|omega|simp only[oZ] at *;omega
    refine AWp.exit ?_
    (repeat first|refine sN rfl ?_|((first|refine sA rfl ?_ ?_|refine s4 rfl ‹_› rfl ?_ ?_);first|exact tI|omega|simp only[oZ] at *;omega)|refine s2 rfl fun _ _hb=>?_|refine s3 rfl ?_ ?_<;>rintro rfl|refine aU rfl ?_|refine lexE ?_)
    (refine pW rfl ?_ rfl (by rfl);refine n_call [] rfl rfl (FormatAutomaton_ok (TB:=TB) ⟨n,[],[]⟩) ⟨rfl,by decide,by decide⟩ rfl trivial ?_;rintro x0 σ1 nx1 ⟨w9,hw9,rfl,rfl,rfl⟩ _)
    (repeat first|refine sN rfl ?_|((first|refine sA rfl ?_ ?_|refine s4 rfl ‹_› rfl ?_ ?_);first|exact tI|omega|simp only[oZ] at *;omega)|refine s2 rfl fun _ _hb=>?_|refine s3 rfl ?_ ?_<;>rintro rfl|refine aU rfl ?_|refine lexE ?_)
    (refine aC rfl ?_ ?_<;>rintro ⟨⟩)
    · (repeat first|refine sN rfl ?_|((first|refine sA rfl ?_ ?_|refine s4 rfl ‹_› rfl ?_ ?_);first|exact tI|omega|simp only[oZ] at *;omega)|refine s2 rfl fun _ _hb=>?_|(refine popO rfl ?_;refine gA rfl ?_;first|refine gS (fun _ _=>q_build rfl rfl (by rfl) (by rfl)) ?_)|refine s3 rfl ?_ ?_<;>rintro rfl|refine aU rfl ?_|refine lexE ?_)
      exact AWp.ret ⟨_,rfl,[],eAB (⟨0,[],[]⟩,false),[],⟨fun i hi=>absurd hi (Nat.not_lt_zero i),List.nodup_nil⟩,rfl,trivial,(⟨0,[],[]⟩,false),hb0,rfl,rfl,rfl⟩
    refine AWp.skip ?_
    (repeat first|refine sN rfl ?_|((first|refine sA rfl ?_ ?_|refine s4 rfl ‹_› rfl ?_ ?_);first|exact tI|omega|simp only[oZ] at *;omega)|refine s2 rfl fun _ _hb=>?_|refine s3 rfl ?_ ?_<;>rintro rfl|refine aU rfl ?_|refine lexE ?_)
    exact AWp.ret ⟨_,rfl,[],eAB (⟨n,[],[]⟩,true),[],⟨fun i hi=>absurd hi (Nat.not_lt_zero i),List.nodup_nil⟩,rfl,trivial,(⟨n,[],[]⟩,true),⟨Nat.zero_le _,Nat.zero_le _,fun r hr=>by cases hr⟩,rfl,rfl,rfl⟩
  (repeat first|refine sN rfl ?_|((first|refine sA rfl ?_ ?_|refine s4 rfl ‹_› rfl ?_ ?_);first|exact tI|omega|simp only[oZ] at *;omega)|refine s2 rfl fun _ _hb=>?_|(refine popO rfl ?_;refine gA rfl ?_;first|refine gS (fun _ _=>q_buildV rfl rfl (by rfl) (by rfl)) ?_)|refine s3 rfl ?_ ?_<;>rintro rfl|refine aU rfl ?_|refine lexE ?_)
  refine aB ?_
  refine AWp.loopV (α:={z:Nat×List (List Int)×List Bool // (1≤z.1∧z.1≤ps.length)∧z.2.1.length+1=z.1∧z.2.2.length+1=z.1∧∀r∈z.2.1,r.length≤w0.length+1}) [0,3] [] rfl rfl (fun s=>[(2,.o (.ptr 0 3 0 0)),(4,eTexts ps),(7,.o (.ptr 1 3 0 0)),(8,eI .i64 s.1.1)]) (fun s=>((0,.cells 26 3 [[.d (iD 0),.d (.l []),.d (.l [])]])::rowsS n s.1.2.1 s.1.2.2)) 4 (fun s=>ps.length - s.1.1) (⟨⟨1,[],[]⟩,by simp;omega⟩) (List.range 4) (rg hΓ rfl) (by (repeat' first|exact tI|rfl|refine And.intro ?_ ?_)<;>(simp[cX,zC,hΓ,rowsS,cN]<;>rfl)) ?_;rintro ⟨⟨k,l,ac⟩,hk,hl,hac,hr⟩;(try dsimp only[List.cons_append,List.nil_append])
  have hk:1≤k∧k≤ps.length:=hk
  have hl:l.length+1=k:=hl
  have hac:ac.length+1=k:=hac
  (repeat first|refine sN rfl ?_|((first|refine sA rfl ?_ ?_|refine s4 rfl ‹_› rfl ?_ ?_);first|exact tI|omega|simp only[oZ] at *;omega)|refine s2 rfl fun _ _hb=>?_|refine s3 rfl ?_ ?_<;>rintro rfl|refine aU rfl ?_|refine lexE ?_)
  ((refine aC rfl ?_ ?_<;>rintro ⟨⟩);all_goals try (simp at _hb;done))
  · have hlt:k < ps.length:=by first|omega|simp only[oZ] at *;omega
    obtain ⟨w,hw⟩:=get_some (l:=ps) (k:=k) hlt
    have hw':=get_map (g:=tRow) hw
    have hwl:=hp3 w (List.mem_of_getElem? hw)
    refine AWp.skip ?_
    refine AWp.seq (AWp.block ?_)
    (repeat first|refine sN rfl ?_|((first|refine sA rfl ?_ ?_|refine s4 rfl ‹_› rfl ?_ ?_);first|exact tI|omega|simp only[oZ] at *;omega)|refine s2 rfl fun _ _hb=>?_|refine s3 rfl ?_ ?_<;>rintro rfl|refine aU rfl ?_|refine lexE ?_)
    (refine aC rfl ?_ ?_<;>rintro ⟨⟩)
    · (repeat first|refine sN rfl ?_|((first|refine sA rfl ?_ ?_|refine s4 rfl ‹_› rfl ?_ ?_);first|exact tI|omega|simp only[oZ] at *;omega)|refine s2 rfl fun _ _hb=>?_|(refine popO rfl ?_;refine gA rfl ?_;first|refine gS (fun _ _=>q_build rfl rfl (by rfl) (by rfl)) ?_)|refine s3 rfl ?_ ?_<;>rintro rfl|refine aU rfl ?_|refine lexE ?_)
      exact AWp.ret ⟨_,rfl,[],eAB (⟨0,[],[]⟩,false),[],⟨fun i hi=>absurd hi (Nat.not_lt_zero i),List.nodup_nil⟩,rfl,trivial,(⟨0,[],[]⟩,false),hb0,rfl,rfl,rfl⟩
    have hwp:0 < w.length:=by (simp at _hb;exact List.length_pos_iff.2 _hb)
    obtain ⟨e,he⟩:=get_some (l:=w) (k:=(0:Int).toNat) (by simp;omega)
    refine AWp.skip ?_
    (repeat first|refine sN rfl ?_|((first|refine sA rfl ?_ ?_|refine s4 rfl ‹_› rfl ?_ ?_);first|exact tI|omega|simp only[oZ] at *;omega)|refine s2 rfl fun _ _hb=>?_|(refine popO rfl ?_;refine gA rfl ?_;first|refine gS (fun _ _=>q_dropT rfl rfl (by omega) (by omega)) ?_)|refine s3 rfl ?_ ?_<;>rintro rfl|refine aU rfl ?_|refine lexE ?_)
    (refine pW rfl ?_ rfl (by rfl);refine n_call [] rfl rfl (l3Parse_ok (TB:=TB) (w.drop (Int.toNat 1)) (by simp;omega)) ⟨rfl,by decide,by decide⟩ rfl trivial ?_;rintro x0 σ1 nx1 ⟨⟨r,ok2⟩,hrl,rfl,rfl,rfl⟩ _)
    have hrl:r.length≤w0.length+1:=Nat.le_trans hrl (by simp;omega)
    (repeat first|refine sN rfl ?_|((first|refine sA rfl ?_ ?_|refine s4 rfl ‹_› rfl ?_ ?_);first|exact tI|omega|simp only[oZ] at *;omega)|refine s2 rfl fun _ _hb=>?_|refine s3 rfl ?_ ?_<;>rintro rfl|refine aU rfl ?_|refine lexE ?_)
    (refine aC rfl ?_ ?_<;>rintro ⟨⟩)
    · (repeat first|refine sN rfl ?_|((first|refine sA rfl ?_ ?_|refine s4 rfl ‹_› rfl ?_ ?_);first|exact tI|omega|simp only[oZ] at *;omega)|refine s2 rfl fun _ _hb=>?_|(refine popO rfl ?_;refine gA rfl ?_;first|refine gS (fun _ _=>q_build rfl rfl (by rfl) (by rfl)) ?_)|refine s3 rfl ?_ ?_<;>rintro rfl|refine aU rfl ?_|refine lexE ?_)
      exact AWp.ret ⟨_,rfl,[],eAB (⟨0,[],[]⟩,false),[],⟨fun i hi=>absurd hi (Nat.not_lt_zero i),List.nodup_nil⟩,rfl,trivial,(⟨0,[],[]⟩,false),hb0,rfl,rfl,rfl⟩
    refine AWp.skip ?_
    have hr2:∀x∈l++[r],x.length≤w0.length+1:=fun x hx=>by
      rcases List.mem_append.1 hx with hx|hx
      · exact hr x hx
      · simp at hx;subst hx;exact hrl
    cases l with
    | nil=>
      obtain rfl:ac=[]:=List.length_eq_zero_iff.1 (by simp at hl;omega)
      (repeat first|refine sN rfl ?_|((first|refine sA rfl ?_ ?_|refine s4 rfl ‹_› rfl ?_ ?_);first|exact tI|omega|simp only[oZ] at *;omega)|refine s2 rfl fun _ _hb=>?_|refine s3 rfl ?_ ?_<;>rintro rfl|refine aU rfl ?_|refine lexE ?_)
      (refine pW rfl ?_ rfl (by rfl);refine n_asE 50 rfl ?_;refine n_appendE rfl rfl rfl (by intro r hr;simp at hr;subst hr;rfl) (by rfl) (Nat.le_of_ble_eq_true rfl) (by simp) (fun h=>?_) (fun _=>?_))
      · exact absurd h (by simp)
      (repeat first|refine sN rfl ?_|((first|refine sA rfl ?_ ?_|refine s4 rfl ‹_› rfl ?_ ?_);first|exact tI|omega|simp only[oZ] at *;omega)|refine s2 rfl fun _ _hb=>?_|refine s3 rfl ?_ ?_<;>rintro rfl)
      refine lexE ?_
      refine rG (flN [9,11]) (by kernel_rfl) ?_
      (repeat first|refine sN rfl ?_|((first|refine sA rfl ?_ ?_|refine s4 rfl ‹_› rfl ?_ ?_);first|exact tI|omega|simp only[oZ] at *;omega)|refine s2 rfl fun _ _hb=>?_|refine s3 rfl ?_ ?_<;>rintro rfl|refine aU rfl ?_|refine lexE ?_)
      (refine pW rfl ?_ rfl (by rfl);refine n_asE 56 rfl ?_;refine n_appendE rfl rfl rfl (by intro r hr;simp at hr;subst hr;rfl) (by rfl) (Nat.le_of_ble_eq_true rfl) (by simp) (fun h=>?_) (fun _=>?_))
      · exact absurd h (by simp)
      (repeat first|refine sN rfl ?_|((first|refine sA rfl ?_ ?_|refine s4 rfl ‹_› rfl ?_ ?_);first|exact tI|omega|simp only[oZ] at *;omega)|refine s2 rfl fun _ _hb=>?_|refine s3 rfl ?_ ?_<;>rintro rfl|refine aU rfl ?_|refine lexE ?_)
      subst _hb
      refine ⟨⟨⟨k+1,[r],[decide ((e.toNat:Int)=43)]⟩,⟨by dsimp only;omega,by dsimp only;omega⟩,by simp at hl;simp;omega,by simp at hl;simp;omega,hr2⟩,by dsimp only;(first|omega|simp only[oZ] at *;omega),[0,1,4,5],?_⟩
      (simp[cX,zC,hΓ,cN,rowsS,spliceC,eC]<;>rfl)
    | cons r0 l=>
      (repeat first|refine sN rfl ?_|((first|refine sA rfl ?_ ?_|refine s4 rfl ‹_› rfl ?_ ?_);first|exact tI|omega|simp only[oZ] at *;omega)|refine s2 rfl fun _ _hb=>?_|refine s3 rfl ?_ ?_<;>rintro rfl|refine aU rfl ?_|refine lexE ?_)
      (refine pW rfl ?_ rfl (by rfl);refine n_append rfl rfl rfl (by first|(simp;done)|(simp;(first|omega|simp only[oZ] at *;omega))) rfl (by intro r hr;simp at hr;subst hr;rfl) (by rfl) (Nat.le_of_ble_eq_true rfl) (by simp at hl ⊢;omega) ?_)
      (repeat first|refine sN rfl ?_|((first|refine sA rfl ?_ ?_|refine s4 rfl ‹_› rfl ?_ ?_);first|exact tI|omega|simp only[oZ] at *;omega)|refine s2 rfl fun _ _hb=>?_|refine s3 rfl ?_ ?_<;>rintro rfl)
      refine lexE ?_
      refine AWp.namesV [0,3,8] [] rfl rfl [(2,.o (.ptr 0 3 0 0)),(4,eTexts ps),(7,.o (.ptr 1 3 0 0))] [(0,.cells 26 3 [[.d (iD 0),.d (.l []),.d (.l [])]]),(1,.cells 26 3 [[.d (iD n),.arr 2 1 0 (l.length+1+1),.arr 3 1 0 ac.length]]),(2,.cells 93 1 ((r0::(l++[r])).map iiRowC)),(3,.cells 4 1 (ac.map bRowC))] [0,1,4,3] (rl hΓ rfl) (by (repeat' first|exact tI|rfl|refine And.intro ?_ ?_)<;>(simp[cX,zC,hΓ,cN,rowsS,spliceC,eC]<;>rfl)) ?_;(try dsimp only[List.cons_append,List.nil_append])
      refine rG (flN [9,11]) (by kernel_rfl) ?_
      (repeat first|refine sN rfl ?_|((first|refine sA rfl ?_ ?_|refine s4 rfl ‹_› rfl ?_ ?_);first|exact tI|omega|simp only[oZ] at *;omega)|refine s2 rfl fun _ _hb=>?_|refine s3 rfl ?_ ?_<;>rintro rfl|refine aU rfl ?_|refine lexE ?_)
      (refine pW rfl ?_ rfl (by rfl);refine n_append rfl rfl rfl (by first|(simp;done)|(simp;(first|omega|simp only[oZ] at *;omega))) rfl (by intro r hr;simp at hr;subst hr;rfl) (by rfl) (Nat.le_of_ble_eq_true rfl) (by simp at hl ⊢;omega) ?_)
      (repeat first|refine sN rfl ?_|((first|refine sA rfl ?_ ?_|refine s4 rfl ‹_› rfl ?_ ?_);first|exact tI|omega|simp only[oZ] at *;omega)|refine s2 rfl fun _ _hb=>?_|refine s3 rfl ?_ ?_<;>rintro rfl|refine aU rfl ?_|refine lexE ?_)
      subst _hb
      refine ⟨⟨⟨k+1,r0::(l++[r]),ac++[decide ((e.toNat:Int)=43)]⟩,⟨by dsimp only;omega,by dsimp only;omega⟩,by simp at hl ⊢;omega,by simp;omega,hr2⟩,by dsimp only;(first|omega|simp only[oZ] at *;omega),[0,1,2,4],?_⟩
      (simp[cX,zC,hΓ,cN,rowsS,spliceC,eC]<;>rfl)
  refine AWp.exit ?_
  have hkn:k=ps.length:=by first|omega|simp only[oZ] at *;omega
  cases l with
  | nil=>exfalso;simp at hl;omega
  | cons r0 l=>
    refine AWp.freezeZ [1,2,3] [(0,eT w0),(2,.o (.ptr 0 3 0 0)),(3,eB false),(7,.o (.ip (auRow ⟨n,r0::l,ac⟩)))] ⟨⟨_,rfl,.inl rfl⟩,⟨_,rfl,.inl rfl⟩,⟨_,rfl,.inl rfl⟩,⟨_,rfl,.inr (.o (.box rfl (.cons .d (.cons (.full rfl (by simp [Function.comp_def]) (by simp)) (.cons (.full rfl (by simp [Function.comp_def]) (by simp)) .nil)))))⟩,trivial⟩ ?_
    (repeat first|refine sN rfl ?_|((first|refine sA rfl ?_ ?_|refine s4 rfl ‹_› rfl ?_ ?_);first|exact tI|omega|simp only[oZ] at *;omega)|refine s2 rfl fun _ _hb=>?_|refine s3 rfl ?_ ?_<;>rintro rfl|refine aU rfl ?_|refine lexE ?_)
    (refine pW rfl ?_ rfl (by rfl);refine n_call [] rfl rfl (FormatAutomaton_ok (TB:=TB) ⟨n,r0::l,ac⟩) ⟨rfl,by decide,by decide⟩ rfl trivial ?_;rintro x0 σ1 nx1 ⟨w9,hw9,rfl,rfl,rfl⟩ _)
    (repeat first|refine sN rfl ?_|((first|refine sA rfl ?_ ?_|refine s4 rfl ‹_› rfl ?_ ?_);first|exact tI|omega|simp only[oZ] at *;omega)|refine s2 rfl fun _ _hb=>?_|refine s3 rfl ?_ ?_<;>rintro rfl|refine aU rfl ?_|refine lexE ?_)
    (refine aC rfl ?_ ?_<;>rintro ⟨⟩)
    · (repeat first|refine sN rfl ?_|((first|refine sA rfl ?_ ?_|refine s4 rfl ‹_› rfl ?_ ?_);first|exact tI|omega|simp only[oZ] at *;omega)|refine s2 rfl fun _ _hb=>?_|(refine popO rfl ?_;refine gA rfl ?_;first|refine gS (fun _ _=>q_build rfl rfl (by rfl) (by rfl)) ?_)|refine s3 rfl ?_ ?_<;>rintro rfl|refine aU rfl ?_|refine lexE ?_)
      exact AWp.ret ⟨_,rfl,[],eAB (⟨0,[],[]⟩,false),[],⟨fun i hi=>absurd hi (Nat.not_lt_zero i),List.nodup_nil⟩,rfl,trivial,(⟨0,[],[]⟩,false),hb0,rfl,rfl,rfl⟩
    refine AWp.skip ?_
    (repeat first|refine sN rfl ?_|((first|refine sA rfl ?_ ?_|refine s4 rfl ‹_› rfl ?_ ?_);first|exact tI|omega|simp only[oZ] at *;omega)|refine s2 rfl fun _ _hb=>?_|refine s3 rfl ?_ ?_<;>rintro rfl|refine aU rfl ?_|refine lexE ?_)
    exact AWp.ret ⟨_,rfl,[],eAB (⟨n,r0::l,ac⟩,true),[],⟨fun i hi=>absurd hi (Nat.not_lt_zero i),List.nodup_nil⟩,rfl,trivial,(⟨n,r0::l,ac⟩,true),⟨by show (r0::l).length≤_;omega,by show ac.length≤_;omega,hr⟩,rfl,rfl,rfl⟩
def texts3:List W:=[[97,98,32,43,49,44,48,32,45,49,44,49],[97,98,32,43,48,44,49,32,43,50,44,49,32,45,50,44,50],[97,99,32,43,49,44,50,32,43,49,44,50,32,45,50,44,50],[98,32,43,49,32,45,49],[97,98,99,32,43,49,44,48,44,50,32,43,50,44,48,44,49,32,45,50,44,50,44,50],[45,32,43],[45,32,45],[97,32,43,49,32,45,48],[97,98,32,43,48,44,49,32,45,48,44,49],[98,99,32,43,49,44,50,32,43,50,44,48,32,45,50,44,50],[97,98,32,43,49,44,50,32,45,49,44,51,32,43,52,44,50,32,45,49,44,51,32,43,52,44,50],[97,98,99,32,43,48,44,49,44,48,32,43,48,44,49,44,50,32,45,50,44,50,44,50]]
theorem texts3_bd:∀w∈texts3,w.length≤40:=by decide
theorem l3Texts_ok:Pure Tryz.prog TB 152 [] (eTexts texts3):=by
  refine eN Tryz.func152 rfl (by kernel_rfl) rfl ?_;intro Γ hΓ
  (repeat first|refine sN rfl ?_|((first|refine sA rfl ?_ ?_|refine s4 rfl ‹_› rfl ?_ ?_);first|exact tI|omega|simp only[oZ] at *;omega)|refine s2 rfl fun _ _hb=>?_|refine s3 rfl ?_ ?_<;>rintro rfl|refine aU rfl ?_|refine lexE ?_)
  refine AWp.ret ⟨_,rfl,rfl⟩
theorem l3Draw_ok (b:List UInt8) (hb:b.length≤2000) (p:Int) (h0:0≤p∧p < 700000000):Spec Tryz.prog TB 123 [(0,rdO b p)] 1 [.o (.ptr 0 2 0 0)] (DrawPost b p 60 (fun a=>ABd 41 a)):=by
  obtain ⟨c,c1,c2,hp⟩:=pick_ok (TB:=TB) b hb p 3 (by omega)
  obtain ⟨w,hw,ho⟩:=of_ok (TB:=TB) b hb (p+1) (by omega) texts3 (by decide) (by decide)
  have hwl:=texts3_bd w hw
  have hpa:=ParseAutomaton_ok (TB:=TB) w (by omega)
  refine SpecK.toSpec (SpecK.ren (SpecK.ofG (Nat.le_refl _) Tryz.func123 rfl (by kernel_rfl) (Nat.le_of_ble_eq_true rfl) ?_));intro Γ hΓ
  (repeat first|refine sN rfl ?_|((first|refine sA rfl ?_ ?_|refine s4 rfl ‹_› rfl ?_ ?_);first|exact tI|omega|simp only[oZ] at *;omega)|refine s2 rfl fun _ _hb=>?_|refine s3 rfl ?_ ?_<;>rintro rfl|refine aU rfl ?_|refine lexE ?_)
  (refine pW rfl ?_ rfl (by rfl);refine n_call [0] rfl rfl (hp) ⟨rfl,by decide,by decide⟩ rfl (by simp[cX,zC,hΓ,cN]) ?_;rintro x0 σ1 nx1 ⟨rfl,rfl,rfl⟩ _)
  (repeat first|refine sN rfl ?_|((first|refine sA rfl ?_ ?_|refine s4 rfl ‹_› rfl ?_ ?_);first|exact tI|omega|simp only[oZ] at *;omega)|refine s2 rfl fun _ _hb=>?_|refine s3 rfl ?_ ?_<;>rintro rfl|refine aU rfl ?_|refine lexE ?_)
  (refine aC rfl ?_ ?_<;>rintro ⟨⟩)
  · (repeat first|refine sN rfl ?_|((first|refine sA rfl ?_ ?_|refine s4 rfl ‹_› rfl ?_ ?_);first|exact tI|omega|simp only[oZ] at *;omega)|refine s2 rfl fun _ _hb=>?_ |refine sP rfl (l3Texts_ok) rfl ?_|refine s3 rfl ?_ ?_<;>rintro rfl|refine aU rfl ?_|refine lexE ?_)
    (refine pW rfl ?_ rfl (by rfl);refine n_call [0] rfl rfl (ho) ⟨rfl,by decide,by decide⟩ rfl (by simp[cX,zC,hΓ,cN]) ?_;rintro x0 σ1 nx1 ⟨rfl,rfl,rfl⟩ _)
    (repeat first|refine sN rfl ?_|((first|refine sA rfl ?_ ?_|refine s4 rfl ‹_› rfl ?_ ?_);first|exact tI|omega|simp only[oZ] at *;omega)|refine s2 rfl fun _ _hb=>?_|refine s3 rfl ?_ ?_<;>rintro rfl|refine aU rfl ?_|refine lexE ?_)
    (refine pW rfl ?_ rfl (by rfl);refine n_call [] rfl rfl (hpa) ⟨rfl,by decide,by decide⟩ rfl trivial ?_;rintro x0 σ1 nx1 ⟨⟨a,ok⟩,ha,rfl,rfl,rfl⟩ _)
    have hA:ABd (w.length+1) a:=ha
    (repeat first|refine sN rfl ?_|((first|refine sA rfl ?_ ?_|refine s4 rfl ‹_› rfl ?_ ?_);first|exact tI|omega|simp only[oZ] at *;omega)|refine s2 rfl fun _ _hb=>?_|refine s3 rfl ?_ ?_<;>rintro rfl|refine aU rfl ?_|refine lexE ?_)
    (refine aC rfl ?_ ?_<;>rintro ⟨⟩)
    · (repeat first|refine sN rfl ?_|((first|refine sA rfl ?_ ?_|refine s4 rfl ‹_› rfl ?_ ?_);first|exact tI|omega|simp only[oZ] at *;omega)|refine s2 rfl fun _ _hb=>?_|refine s3 rfl ?_ ?_<;>rintro rfl|refine aU rfl ?_|refine lexE ?_)
      exact AWp.ret ⟨_,rfl,[0],eAut a,[(0,rdO b (p+1+1))],⟨by intro i hi;match i with|0=>rfl,by decide⟩,rfl,by (repeat' first|exact tI|rfl|refine And.intro ?_ ?_)<;>(simp[cX,zC,hΓ,cN]<;>rfl),p+1+1,a,by omega,⟨by have:=hA.nx;omega,by have:=hA.ac;omega,fun r hr=>by have:=hA.row r hr;omega⟩,rfl,rfl,rfl⟩
    refine AWp.skip ?_
    obtain ⟨n1,m1,k1⟩:=num_ok (TB:=TB) b hb (p+1+1) (by omega) [3,6,7,5,1,0,2] (by decide) (by decide)
    have f1:=l3Over_ok (TB:=TB) b hb (p+1+1+1) (by omega) n1
    (repeat first|refine sN rfl ?_|((first|refine sA rfl ?_ ?_|refine s4 rfl ‹_› rfl ?_ ?_);first|exact tI|omega|simp only[oZ] at *;omega)|refine s2 rfl fun _ _hb=>?_|refine s3 rfl ?_ ?_<;>rintro rfl|refine aU rfl ?_|refine lexE ?_)
    (refine pW rfl ?_ rfl (by rfl);refine n_call [0] rfl rfl (k1) ⟨rfl,by decide,by decide⟩ rfl (by simp[cX,zC,hΓ,cN]) ?_;rintro x0 σ1 nx1 ⟨rfl,rfl,rfl⟩ _)
    (repeat first|refine sN rfl ?_|((first|refine sA rfl ?_ ?_|refine s4 rfl ‹_› rfl ?_ ?_);first|exact tI|omega|simp only[oZ] at *;omega)|refine s2 rfl fun _ _hb=>?_|refine s3 rfl ?_ ?_<;>rintro rfl|refine aU rfl ?_|refine lexE ?_)
    (refine pW rfl ?_ rfl (by rfl);refine n_call [0] rfl rfl (f1) ⟨rfl,by decide,by decide⟩ rfl (by simp[cX,zC,hΓ,cN]) ?_;rintro x0 σ1 nx1 ⟨q,a2,hq,⟨_,ha2⟩,rfl,rfl,rfl⟩ _)
    (repeat first|refine sN rfl ?_|((first|refine sA rfl ?_ ?_|refine s4 rfl ‹_› rfl ?_ ?_);first|exact tI|omega|simp only[oZ] at *;omega)|refine s2 rfl fun _ _hb=>?_|refine s3 rfl ?_ ?_<;>rintro rfl|refine aU rfl ?_|refine lexE ?_)
    exact AWp.ret ⟨_,rfl,[0],eAut a2,[(0,rdO b (q))],⟨by intro i hi;match i with|0=>rfl,by decide⟩,rfl,by (repeat' first|exact tI|rfl|refine And.intro ?_ ?_)<;>(simp[cX,zC,hΓ,cN]<;>rfl),q,a2,by omega,⟨by have:=ha2.nx;omega,by have:=ha2.ac;omega,fun r hr=>by have:=ha2.row r hr;omega⟩,rfl,rfl,rfl⟩
  refine AWp.skip ?_
  obtain ⟨n1,m1,k1⟩:=num_ok (TB:=TB) b hb (p+1) (by omega) [3,6,7,5,1,0,2] (by decide) (by decide)
  have f1:=l3Over_ok (TB:=TB) b hb (p+1+1) (by omega) n1
  (repeat first|refine sN rfl ?_|((first|refine sA rfl ?_ ?_|refine s4 rfl ‹_› rfl ?_ ?_);first|exact tI|omega|simp only[oZ] at *;omega)|refine s2 rfl fun _ _hb=>?_|refine s3 rfl ?_ ?_<;>rintro rfl|refine aU rfl ?_|refine lexE ?_)
  (refine pW rfl ?_ rfl (by rfl);refine n_call [0] rfl rfl (k1) ⟨rfl,by decide,by decide⟩ rfl (by simp[cX,zC,hΓ,cN]) ?_;rintro x0 σ1 nx1 ⟨rfl,rfl,rfl⟩ _)
  (repeat first|refine sN rfl ?_|((first|refine sA rfl ?_ ?_|refine s4 rfl ‹_› rfl ?_ ?_);first|exact tI|omega|simp only[oZ] at *;omega)|refine s2 rfl fun _ _hb=>?_|refine s3 rfl ?_ ?_<;>rintro rfl|refine aU rfl ?_|refine lexE ?_)
  (refine pW rfl ?_ rfl (by rfl);refine n_call [0] rfl rfl (f1) ⟨rfl,by decide,by decide⟩ rfl (by simp[cX,zC,hΓ,cN]) ?_;rintro x0 σ1 nx1 ⟨q,a2,hq,⟨_,ha2⟩,rfl,rfl,rfl⟩ _)
  (repeat first|refine sN rfl ?_|((first|refine sA rfl ?_ ?_|refine s4 rfl ‹_› rfl ?_ ?_);first|exact tI|omega|simp only[oZ] at *;omega)|refine s2 rfl fun _ _hb=>?_|refine s3 rfl ?_ ?_<;>rintro rfl|refine aU rfl ?_|refine lexE ?_)
  exact AWp.ret ⟨_,rfl,[0],eAut a2,[(0,rdO b (q))],⟨by intro i hi;match i with|0=>rfl,by decide⟩,rfl,by (repeat' first|exact tI|rfl|refine And.intro ?_ ?_)<;>(simp[cX,zC,hΓ,cN]<;>rfl),q,a2,by omega,⟨by have:=ha2.nx;omega,by have:=ha2.ac;omega,fun r hr=>by have:=ha2.row r hr;omega⟩,rfl,rfl,rfl⟩
theorem ABd.mono {m n:Nat} {a:Aut} (h:ABd m a) (hm:m≤n):ABd n a:=⟨Nat.le_trans h.nx hm,Nat.le_trans h.ac hm,fun r hr=>Nat.le_trans (h.row r hr) hm⟩
abbrev auRowC (a:Aut):List C:=[.d (iD a.al),.d (iiList a.nx),.d (bList a.ac)]
end Go.Am
