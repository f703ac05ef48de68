/-
  The reference's step from a set of states; its closure: walked.
-/
import Derived.Test.YtdbppcildogedaaGreatDoorPart15
import Derived.Test.YtdbppcildogedaaGreatDoorPart11
import Derived.Test.YtdbppcildogedaaGreatDoorPart12
set_option linter.constructorNameAsVariable false
set_option linter.unusedSimpArgs false
set_option linter.unusedVariables false
namespace Go.Am
open Go Go.Proofs
set_option maxHeartbeats 1000000
attribute [local irreducible] QOp AOp Lex LexO AWp Spec
variable {TB:Amb}
theorem mStep_succ {es:List Edg} {l:Int} {m k:Nat} {e:Edg} (he:es[k]? = some e):mStep (es.take (k+1)) l m=if e.l=l∧m.testBit e.f.toNat=true then mStep (es.take k) l m ||| 2 ^ e.t.toNat else mStep (es.take k) l m:=by
  unfold mStep
  rw [List.take_add_one,he,List.foldl_append];rfl
theorem mStep_lt {s:Sys} (hs:sysOk s=true) {l:Int} {m k:Nat}:mStep (s.es.take k) l m < 65536:=bits_lt fun j hj=>by
  obtain ⟨e,he,_,rfl⟩:=mStep_bit.1 hj
  have hb:=sysOk_edge hs (List.mem_of_mem_take he)
  have hh:=sysOk_head hs
  unfold edgeOk at hb
  simp only [Bool.and_eq_true,decide_eq_true_eq] at hb
  omega
theorem l2Step_ok {s:Sys} (hs:sysOk s=true) (l:Int) {m:Nat} (hm:m < 65536):Pure Tryz.prog TB 169 [eSys s,eI .i64 (m:Nat),eI .i64 l] (eI .i64 (mStep s.es l m:Nat)):=by
  have hh:=sysOk_head hs
  refine SpecK.toSpec (SpecK.ofG (Nat.le_refl _) Tryz.func169 rfl (by kernel_rfl) (Nat.le_of_ble_eq_true rfl) ?_);intro Γ hΓ
  refine AWp.bound 0 rfl fun hB0=>?_
  have hB:=hB0 (s.es.map edRow) ⟨2,_,rfl,.refl⟩
  rw [List.length_map] at hB
  (repeat first|refine sN rfl ?_|((first|refine sA rfl ?_ ?_|refine s4 rfl ‹_› rfl ?_ ?_);first|exact tI|omega|simp only[oZ] at *;omega)|refine s2 rfl fun _ _hb=>?_|refine s3 rfl ?_ ?_<;>rintro rfl|refine aU rfl ?_|refine lexE ?_)
  refine AWp.block ?_
  refine AWp.loopV (α:={k:Nat // k≤s.es.length}) [1,2,3] [] rfl rfl (fun ⟨k,hk⟩=>[(7,eI .i64 (mStep (s.es.take k) l m:Nat)),(8,eI .i64 k)]) (fun ⟨k,hk⟩=>[]) 0 (fun ⟨k,hk⟩=>s.es.length - k) (⟨0,by omega⟩) (List.range 0) (rg hΓ rfl) (by (repeat' first|exact tI|rfl|refine And.intro ?_ ?_)<;>(simp[cX,zC,hΓ]<;>rfl)) ?_;rintro ⟨k,hk⟩;(try dsimp only[List.cons_append,List.nil_append])
  by_cases hlt:k < s.es.length
  · obtain ⟨e,he⟩:=get_some hlt
    have he':=get_map (g:=edRow) he
    have hee:(s.es.map edRow)[((k:Nat):Int).toNat]? = some (edRow e):=by rw [Int.toNat_natCast];exact he'
    have hb:=sysOk_edge hs (List.mem_of_getElem? he)
    unfold edgeOk at hb
    simp only [Bool.and_eq_true,decide_eq_true_eq] at hb
    have hst:=mStep_succ (l:=l) (m:=m) he
    have hlt1:=mStep_lt hs (l:=l) (m:=m) (k:=k)
    have hh1:=l1Has_ok (TB:=TB) (m:Nat) e.f (by omega) (by omega)
    rw [bitB_nat (by omega) (by omega)] at hh1
    have hbt:=l1Bit_ok (TB:=TB) e.t (by omega) (by omega)
    have hp2:2 ^ e.t.toNat < 65536:=by
      have:2 ^ e.t.toNat≤2 ^ 15:=Nat.pow_le_pow_right (by omega) (by omega)
      omega
    have hor:=iOr_big (a:=mStep (s.es.take k) l m) (b:=2 ^ e.t.toNat) (by omega) (by omega)
    generalize 2 ^ e.t.toNat=p2 at *
    (repeat first|refine sN rfl ?_|((first|refine sA rfl ?_ ?_|refine s4 rfl ‹_› rfl ?_ ?_);first|exact tI|omega|simp only[oZ] at *;omega)|refine s2 rfl fun _ _hb=>?_|refine s3 rfl ?_ ?_<;>rintro rfl|refine aU rfl ?_|refine lexE ?_)
    ((refine aC rfl ?_ ?_<;>rintro ⟨⟩);all_goals try(exfalso;first|omega|simp only[oZ] at *;omega))
    refine AWp.skip ?_
    refine AWp.seq (AWp.block ?_)
    (repeat' first|refine sN rfl ?_|((first|refine sA rfl ?_ ?_|refine s4 rfl ‹_› rfl ?_ ?_);first|exact tI|omega|simp only[oZ] at *;omega)|refine s2 rfl fun _ _hb=>?_ |(refine sC rfl (hh1) ?_;intro _ _hb)|refine sP rfl (hbt) rfl ?_|refine s3 rfl ?_ ?_<;>rintro rfl|refine aU rfl ?_|refine lexE ?_|(refine aC rfl ?_ ?_<;>rintro ⟨⟩));all_goals try contradiction
    · refine ⟨⟨k+1,by first|omega|simp only[oZ] at *;omega⟩,by dsimp only;(first|omega|simp only[oZ] at *;omega),[],?_⟩
      have h1:mStep (s.es.take (k+1)) l m=mStep (s.es.take k) l m ||| p2:=by rw [hst,if_pos ⟨by simpa using ‹decide (e.l=l)=true›,_hb⟩]
      simp[cX,zC,hΓ,hor,h1]
    · have h1:mStep (s.es.take (k+1)) l m=mStep (s.es.take k) l m:=by rw [hst,if_neg (by simp [_hb])]
      refine AWp.skip ?_
      (repeat first|refine sN rfl ?_|((first|refine sA rfl ?_ ?_|refine s4 rfl ‹_› rfl ?_ ?_);first|exact tI|omega|simp only[oZ] at *;omega)|refine s2 rfl fun _ _hb=>?_|refine s3 rfl ?_ ?_<;>rintro rfl|refine aU rfl ?_|refine lexE ?_)
      refine ⟨⟨k+1,by first|omega|simp only[oZ] at *;omega⟩,by dsimp only;(first|omega|simp only[oZ] at *;omega),[],?_⟩
      simp[cX,zC,hΓ,h1]
    · have h1:mStep (s.es.take (k+1)) l m=mStep (s.es.take k) l m:=by rw [hst,if_neg (fun h=>by simp [h.1] at _hb)]
      refine AWp.skip ?_
      (repeat first|refine sN rfl ?_|((first|refine sA rfl ?_ ?_|refine s4 rfl ‹_› rfl ?_ ?_);first|exact tI|omega|simp only[oZ] at *;omega)|refine s2 rfl fun _ _hb=>?_|refine s3 rfl ?_ ?_<;>rintro rfl|refine aU rfl ?_|refine lexE ?_)
      refine ⟨⟨k+1,by first|omega|simp only[oZ] at *;omega⟩,by dsimp only;(first|omega|simp only[oZ] at *;omega),[],?_⟩
      simp[cX,zC,hΓ,h1]
  · obtain rfl:k=s.es.length:=by omega
    rw [List.take_length]
    (repeat first|refine sN rfl ?_|((first|refine sA rfl ?_ ?_|refine s4 rfl ‹_› rfl ?_ ?_);first|exact tI|omega|simp only[oZ] at *;omega)|refine s2 rfl fun _ _hb=>?_|refine s3 rfl ?_ ?_<;>rintro rfl|refine aU rfl ?_|refine lexE ?_)
    ((refine aC rfl ?_ ?_<;>rintro ⟨⟩);all_goals try(exfalso;first|omega|simp only[oZ] at *;omega))
    refine AWp.exit ?_
    (repeat first|refine sN rfl ?_|((first|refine sA rfl ?_ ?_|refine s4 rfl ‹_› rfl ?_ ?_);first|exact tI|omega|simp only[oZ] at *;omega)|refine s2 rfl fun _ _hb=>?_|refine s3 rfl ?_ ?_<;>rintro rfl|refine aU rfl ?_|refine lexE ?_)
    (subst_vars;exact AWp.ret ⟨_,rfl,rfl⟩)
abbrev psI (n:Nat) (F:PS):List Int:=(List.range n).map fun p=>(F p:Int)
def Cl (t:Tsk) (G:PS) (i k:Nat):Prop:=∀p,p < t.q.nx.length→∀l∈hidL t,(p < i∨(p=i∧l∈(hidL t).take k))→∀j,(mStep t.s.es l (G p)).testBit j=true→(G (goA t.q p l).toNat).testBit j=true
structure RdC (t:Tsk) (F0 F:PS) (i k:Nat) (G:PS) (b:Bool):Prop where
  ok:PSok t G
  lo:∀p j,(F0 p).testBit j=true→(G p).testBit j=true
  hi:∀p j,(G p).testBit j=true→Rch t F0 p j
  le:∀p,F p≤G p
  yes:b=true→meaP G < meaP F
  no:b=false→G=F∧Cl t F i k
theorem meaP_le {F G:PS} (h:∀p,F p≤G p):meaP G≤meaP F:=by
  unfold meaP
  repeat' apply Nat.add_le_add
  all_goals exact Nat.sub_le_sub_left (h _) _
def upP (G:PS) (x v:Nat):PS:=fun p=>if p=x then v else G p
theorem RdC.step1 {t:Tsk} (ht:tskOk t=true) {F0 F G:PS} {i k:Nat} {b:Bool} (h:RdC t F0 F i k G b) (hi:i < t.q.nx.length) {l:Int} (hk:(hidL t)[k]? = some l) {x:Nat} (hx:goA t.q i l=(x:Int)) (hne:G x ||| mStep t.s.es l (G i)≠G x):RdC t F0 F i (k+1) (upP G x (G x ||| mStep t.s.es l (G i))) true:=by
  have hl:=List.mem_of_getElem? hk
  have hin:=hidL_in ht hl
  have hga:=goA_in (tsk_aut ht) hi hin.1 hin.2.1
  have hss:=sStep_lt ht (l:=l) (h.ok.lt i)
  unfold sStep at hss
  rw [if_pos hin.2.2] at hss
  have hlt:G x ||| mStep t.s.es l (G i) < 65536:=by have:=Nat.or_lt_two_pow (n:=16) (h.ok.lt x) hss;omega
  have hle:∀p,G p≤upP G x (G x ||| mStep t.s.es l (G i)) p:=fun p=>by
    unfold upP
    split
    · rename_i e;subst e;exact Nat.left_le_or
    · exact Nat.le_refl _
  refine ⟨⟨fun p=>?_,fun p hp=>?_⟩,fun p j hj=>?_,fun p j hj=>?_,fun p=>Nat.le_trans (h.le p) (hle p),fun _=>?_,fun h=>by cases h⟩
  · unfold upP
    split
    · exact hlt
    · exact h.ok.lt p
  · unfold upP
    rw [if_neg (by omega)];exact h.ok.z p hp
  · have:=h.lo p j hj
    unfold upP
    split
    · rename_i e;subst e;rw [Nat.testBit_or,this];rfl
    · exact this
  · unfold upP at hj
    split at hj
    · rename_i e
      subst e
      rw [Nat.testBit_or,Bool.or_eq_true] at hj
      rcases hj with hj|hj
      · exact h.hi p j hj
      · obtain ⟨e,he,⟨h3,h4⟩,h5⟩:=mStep_bit.1 hj
        subst h3
        have:=Rch.step (h.hi i _ h4) he hl rfl
        rw [hx,h5] at this
        simpa using this
    · exact h.hi p j hj
  · have h1:=meaP_le h.le
    refine Nat.lt_of_lt_of_le (meaP_lt h.ok.lt (fun p=>?_) hle fun he=>hne ?_) h1
    · unfold upP
      split
      · exact hlt
      · exact h.ok.lt p
    · have hn:=autOk_head (tsk_aut ht)
      have:=psL_inj he x (by omega)
      simpa [upP] using this
theorem RdC.step0 {t:Tsk} (ht:tskOk t=true) {F0 F G:PS} {i k:Nat} {b:Bool} (h:RdC t F0 F i k G b) {l:Int} (hk:(hidL t)[k]? = some l) {x:Nat} (hx:goA t.q i l=(x:Int)) (he:G x ||| mStep t.s.es l (G i)=G x):RdC t F0 F i (k+1) G b:=
  ⟨h.ok, h.lo,h.hi,h.le,h.yes,fun hb=>by
    obtain ⟨rfl,hc⟩:=h.no hb
    refine ⟨rfl,fun p hp l' hl' hor j hj=>?_⟩
    rcases hor with h1|⟨rfl,h1⟩
    · exact hc p hp l' hl' (.inl h1) j hj
    · rw [List.take_add_one,hk] at h1
      rcases List.mem_append.1 h1 with h1|h1
      · exact hc p hp l' hl' (.inr ⟨rfl,h1⟩) j hj
      · simp at h1
        subst h1
        rw [hx,Int.toNat_natCast,←he,Nat.testBit_or,hj,Bool.or_true]⟩
theorem RdC.row {t:Tsk} {F0 F G:PS} {i:Nat} {b:Bool} (h:RdC t F0 F i (hidL t).length G b):RdC t F0 F (i+1) 0 G b:=
  ⟨h.ok,h.lo,h.hi,h.le,h.yes,fun hb=>by
    obtain ⟨rfl,hc⟩:=h.no hb
    refine ⟨rfl,fun p hp l' hl' hor j hj=>?_⟩
    rcases hor with h1|⟨rfl,h1⟩
    · rcases Nat.lt_or_ge p i with h2|h2
      · exact hc p hp l' hl' (.inl h2) j hj
      · exact hc p hp l' hl' (.inr ⟨by omega,by rw [List.take_length];exact hl'⟩) j hj
    · simp at h1⟩
theorem RdC.done {t:Tsk} (ht:tskOk t=true) {F0 F G:PS} (h0:PSok t F0) (h:RdC t F0 F t.q.nx.length 0 G false):G=clP t F0:=by
  obtain ⟨rfl,hc⟩:=h.no rfl
  exact clP_eq ht h0 h.ok.z h.lo h.hi fun p l j hp hl hj=>hc p hp l hl (.inl hp) j hj
theorem sub_and {a b:Int} (ha:alphB a=true) (hb:alphB b=true):a - iAnd .i64 a b=iAndNot .i64 a b∧0≤iAnd .i64 a b∧iAnd .i64 a b≤63:=by
  have key:((List.range 64).all fun x=>(List.range 64).all fun y=>decide (((x:Nat):Int) - iAnd .i64 (x:Nat) (y:Nat)=iAndNot .i64 (x:Nat) (y:Nat)∧0≤iAnd .i64 (x:Nat) (y:Nat)∧iAnd .i64 (x:Nat) (y:Nat)≤63))=true:=by kernel_rfl
  unfold alphB at ha hb
  simp only [decide_eq_true_eq] at ha hb
  have h1:=List.all_eq_true.1 key a.toNat (List.mem_range.2 (by omega))
  have h2:=List.all_eq_true.1 h1 b.toNat (List.mem_range.2 (by omega))
  rw [Int.toNat_of_nonneg ha.1,Int.toNat_of_nonneg hb.1] at h2
  exact of_decide_eq_true h2
theorem psI_set {n x v:Nat} {G:PS}:((psI n G).map iRowC).set x (iRowC (v:Int))=(psI n (upP G x v)).map iRowC:=by
  apply List.ext_getElem?
  intro i
  rw [List.getElem?_set]
  by_cases hi:i < n
  · have h1:∀H:PS,((psI n H).map iRowC)[i]? = some (iRowC (H i:Int)):=fun H=>by simp [hi]
    rw [h1,h1]
    unfold upP
    by_cases e:x=i
    · subst e;rw [if_pos rfl,if_pos (by simpa using hi),if_pos rfl]
    · rw [if_neg e,if_neg (fun h=>e h.symm)]
  · have h1:∀H:PS,((psI n H).map iRowC)[i]? = none:=fun H=>List.getElem?_eq_none (by simp;omega)
    rw [h1,h1]
    by_cases e:x=i
    · subst e;rw [if_pos rfl,if_neg (by simpa using hi)]
    · rw [if_neg e]
theorem psI_row {n x:Nat} {G:PS} (h:x < n):((psI n G).map iRowC)[0+((x:Nat):Int).toNat]? = some (iRowC (G x:Int)):=by rw [Nat.zero_add,Int.toNat_natCast];simp [h]
theorem RdC.start {t:Tsk} {F0 F:PS} (hF:PSok t F) (h1:∀p j,(F0 p).testBit j=true→(F p).testBit j=true) (h2:∀p j,(F p).testBit j=true→Rch t F0 p j):RdC t F0 F 0 0 F false:=
  ⟨hF,h1,h2,fun _=>Nat.le_refl _,fun h=>(by cases h),fun _=>⟨rfl,fun p _ l _ h=>by simp at h⟩⟩
theorem l9Close_ok {t:Tsk} (ht:tskOk t=true) {F0:PS} (hF0:PSok t F0):Spec Tryz.prog TB 168 [(0,.cells 3 1 ((psI t.q.nx.length F0).map iRowC))] 1 [eTsk t,.o (.arr 0 1 0 t.q.nx.length)] (fun x σ nx=>x=.o (.arr 0 1 0 t.q.nx.length)∧σ=[(0,.cells 3 1 ((psI t.q.nx.length (clP t F0)).map iRowC))]∧nx=1):=by
  have hs:sysOk t.s=true:=by unfold tskOk at ht;simp only [Bool.and_eq_true] at ht;exact ht.1
  have hta:alphB t.al=true:=by unfold tskOk at ht;simp only [Bool.and_eq_true] at ht;exact ht.2.2
  have hsh:=sysOk_head hs
  have haut:=tsk_aut ht
  have hah:=autOk_head haut
  have hsa:=sub_and hsh.1 hta
  have hla:=hsh.1
  unfold alphB at hla
  simp only [decide_eq_true_eq] at hla
  have hlo:Pure Tryz.prog TB 83 [eI .i64 (t.s.al - iAnd .i64 t.s.al t.al)] (eInts (hidL t)):=by
    have:=l1Letters_ok (TB:=TB) (t.s.al - iAnd .i64 t.s.al t.al)
    rw [hsa.1,letters_andNot hsh.1 hta] at this
    rw [hsa.1];exact this
  have hll:(hidL t).length≤6:=by
    unfold hidL
    have h1:(letters t.s.al).length≤6:=lettersTo_len _ _
    exact Nat.le_trans (List.length_filter_le _ _) h1
  refine SpecK.toSpec (SpecK.ren (SpecK.ofG (Nat.le_refl _) Tryz.func168 rfl (by kernel_rfl) (Nat.le_of_ble_eq_true rfl) ?_));intro Γ hΓ
  (repeat first|refine sN rfl ?_|((first|refine sA rfl ?_ ?_|refine s4 rfl ‹_› rfl ?_ ?_);first|exact tI|omega|simp only[oZ] at *;omega)|refine s2 rfl fun _ _hb=>?_ |refine sP rfl (hlo) rfl ?_|refine s3 rfl ?_ ?_<;>rintro rfl|refine aU rfl ?_|refine lexE ?_)
  refine AWp.block ?_
  refine AWp.loopV (α:={s:PS×Bool // PSok t s.1∧(∀p j,(F0 p).testBit j=true→(s.1 p).testBit j=true)∧(∀p j,(s.1 p).testBit j=true→Rch t F0 p j)∧(s.2=false→s.1=clP t F0)}) [1,2,5] [] rfl rfl (fun s=>[(6,eB s.1.2)]) (fun s=>[(0,.cells 3 1 ((psI t.q.nx.length s.1.1).map iRowC))]) 1 (fun s=>(if s.1.2 then meaP s.1.1+1 else 0)) (⟨⟨F0,true⟩,hF0,fun _ _ h=>h,fun _ _ h=>.base h,fun h=>by cases h⟩) (List.range 1) (rg hΓ rfl) (by (repeat' first|exact tI|rfl|refine And.intro ?_ ?_)<;>(simp[cX,zC,hΓ]<;>rfl)) ?_;rintro ⟨⟨F,b⟩,hF,h1,h2,h3⟩;(try dsimp only[List.cons_append,List.nil_append])
  have hF:PSok t F:=hF
  cases b with
  | false=>
    obtain rfl:F=clP t F0:=h3 rfl
    (repeat first|refine sN rfl ?_|((first|refine sA rfl ?_ ?_|refine s4 rfl ‹_› rfl ?_ ?_);first|exact tI|omega|simp only[oZ] at *;omega)|refine s2 rfl fun _ _hb=>?_|refine s3 rfl ?_ ?_<;>rintro rfl|refine aU rfl ?_|refine lexE ?_)
    (refine aC rfl ?_ ?_<;>rintro ⟨⟩)
    refine AWp.exit ?_
    (repeat first|refine sN rfl ?_|((first|refine sA rfl ?_ ?_|refine s4 rfl ‹_› rfl ?_ ?_);first|exact tI|omega|simp only[oZ] at *;omega)|refine s2 rfl fun _ _hb=>?_|refine s3 rfl ?_ ?_<;>rintro rfl|refine aU rfl ?_|refine lexE ?_)
    refine AWp.ret ⟨_,rfl,[0],.o (.arr 0 1 0 t.q.nx.length),_,⟨by intro i hi;match i with|0=>rfl,by decide⟩,rfl,?_,rfl,rfl,rfl⟩
    (repeat' first|exact tI|rfl|refine And.intro ?_ ?_)<;>(simp[cX,zC,hΓ]<;>rfl)
  | true =>
    (repeat first|refine sN rfl ?_|((first|refine sA rfl ?_ ?_|refine s4 rfl ‹_› rfl ?_ ?_);first|exact tI|omega|simp only[oZ] at *;omega)|refine s2 rfl fun _ _hb=>?_|refine s3 rfl ?_ ?_<;>rintro rfl|refine aU rfl ?_|refine lexE ?_)
    (refine aC rfl ?_ ?_<;>rintro ⟨⟩)
    refine AWp.skip ?_
    refine AWp.block ?_
    (repeat first|refine sN rfl ?_|((first|refine sA rfl ?_ ?_|refine s4 rfl ‹_› rfl ?_ ?_);first|exact tI|omega|simp only[oZ] at *;omega)|refine s2 rfl fun _ _hb=>?_|refine s3 rfl ?_ ?_<;>rintro rfl|refine aU rfl ?_|refine lexE ?_)
    refine AWp.block ?_
    refine AWp.loopV (α:={s:Nat×PS×Bool // s.1≤t.q.nx.length∧RdC t F0 F s.1 0 s.2.1 s.2.2}) [1,2,5] [] rfl rfl (fun s=>[(6,eB s.1.2.2),(7,eI .i64 s.1.1)]) (fun s=>[(0,.cells 3 1 ((psI t.q.nx.length s.1.2.1).map iRowC))]) 1 (fun s=>t.q.nx.length - s.1.1) (⟨⟨0,F,false⟩,by simp,.start hF h1 h2⟩) (List.range 1) (rg hΓ rfl) (by (repeat' first|exact tI|rfl|refine And.intro ?_ ?_)<;>(simp[cX,zC,hΓ]<;>rfl)) ?_;rintro ⟨⟨i,G,b⟩,hi,hG⟩;(try dsimp only[List.cons_append,List.nil_append])
    have hi:i≤t.q.nx.length:=hi
    have hG:RdC t F0 F i 0 G b:=hG
    by_cases hin:i < t.q.nx.length
    · (repeat first|refine sN rfl ?_|((first|refine sA rfl ?_ ?_|refine s4 rfl ‹_› rfl ?_ ?_);first|exact tI|omega|simp only[oZ] at *;omega)|refine s2 rfl fun _ _hb=>?_|refine s3 rfl ?_ ?_<;>rintro rfl|refine aU rfl ?_|refine lexE ?_)
      ((refine aC rfl ?_ ?_<;>rintro ⟨⟩);all_goals try(exfalso;first|omega|simp only[oZ] at *;omega))
      refine AWp.skip ?_
      refine AWp.seq (AWp.block ?_)
      (repeat first|refine sN rfl ?_|((first|refine sA rfl ?_ ?_|refine s4 rfl ‹_› rfl ?_ ?_);first|exact tI|omega|simp only[oZ] at *;omega)|refine s2 rfl fun _ _hb=>?_|refine s3 rfl ?_ ?_<;>rintro rfl|refine aU rfl ?_|refine lexE ?_)
      refine AWp.block ?_
      refine AWp.loopV (α:={s:Nat×PS×Bool // s.1≤(hidL t).length∧RdC t F0 F i s.1 s.2.1 s.2.2}) [1,2,5,7] [] rfl rfl (fun s=>[(6,eB s.1.2.2),(8,eI .i64 s.1.1)]) (fun s=>[(0,.cells 3 1 ((psI t.q.nx.length s.1.2.1).map iRowC))]) 1 (fun s=>(hidL t).length - s.1.1) (⟨⟨0,G,b⟩,by simp,hG⟩) (List.range 1) (rg hΓ rfl) (by (repeat' first|exact tI|rfl|refine And.intro ?_ ?_)<;>(simp[cX,zC,hΓ]<;>rfl)) ?_;rintro ⟨⟨k,G',b'⟩,hk,hG'⟩;(try dsimp only[List.cons_append,List.nil_append])
      have hk:k≤(hidL t).length:=hk
      have hG':RdC t F0 F i k G' b':=hG'
      clear hG
      by_cases hkl:k < (hidL t).length
      · obtain ⟨l,hlk⟩:=get_some hkl
        have hin':=hidL_in ht (List.mem_of_getElem? hlk)
        have hl':((hidL t).map iRow)[((k:Nat):Int).toNat]? = some (iRow l):=by rw [Int.toNat_natCast];simp [hlk]
        have hgo:=l3Go_ok (TB:=TB) t.q haut i hin l hin'.1 hin'.2.1
        have hga:=goA_in haut hin hin'.1 hin'.2.1
        obtain ⟨x,hx⟩:∃x:Nat,goA t.q i l=x:=⟨(goA t.q i l).toNat,by omega⟩
        rw [hx] at hgo hga
        have hst:=l2Step_ok (TB:=TB) hs l (hG'.ok.lt i)
        have hms:mStep t.s.es l (G' i) < 65536:=by
          have:=mStep_lt hs (l:=l) (m:=G' i) (k:=t.s.es.length)
          rwa [List.take_length] at this
        have r1:=psI_row (n:=t.q.nx.length) (G:=G') (x:=x) (by omega)
        have r2:=psI_row (n:=t.q.nx.length) (G:=G') (x:=i) hin
        have hxl:=hG'.ok.lt x
        have hor:=iOr_big (a:=G' x) (b:=mStep t.s.es l (G' i)) (by omega) (by omega)
        have hset:=psI_set (n:=t.q.nx.length) (x:=x) (v:=G' x ||| mStep t.s.es l (G' i)) (G:=G')
        (repeat first|refine sN rfl ?_|((first|refine sA rfl ?_ ?_|refine s4 rfl ‹_› rfl ?_ ?_);first|exact tI|omega|simp only[oZ] at *;omega)|refine s2 rfl fun _ _hb=>?_|refine s3 rfl ?_ ?_<;>rintro rfl|refine aU rfl ?_|refine lexE ?_)
        ((refine aC rfl ?_ ?_<;>rintro ⟨⟩);all_goals try(exfalso;first|omega|simp only[oZ] at *;omega))
        refine AWp.skip ?_
        refine AWp.seq (AWp.block ?_)
        (repeat first|refine sN rfl ?_|((first|refine sA rfl ?_ ?_|refine s4 rfl ‹_› rfl ?_ ?_);first|exact tI|omega|simp only[oZ] at *;omega)|refine s2 rfl fun _ _hb=>?_|refine s3 rfl ?_ ?_<;>rintro rfl|refine aU rfl ?_|refine lexE ?_)
        refine rG (flN []) (by kernel_rfl) ?_
        (repeat first|refine sN rfl ?_|((first|refine sA rfl ?_ ?_|refine s4 rfl ‹_› rfl ?_ ?_);first|exact tI|omega|simp only[oZ] at *;omega)|refine s2 rfl fun _ _hb=>?_ |refine sP rfl (hgo) rfl ?_|refine s3 rfl ?_ ?_<;>rintro rfl|refine aU rfl ?_|refine lexE ?_)
        refine rG (flN []) (by kernel_rfl) ?_
        (repeat first|refine sN rfl ?_|((first|refine sA rfl ?_ ?_|refine s4 rfl ‹_› rfl ?_ ?_);first|exact tI|omega|simp only[oZ] at *;omega)|refine s2 rfl fun _ _hb=>?_ |refine sP rfl (hst) rfl ?_|refine s3 rfl ?_ ?_<;>rintro rfl|refine aU rfl ?_|refine lexE ?_)
        (refine aC rfl ?_ ?_<;>rintro ⟨⟩)
        · have hne:G' x ||| mStep t.s.es l (G' i)≠G' x:=by
            rw [hor] at _hb
            simp only [decide_eq_true_eq] at _hb
            omega
          (repeat first|refine sN rfl ?_|((first|refine sA rfl ?_ ?_|refine s4 rfl ‹_› rfl ?_ ?_);first|exact tI|omega|simp only[oZ] at *;omega)|refine s2 rfl fun _ _hb=>?_|refine s3 rfl ?_ ?_<;>rintro rfl|refine aU rfl ?_|refine lexE ?_)
          have hs1:=hG'.step1 ht hin hlk hx hne
          generalize upP G' x (G' x ||| mStep t.s.es l (G' i))=G2 at *
          refine ⟨⟨⟨k+1,G2,true⟩,by first|omega|simp only[oZ] at *;omega,hs1⟩,by dsimp only;(first|omega|simp only[oZ] at *;omega),[0],?_⟩
          simp[cX,zC,hΓ,hor];simpa [Function.comp_def] using hset
        · have he:G' x ||| mStep t.s.es l (G' i)=G' x:=by
            rw [hor] at _hb
            simp only [decide_eq_false_iff_not] at _hb
            omega
          refine AWp.skip ?_
          (repeat first|refine sN rfl ?_|((first|refine sA rfl ?_ ?_|refine s4 rfl ‹_› rfl ?_ ?_);first|exact tI|omega|simp only[oZ] at *;omega)|refine s2 rfl fun _ _hb=>?_|refine s3 rfl ?_ ?_<;>rintro rfl|refine aU rfl ?_|refine lexE ?_)
          refine ⟨⟨⟨k+1,G',b'⟩,by first|omega|simp only[oZ] at *;omega,hG'.step0 ht hlk hx he⟩,by dsimp only;(first|omega|simp only[oZ] at *;omega),[0],?_⟩
          simp[cX,zC,hΓ]
      · obtain rfl:k=(hidL t).length:=by omega
        (repeat first|refine sN rfl ?_|((first|refine sA rfl ?_ ?_|refine s4 rfl ‹_› rfl ?_ ?_);first|exact tI|omega|simp only[oZ] at *;omega)|refine s2 rfl fun _ _hb=>?_|refine s3 rfl ?_ ?_<;>rintro rfl|refine aU rfl ?_|refine lexE ?_)
        ((refine aC rfl ?_ ?_<;>rintro ⟨⟩);all_goals try(exfalso;first|omega|simp only[oZ] at *;omega))
        refine AWp.exit ?_
        (repeat first|refine sN rfl ?_|((first|refine sA rfl ?_ ?_|refine s4 rfl ‹_› rfl ?_ ?_);first|exact tI|omega|simp only[oZ] at *;omega)|refine s2 rfl fun _ _hb=>?_|refine s3 rfl ?_ ?_<;>rintro rfl|refine aU rfl ?_|refine lexE ?_)
        refine ⟨⟨⟨i+1,G',b'⟩,by first|omega|simp only[oZ] at *;omega,hG'.row⟩,by dsimp only;(first|omega|simp only[oZ] at *;omega),[0],?_⟩
        simp[cX,zC,hΓ]
    · obtain rfl:i=t.q.nx.length:=by omega
      (repeat first|refine sN rfl ?_|((first|refine sA rfl ?_ ?_|refine s4 rfl ‹_› rfl ?_ ?_);first|exact tI|omega|simp only[oZ] at *;omega)|refine s2 rfl fun _ _hb=>?_|refine s3 rfl ?_ ?_<;>rintro rfl|refine aU rfl ?_|refine lexE ?_)
      ((refine aC rfl ?_ ?_<;>rintro ⟨⟩);all_goals try(exfalso;first|omega|simp only[oZ] at *;omega))
      refine AWp.exit ?_
      (repeat first|refine sN rfl ?_|((first|refine sA rfl ?_ ?_|refine s4 rfl ‹_› rfl ?_ ?_);first|exact tI|omega|simp only[oZ] at *;omega)|refine s2 rfl fun _ _hb=>?_|refine s3 rfl ?_ ?_<;>rintro rfl|refine aU rfl ?_|refine lexE ?_)
      refine ⟨⟨⟨G,b⟩,hG.ok,hG.lo,hG.hi,fun hb=>by have hb:b=false:=hb;subst hb;exact hG.done ht hF0⟩,by cases b<;>simp_all [hG.yes],[0],?_⟩
      simp[cX,zC,hΓ]
structure AskT (P:Program) (TB:Amb) (gA gQ:FuncId) (t:Tea) (al:Int) (A:W→Bool):Prop where
  alph:Pure P TB gA [eTea t] (eI .i64 al)
  ask:∀w:W,w.length≤1099511627776→Pure P TB gQ [eTea t,eT w] (eB (A w))
theorem askK {t:Tea} (hk:t.kn=true):AskT Tryz.prog TB 53 99 t (if autOk t.p then t.p.al else -1) (accA t.p):=⟨specTeacherK_ok t hk,askTeacherK_ok t hk⟩
structure TSz (t:Tab):Prop where
  rl:t.rows.length≤4194304
  cl:t.cols.length≤4194304
  rb:∀w∈t.rows,w.length≤4194304
  cb:∀w∈t.cols,w.length≤4194304
theorem l10In_ok (l:List W) (s:W) (hl:l.length≤1099511627776):Pure Tryz.prog TB 55 [eTexts l,eT s] (eB (decide (s∈l))):=by
  refine eN Tryz.func55 rfl (by kernel_rfl) rfl ?_;intro Γ hΓ
  (repeat first|refine sN rfl ?_|((first|refine sA rfl ?_ ?_|refine s4 rfl ‹_› rfl ?_ ?_);first|exact tI|omega|simp only[oZ] at *;omega)|refine s2 rfl fun _ _hb=>?_|refine s3 rfl ?_ ?_<;>rintro rfl|refine aU rfl ?_|refine lexE ?_)
  refine AWp.block ?_
  refine AWp.loopV (α:={k:Nat // k≤l.length∧s∉l.take k}) [0,1] [] rfl rfl (fun ⟨k,hk,hn⟩=>[(5,eI .i64 k)]) (fun ⟨k,hk,hn⟩=>[]) 0 (fun ⟨k,hk,hn⟩=>l.length - k) (⟨0,by omega,by simp⟩) (List.range 0) (rg hΓ rfl) (by (repeat' first|exact tI|rfl|refine And.intro ?_ ?_)<;>(simp[cX,zC,hΓ]<;>rfl)) ?_;rintro ⟨k,hk,hn⟩;(try dsimp only[List.cons_append,List.nil_append])
  by_cases hlt:k < l.length
  · obtain ⟨x,hx⟩:=get_some hlt
    have hx':=get_map (g:=tRow) hx
    by_cases hs:x=s
    · have hm:s∈l:=hs ▸ List.mem_of_getElem? hx
      (repeat first|refine sN rfl ?_|((first|refine sA rfl ?_ ?_|refine s4 rfl ‹_› rfl ?_ ?_);first|exact tI|omega|simp only[oZ] at *;omega)|refine s2 rfl fun _ _hb=>?_|refine s3 rfl ?_ ?_<;>rintro rfl|refine aU rfl ?_|refine lexE ?_)
      (refine aC rfl ?_ ?_<;>rintro ⟨⟩)
      · (repeat' first|refine sN rfl ?_|((first|refine sA rfl ?_ ?_|refine s4 rfl ‹_› rfl ?_ ?_);first|exact tI|omega|simp only[oZ] at *;omega)|refine s2 rfl fun _ _hb=>?_|refine s3 rfl ?_ ?_<;>rintro rfl|refine aU rfl ?_|refine lexE ?_|refine rE (by kernel_rfl) ?_|(refine aC rfl ?_ ?_<;>rintro ⟨⟩)|refine aK ?_|refine aE ?_|refine aB ?_|refine AWp.ret ⟨_,rfl,?_⟩)
        · simp [hm]
        · exfalso;simp [hs] at _hb
      · exfalso;first|omega|simp only[oZ] at *;omega
    · have hn2:s∉l.take (k+1):=by
        rw [List.take_add_one,hx]
        intro h
        rcases List.mem_append.1 h with h|h
        · exact hn h
        · simp at h;exact hs h.symm
      (repeat first|refine sN rfl ?_|((first|refine sA rfl ?_ ?_|refine s4 rfl ‹_› rfl ?_ ?_);first|exact tI|omega|simp only[oZ] at *;omega)|refine s2 rfl fun _ _hb=>?_|refine s3 rfl ?_ ?_<;>rintro rfl|refine aU rfl ?_|refine lexE ?_)
      (refine aC rfl ?_ ?_<;>rintro ⟨⟩)
      · (repeat' first|refine sN rfl ?_|((first|refine sA rfl ?_ ?_|refine s4 rfl ‹_› rfl ?_ ?_);first|exact tI|omega|simp only[oZ] at *;omega)|refine s2 rfl fun _ _hb=>?_|refine s3 rfl ?_ ?_<;>rintro rfl|refine aU rfl ?_|refine lexE ?_|refine rE (by kernel_rfl) ?_|(refine aC rfl ?_ ?_<;>rintro ⟨⟩)|refine aK ?_|refine aE ?_|refine aB ?_|refine AWp.ret ⟨_,rfl,?_⟩)
        · exfalso;simp [hs] at _hb
        · refine ⟨⟨k+1,by first|omega|simp only[oZ] at *;omega,hn2⟩,by dsimp only;(first|omega|simp only[oZ] at *;omega),[],?_⟩
          simp[cX,zC,hΓ]
      · exfalso;first|omega|simp only[oZ] at *;omega
  · rw [List.take_of_length_le (by omega)] at hn
    (repeat first|refine sN rfl ?_|((first|refine sA rfl ?_ ?_|refine s4 rfl ‹_› rfl ?_ ?_);first|exact tI|omega|simp only[oZ] at *;omega)|refine s2 rfl fun _ _hb=>?_|refine s3 rfl ?_ ?_<;>rintro rfl|refine aU rfl ?_|refine lexE ?_)
    (refine aC rfl ?_ ?_<;>rintro ⟨⟩)
    · exfalso;first|omega|simp only[oZ] at *;omega
    · (repeat' first|refine sN rfl ?_|((first|refine sA rfl ?_ ?_|refine s4 rfl ‹_› rfl ?_ ?_);first|exact tI|omega|simp only[oZ] at *;omega)|refine s2 rfl fun _ _hb=>?_|refine s3 rfl ?_ ?_<;>rintro rfl|refine aU rfl ?_|refine lexE ?_|refine rE (by kernel_rfl) ?_|(refine aC rfl ?_ ?_<;>rintro ⟨⟩)|refine aK ?_|refine aE ?_|refine aB ?_|refine AWp.ret ⟨_,rfl,?_⟩)
      simp [hn]
theorem marks_step {A:W→Bool} {cols:List W} {w c:W} {k:Nat} (hc:cols[k]? = some c):marks A (cols.take (k+1)) w=marks A (cols.take k) w++[mkB (A (w++c))]:=by
  unfold marks
  rw [List.take_add_one,hc];simp
theorem marks_len {A:W→Bool} {cols:List W} {w:W}:(marks A cols w).length=cols.length:=by simp [marks]
theorem l10Row_ok {t:Tea} {al:Int} {A:W→Bool} (hT:AskT Tryz.prog TB 53 99 t al A) (cols:List W) (w:W) (hl:cols.length≤4194304) (hw:w.length≤4194305) (hb:∀x∈cols,x.length≤4194304) :
    Pure Tryz.prog TB 66 [eTea t,eTexts cols,eT w] (eT (marks A cols w)):=by
  refine eN Tryz.func66 rfl (by kernel_rfl) rfl ?_;intro Γ hΓ
  (repeat first|refine sN rfl ?_|((first|refine sA rfl ?_ ?_|refine s4 rfl ‹_› rfl ?_ ?_);first|exact tI|omega|simp only[oZ] at *;omega)|refine s2 rfl fun _ _hb=>?_|refine s3 rfl ?_ ?_<;>rintro rfl|refine aU rfl ?_|refine lexE ?_)
  refine AWp.block ?_
  refine AWp.loopV (α:={k:Nat // k≤cols.length}) [1,2,3] [] rfl rfl (fun ⟨k,hk⟩=>[(7,eT (marks A (cols.take k) w)),(8,eI .i64 k)]) (fun ⟨k,hk⟩=>[]) 0 (fun ⟨k,hk⟩=>cols.length - k) (⟨0,by omega⟩) (List.range 0) (rg hΓ rfl) (by (repeat' first|exact tI|rfl|refine And.intro ?_ ?_)<;>(simp[cX,zC,hΓ]<;>rfl)) ?_;rintro ⟨k,hk⟩;(try dsimp only[List.cons_append,List.nil_append])
  have hml:(marks A (cols.take k) w).length≤4194304:=by rw [marks_len,List.length_take];omega
  by_cases hlt:k < cols.length
  · obtain ⟨x,hx⟩:=get_some hlt
    have hx':=get_map (g:=tRow) hx
    have hxb:=hb x (List.mem_of_getElem? hx)
    have hq:=hT.ask (w++x) (by simp;omega)
    have hst:=marks_step (A:=A) (w:=w) hx
    (repeat first|refine sN rfl ?_|((first|refine sA rfl ?_ ?_|refine s4 rfl ‹_› rfl ?_ ?_);first|exact tI|omega|simp only[oZ] at *;omega)|refine s2 rfl fun _ _hb=>?_|refine s3 rfl ?_ ?_<;>rintro rfl|refine aU rfl ?_|refine lexE ?_)
    (refine aC rfl ?_ ?_<;>rintro ⟨⟩)
    · refine AWp.skip ?_
      refine AWp.seq (AWp.block ?_)
      (repeat first|refine sN rfl ?_|((first|refine sA rfl ?_ ?_|refine s4 rfl ‹_› rfl ?_ ?_);first|exact tI|omega|simp only[oZ] at *;omega)|refine s2 rfl fun _ _hb=>?_ |(refine sC rfl (hq) ?_;intro _ _hb)|refine s3 rfl ?_ ?_<;>rintro rfl|refine aU rfl ?_|refine lexE ?_|refine rE (by kernel_rfl) ?_)
      (refine aC rfl ?_ ?_<;>rintro ⟨⟩)
      · rw [_hb] at hst
        (repeat first|refine sN rfl ?_|((first|refine sA rfl ?_ ?_|refine s4 rfl ‹_› rfl ?_ ?_);first|exact tI|omega|simp only[oZ] at *;omega)|refine s2 rfl fun _ _hb=>?_|refine s3 rfl ?_ ?_<;>rintro rfl|refine aU rfl ?_|refine lexE ?_|refine rE (by kernel_rfl) ?_)
        refine ⟨⟨k+1,by first|omega|simp only[oZ] at *;omega⟩,by dsimp only;(first|omega|simp only[oZ] at *;omega),[],?_⟩
        simp[cX,zC,hΓ,hst,mkB]
      · rw [_hb] at hst
        (repeat first|refine sN rfl ?_|((first|refine sA rfl ?_ ?_|refine s4 rfl ‹_› rfl ?_ ?_);first|exact tI|omega|simp only[oZ] at *;omega)|refine s2 rfl fun _ _hb=>?_|refine s3 rfl ?_ ?_<;>rintro rfl|refine aU rfl ?_|refine lexE ?_|refine rE (by kernel_rfl) ?_)
        refine ⟨⟨k+1,by first|omega|simp only[oZ] at *;omega⟩,by dsimp only;(first|omega|simp only[oZ] at *;omega),[],?_⟩
        simp[cX,zC,hΓ,hst,mkB]
    · exfalso;first|omega|simp only[oZ] at *;omega
  · obtain rfl:k=cols.length:=by omega
    rw [List.take_length]
    (repeat first|refine sN rfl ?_|((first|refine sA rfl ?_ ?_|refine s4 rfl ‹_› rfl ?_ ?_);first|exact tI|omega|simp only[oZ] at *;omega)|refine s2 rfl fun _ _hb=>?_|refine s3 rfl ?_ ?_<;>rintro rfl|refine aU rfl ?_|refine lexE ?_)
    (refine aC rfl ?_ ?_<;>rintro ⟨⟩)
    · exfalso;first|omega|simp only[oZ] at *;omega
    · (repeat' first|refine sN rfl ?_|((first|refine sA rfl ?_ ?_|refine s4 rfl ‹_› rfl ?_ ?_);first|exact tI|omega|simp only[oZ] at *;omega)|refine s2 rfl fun _ _hb=>?_|refine s3 rfl ?_ ?_<;>rintro rfl|refine aU rfl ?_|refine lexE ?_|refine rE (by kernel_rfl) ?_|(refine aC rfl ?_ ?_<;>rintro ⟨⟩)|refine aK ?_|refine aE ?_|refine aB ?_|refine AWp.ret ⟨_,rfl,?_⟩)
      rfl
theorem zero_rows {n:Nat}:List.replicate n (iRowC 0)=(psI n fun _=>0).map iRowC:=by
  apply List.ext_getElem?
  intro i
  by_cases h:i < n
  · simp [h]
  · rw [List.getElem?_eq_none (by simp;omega),List.getElem?_eq_none (by simp;omega)]
theorem start_rows {n:Nat}:(List.replicate n (iRowC 0)).set 0 (iRowC 1)=(psI n zeroP).map iRowC:=by
  rw [zero_rows]
  have:=psI_set (n:=n) (x:=0) (v:=1) (G:=fun _=>0)
  have e:upP (fun _=>0) 0 1=zeroP:=by funext p;rfl
  rw [e] at this
  exact this
theorem l9Start_ok {t:Tsk} (ht:tskOk t=true):Pure Tryz.prog TB 147 [eTsk t] (eInts (psI t.q.nx.length (startP t))):=by
  have hah:=autOk_head (tsk_aut ht)
  have hcl:=l9Close_ok (TB:=TB) ht (zeroP_ok ht)
  rw [show clP t zeroP=startP t from rfl] at hcl
  have hst:=start_rows (n:=t.q.nx.length)
  have hr0:(List.replicate t.q.nx.length (iRowC 0))[0+(0:Int).toNat]? = some (iRowC 0):=by rw [List.getElem?_replicate,if_pos];simp;omega
  refine SpecK.toSpec (SpecK.ofG (Nat.le_refl _) Tryz.func147 rfl (by kernel_rfl) (Nat.le_of_ble_eq_true rfl) ?_);intro Γ hΓ
  (repeat first|refine sN rfl ?_|((first|refine sA rfl ?_ ?_|refine s4 rfl ‹_› rfl ?_ ?_);first|exact tI|omega|simp only[oZ] at *;omega)|refine s2 rfl fun _ _hb=>?_|refine s3 rfl ?_ ?_<;>rintro rfl|refine aU rfl ?_|refine lexE ?_)
  (refine pW rfl ?_ rfl (by rfl);refine n_make rfl rfl (by rfl) (by rfl) (Nat.le_of_ble_eq_true rfl) (by omega) (by omega) (by omega) ?_)
  (repeat first|refine sN rfl ?_|((first|refine sA rfl ?_ ?_|refine s4 rfl ‹_› rfl ?_ ?_);first|exact tI|omega|simp only[oZ] at *;omega)|refine s2 rfl fun _ _hb=>?_|refine s3 rfl ?_ ?_<;>rintro rfl|refine aU rfl ?_|refine lexE ?_)
  (refine pW rfl ?_ rfl (by rfl);refine n_call [0] rfl rfl (hcl) ⟨rfl,by decide,by decide⟩ rfl (by simp[cX,zC,hΓ,hst]) ?_;rintro x0 σ1 nx1 ⟨rfl,rfl,rfl⟩ _)
  (repeat first|refine sN rfl ?_|((first|refine sA rfl ?_ ?_|refine s4 rfl ‹_› rfl ?_ ?_);first|exact tI|omega|simp only[oZ] at *;omega)|refine s2 rfl fun _ _hb=>?_|refine s3 rfl ?_ ?_<;>rintro rfl)
  refine lexE ?_
  refine AWp.namesV [] [] rfl rfl [(2,.o (.arr 0 1 0 t.q.nx.length))] [(0,.cells 3 1 ((psI t.q.nx.length (startP t)).map iRowC))] [0] (rl hΓ rfl) (by (repeat' first|exact tI|rfl|refine And.intro ?_ ?_)<;>(simp[cX,zC,hΓ,hst]<;>rfl)) ?_;(try dsimp only[List.cons_append,List.nil_append])
  refine AWp.settle [(2,eInts (psI t.q.nx.length (startP t)))] ⟨⟨_,rfl,.o (.full rfl (by simp [Function.comp_def]) (by simp))⟩,trivial⟩ ?_
  refine AWp.ret ⟨_,rfl,rfl⟩
theorem l9Bad_ok {t:Tsk} (ht:tskOk t=true) {F:PS}:Pure Tryz.prog TB 148 [eTsk t,eInts (psI t.q.nx.length F)] (eB (badP t F)):=by
  have hah:=autOk_head (tsk_aut ht)
  have hpl:(psI t.q.nx.length F).length=t.q.nx.length:=by simp
  have hdef:badP t F=badTo t F t.q.nx.length:=rfl
  refine SpecK.toSpec (SpecK.ofG (Nat.le_refl _) Tryz.func148 rfl (by kernel_rfl) (Nat.le_of_ble_eq_true rfl) ?_);intro Γ hΓ
  (repeat first|refine sN rfl ?_|((first|refine sA rfl ?_ ?_|refine s4 rfl ‹_› rfl ?_ ?_);first|exact tI|omega|simp only[oZ] at *;omega)|refine s2 rfl fun _ _hb=>?_|refine s3 rfl ?_ ?_<;>rintro rfl|refine aU rfl ?_|refine lexE ?_)
  refine AWp.block ?_
  refine AWp.loopV (α:={k:Nat // k≤t.q.nx.length∧badTo t F k=false}) [1,2] [] rfl rfl (fun ⟨k,hk,hb⟩=>[(5,eI .i64 k)]) (fun ⟨k,hk,hb⟩=>[]) 0 (fun ⟨k,hk,hb⟩=>t.q.nx.length - k) (⟨0,by omega,rfl⟩) (List.range 0) (rg hΓ rfl) (by (repeat' first|exact tI|rfl|refine And.intro ?_ ?_)<;>(simp[cX,zC,hΓ]<;>rfl)) ?_;rintro ⟨k,hk,hb⟩;(try dsimp only[List.cons_append,List.nil_append])
  by_cases hlt:k < t.q.nx.length
  · have hr:((psI t.q.nx.length F).map iRow)[((k:Nat):Int).toNat]? = some (iRow (F k:Int)):=by rw [Int.toNat_natCast];simp [hlt]
    obtain ⟨b,hb1⟩:=get_some (l:=t.q.ac) (k:=((k:Nat):Int).toNat) (by omega)
    have hb':=get_map (g:=bRow) hb1
    have hgd:t.q.ac.getD k false=b:=by rw [Int.toNat_natCast] at hb1;simp [List.getD,hb1]
    have hs:=badTo_succ (t:=t) (F:=F) (k:=k)
    rw [hgd,hb] at hs
    (repeat first|refine sN rfl ?_|((first|refine sA rfl ?_ ?_|refine s4 rfl ‹_› rfl ?_ ?_);first|exact tI|omega|simp only[oZ] at *;omega)|refine s2 rfl fun _ _hb=>?_|refine s3 rfl ?_ ?_<;>rintro rfl|refine aU rfl ?_|refine lexE ?_)
    ((refine aC rfl ?_ ?_<;>rintro ⟨⟩);all_goals try(exfalso;first|omega|simp only[oZ] at *;omega))
    refine AWp.skip ?_
    refine AWp.seq (AWp.block ?_)
    (repeat' first|refine sN rfl ?_|((first|refine sA rfl ?_ ?_|refine s4 rfl ‹_› rfl ?_ ?_);first|exact tI|omega|simp only[oZ] at *;omega)|refine s2 rfl fun _ _hb=>?_|refine s3 rfl ?_ ?_<;>rintro rfl|refine aU rfl ?_|refine lexE ?_|(refine aC rfl ?_ ?_<;>rintro ⟨⟩));all_goals try contradiction
    · have hbt:badP t F=true:=by
        have h7:=of_decide_eq_true ‹decide ((F k:Int)≠0)=true›
        have h8:F k≠0:=by omega
        rw [hdef]
        unfold badTo
        exact List.any_eq_true.2 ⟨k,List.mem_range.2 hlt,by rw [hgd,_hb];simp [h8]⟩
      rw [hbt]
      (subst_vars;exact AWp.ret ⟨_,rfl,rfl⟩)
    · have hk1:badTo t F (k+1)=false:=by rw [hs];simp_all
      refine AWp.skip ?_
      (repeat first|refine sN rfl ?_|((first|refine sA rfl ?_ ?_|refine s4 rfl ‹_› rfl ?_ ?_);first|exact tI|omega|simp only[oZ] at *;omega)|refine s2 rfl fun _ _hb=>?_|refine s3 rfl ?_ ?_<;>rintro rfl|refine aU rfl ?_|refine lexE ?_)
      refine ⟨⟨k+1,by first|omega|simp only[oZ] at *;omega,hk1⟩,by dsimp only;(first|omega|simp only[oZ] at *;omega),[],?_⟩
      simp[cX,zC,hΓ]
    · have hk1:badTo t F (k+1)=false:=by rw [hs];simp at _hb;simp;omega
      refine AWp.skip ?_
      (repeat first|refine sN rfl ?_|((first|refine sA rfl ?_ ?_|refine s4 rfl ‹_› rfl ?_ ?_);first|exact tI|omega|simp only[oZ] at *;omega)|refine s2 rfl fun _ _hb=>?_|refine s3 rfl ?_ ?_<;>rintro rfl|refine aU rfl ?_|refine lexE ?_)
      refine ⟨⟨k+1,by first|omega|simp only[oZ] at *;omega,hk1⟩,by dsimp only;(first|omega|simp only[oZ] at *;omega),[],?_⟩
      simp[cX,zC,hΓ]
  · obtain rfl:k=t.q.nx.length:=by omega
    rw [hdef,hb]
    (repeat first|refine sN rfl ?_|((first|refine sA rfl ?_ ?_|refine s4 rfl ‹_› rfl ?_ ?_);first|exact tI|omega|simp only[oZ] at *;omega)|refine s2 rfl fun _ _hb=>?_|refine s3 rfl ?_ ?_<;>rintro rfl|refine aU rfl ?_|refine lexE ?_)
    ((refine aC rfl ?_ ?_<;>rintro ⟨⟩);all_goals try(exfalso;first|omega|simp only[oZ] at *;omega))
    refine AWp.exit ?_
    (repeat first|refine sN rfl ?_|((first|refine sA rfl ?_ ?_|refine s4 rfl ‹_› rfl ?_ ?_);first|exact tI|omega|simp only[oZ] at *;omega)|refine s2 rfl fun _ _hb=>?_|refine s3 rfl ?_ ?_<;>rintro rfl|refine aU rfl ?_|refine lexE ?_)
    (subst_vars;exact AWp.ret ⟨_,rfl,rfl⟩)
theorem mvTo_up {t:Tsk} {l:Int} {F:PS} {k x:Nat} (h:goA t.q k l=(x:Int)):mvTo t l F (k+1)=upP (mvTo t l F k) x (mvTo t l F k x ||| sStep t.s l (F k)):=by
  rw [mvTo_succ]
  funext p
  unfold upP
  rw [h]
  by_cases e:p=x
  · subst e;simp
  · rw [if_neg e,if_neg (by omega)]
theorem l9Move_ok {t:Tsk} (ht:tskOk t=true) {F:PS} (hF:PSok t F) {l:Int} (hl:0≤l∧l < 6):Pure Tryz.prog TB 149 [eTsk t,eInts (psI t.q.nx.length F),eI .i64 l] (eInts (psI t.q.nx.length (nextP t l F))):=by
  have hs:sysOk t.s=true:=by unfold tskOk at ht;simp only [Bool.and_eq_true] at ht;exact ht.1
  have haut:=tsk_aut ht
  have hah:=autOk_head haut
  have hcl:=l9Close_ok (TB:=TB) ht (mvP_ok ht hl hF)
  rw [show clP t (mvP t l F)=nextP t l F from rfl] at hcl
  have hpl:(psI t.q.nx.length F).length=t.q.nx.length:=by simp
  have h0:List.replicate t.q.nx.length (iRowC 0)=(psI t.q.nx.length (mvTo t l F 0)).map iRowC:=zero_rows
  have hz0:[zC (Value.int IntKind.i64 0)]=iRowC 0:=rfl
  have hhas:=l1Has_ok (TB:=TB) t.s.al l hl.1 (by omega)
  refine SpecK.toSpec (SpecK.ofG (Nat.le_refl _) Tryz.func149 rfl (by kernel_rfl) (Nat.le_of_ble_eq_true rfl) ?_);intro Γ hΓ
  (repeat first|refine sN rfl ?_|((first|refine sA rfl ?_ ?_|refine s4 rfl ‹_› rfl ?_ ?_);first|exact tI|omega|simp only[oZ] at *;omega)|refine s2 rfl fun _ _hb=>?_|refine s3 rfl ?_ ?_<;>rintro rfl|refine aU rfl ?_|refine lexE ?_)
  (refine pW rfl ?_ rfl (by rfl);refine n_make rfl rfl (by rfl) (by rfl) (Nat.le_of_ble_eq_true rfl) (by omega) (by omega) (by omega) ?_)
  (repeat first|refine sN rfl ?_|((first|refine sA rfl ?_ ?_|refine s4 rfl ‹_› rfl ?_ ?_);first|exact tI|omega|simp only[oZ] at *;omega)|refine s2 rfl fun _ _hb=>?_|refine s3 rfl ?_ ?_<;>rintro rfl|refine aU rfl ?_|refine lexE ?_)
  refine AWp.block ?_
  refine AWp.loopV (α:={k:Nat // k≤t.q.nx.length}) [1,2,3] [] rfl rfl (fun s=>[(7,.o (.arr 0 1 0 t.q.nx.length)),(8,eI .i64 s.1)]) (fun s=>[(0,.cells 3 1 ((psI t.q.nx.length (mvTo t l F s.1)).map iRowC))]) 1 (fun s=>t.q.nx.length - s.1) (⟨0,by omega⟩) (List.range 1) (rg hΓ rfl) (by (repeat' first|exact tI|rfl|refine And.intro ?_ ?_)<;>(simp[cX,zC,hΓ,h0,hz0]<;>rfl)) ?_;rintro ⟨k,hk⟩;(try dsimp only[List.cons_append,List.nil_append])
  by_cases hkl:k < t.q.nx.length
  · have hr:((psI t.q.nx.length F).map iRow)[((k:Nat):Int).toNat]? = some (iRow (F k:Int)):=by rw [Int.toNat_natCast];simp [hkl]
    have hgo:=l3Go_ok (TB:=TB) t.q haut k hkl l hl.1 hl.2
    have hga:=goA_in haut hkl hl.1 hl.2
    obtain ⟨x,hx⟩:∃x:Nat,goA t.q k l=x:=⟨(goA t.q k l).toNat,by omega⟩
    have hnx:=mvTo_up (F:=F) hx
    rw [hx] at hgo hga
    have hst:=l2Step_ok (TB:=TB) hs l (hF.lt k)
    have r1:=psI_row (n:=t.q.nx.length) (G:=mvTo t l F k) (x:=x) (by omega)
    have hml:=mvTo_lt ht (l:=l) hF k x
    have hss:=sStep_lt ht (l:=l) (hF.lt k)
    have hor:=iOr_big (a:=mvTo t l F k x) (b:=sStep t.s l (F k)) (by omega) (by omega)
    have hset:=psI_set (n:=t.q.nx.length) (x:=x) (v:=mvTo t l F k x ||| sStep t.s l (F k)) (G:=mvTo t l F k)
    rw [←hnx] at hset
    (repeat first|refine sN rfl ?_|((first|refine sA rfl ?_ ?_|refine s4 rfl ‹_› rfl ?_ ?_);first|exact tI|omega|simp only[oZ] at *;omega)|refine s2 rfl fun _ _hb=>?_|refine s3 rfl ?_ ?_<;>rintro rfl|refine aU rfl ?_|refine lexE ?_)
    ((refine aC rfl ?_ ?_<;>rintro ⟨⟩);all_goals try(exfalso;first|omega|simp only[oZ] at *;omega))
    refine AWp.skip ?_
    refine AWp.seq (AWp.block ?_)
    (repeat first|refine sN rfl ?_|((first|refine sA rfl ?_ ?_|refine s4 rfl ‹_› rfl ?_ ?_);first|exact tI|omega|simp only[oZ] at *;omega)|refine s2 rfl fun _ _hb=>?_ |(refine sC rfl (hhas) ?_;intro _ _hb)|refine s3 rfl ?_ ?_<;>rintro rfl|refine aU rfl ?_|refine lexE ?_)
    (refine aC rfl ?_ ?_<;>rintro ⟨⟩)
    · have hsm:sStep t.s l (F k)=mStep t.s.es l (F k):=by unfold sStep;rw [if_pos _hb]
      rw [←hsm] at hst
      (repeat first|refine sN rfl ?_|((first|refine sA rfl ?_ ?_|refine s4 rfl ‹_› rfl ?_ ?_);first|exact tI|omega|simp only[oZ] at *;omega)|refine s2 rfl fun _ _hb=>?_ |refine sP rfl (hst) rfl ?_|refine sP rfl (hgo) rfl ?_|refine s3 rfl ?_ ?_<;>rintro rfl|refine aU rfl ?_|refine lexE ?_)
      refine ⟨⟨k+1,by first|omega|simp only[oZ] at *;omega⟩,by dsimp only;(first|omega|simp only[oZ] at *;omega),[0],?_⟩
      simp[cX,zC,hΓ,hor];simpa [Function.comp_def] using hset
    · have hsm:sStep t.s l (F k)=F k:=by unfold sStep;rw [if_neg (by simp [_hb])]
      rw [hsm] at hor hset
      refine AWp.skip ?_
      (repeat first|refine sN rfl ?_|((first|refine sA rfl ?_ ?_|refine s4 rfl ‹_› rfl ?_ ?_);first|exact tI|omega|simp only[oZ] at *;omega)|refine s2 rfl fun _ _hb=>?_ |refine sP rfl (hgo) rfl ?_|refine s3 rfl ?_ ?_<;>rintro rfl|refine aU rfl ?_|refine lexE ?_)
      refine ⟨⟨k+1,by first|omega|simp only[oZ] at *;omega⟩,by dsimp only;(first|omega|simp only[oZ] at *;omega),[0],?_⟩
      simp[cX,zC,hΓ,hor];simpa [Function.comp_def] using hset
  · obtain rfl:k=t.q.nx.length:=by omega
    rw [show mvTo t l F t.q.nx.length=mvP t l F from rfl]
    (repeat first|refine sN rfl ?_|((first|refine sA rfl ?_ ?_|refine s4 rfl ‹_› rfl ?_ ?_);first|exact tI|omega|simp only[oZ] at *;omega)|refine s2 rfl fun _ _hb=>?_|refine s3 rfl ?_ ?_<;>rintro rfl|refine aU rfl ?_|refine lexE ?_)
    ((refine aC rfl ?_ ?_<;>rintro ⟨⟩);all_goals try(exfalso;first|omega|simp only[oZ] at *;omega))
    refine AWp.exit ?_
    (repeat first|refine sN rfl ?_|((first|refine sA rfl ?_ ?_|refine s4 rfl ‹_› rfl ?_ ?_);first|exact tI|omega|simp only[oZ] at *;omega)|refine s2 rfl fun _ _hb=>?_|refine s3 rfl ?_ ?_<;>rintro rfl|refine aU rfl ?_|refine lexE ?_)
    (refine pW rfl ?_ rfl (by rfl);refine n_call [0] rfl rfl (hcl) ⟨rfl,by decide,by decide⟩ rfl (by simp[cX,zC,hΓ]) ?_;rintro x0 σ1 nx1 ⟨rfl,rfl,rfl⟩ _)
    (repeat first|refine sN rfl ?_|((first|refine sA rfl ?_ ?_|refine s4 rfl ‹_› rfl ?_ ?_);first|exact tI|omega|simp only[oZ] at *;omega)|refine s2 rfl fun _ _hb=>?_|refine s3 rfl ?_ ?_<;>rintro rfl)
    refine lexE ?_
    refine AWp.namesV [] [] rfl rfl [(6,.o (.arr 0 1 0 t.q.nx.length))] [(0,.cells 3 1 ((psI t.q.nx.length (nextP t l F)).map iRowC))] [0] (rl hΓ rfl) (by (repeat' first|exact tI|rfl|refine And.intro ?_ ?_)<;>(simp[cX,zC,hΓ]<;>rfl)) ?_;(try dsimp only[List.cons_append,List.nil_append])
    refine AWp.settle [(6,eInts (psI t.q.nx.length (nextP t l F)))] ⟨⟨_,rfl,.o (.full rfl (by simp [Function.comp_def]) (by simp))⟩,trivial⟩ ?_
    refine AWp.ret ⟨_,rfl,rfl⟩
theorem specTaskValid_ok (t:Tsk):Pure Tryz.prog TB 97 [eTsk t] (eB (tskOk t)):=by
  unfold tskOk
  refine eN Tryz.func97 rfl (by kernel_rfl) rfl ?_;intro Γ hΓ
  (repeat' first|refine sN rfl ?_|((first|refine sA rfl ?_ ?_|refine s4 rfl ‹_› rfl ?_ ?_);first|exact tI|omega|simp only[oZ] at *;omega)|refine s2 rfl fun _ _hb=>?_ |(refine sC rfl (specSystemValid_ok t.s) ?_;intro _ _hb)|(refine sC rfl (specAutomatonValid_ok t.q) ?_;intro _ _hb)|(refine sC rfl (l1Alphabet_ok t.al) ?_;intro _ _hb)|refine s3 rfl ?_ ?_<;>rintro rfl|refine aU rfl ?_|refine lexE ?_|refine rE (by kernel_rfl) ?_|(refine aC rfl ?_ ?_<;>rintro ⟨⟩)|refine aK ?_|refine aE ?_|refine aB ?_|refine AWp.ret ⟨_,rfl,?_⟩)
  all_goals (show E.o _=E.o _;simp_all)
noncomputable def safeA (t:Tsk) (w:W):Bool:=tskOk t && (within w t.al && LS t w)
theorem within_num {w:W} {al:Int} (h:within w al=true):∀c∈w,0≤(c.toNat:Int) - 97∧(c.toNat:Int) - 97 < 6:=fun c hc=>lsB_num (within_lsB h c hc)
theorem safeWord_ok (t:Tsk) (w:W) (hl:w.length≤1099511627776):Pure Tryz.prog TB 120 [eTsk t,eT w] (eB (safeA t w)):=by
  have hv:=specTaskValid_ok (TB:=TB) t
  have hw:=wordWithin_ok (TB:=TB) w t.al hl
  by_cases h:(tskOk t && within w t.al)=true
  · have ht:tskOk t=true:=by revert h;cases tskOk t<;>simp
    have hwi:within w t.al=true:=by revert h;cases within w t.al<;>simp
    have hn:=within_num hwi
    have hA:safeA t w=LS t w:=by unfold safeA;rw [ht,hwi];rfl
    rw [hA]
    rw [ht] at hv
    rw [hwi] at hw
    have hst:=l9Start_ok (TB:=TB) ht
    refine SpecK.toSpec (SpecK.ofG (Nat.le_refl _) Tryz.func120 rfl (by kernel_rfl) (Nat.le_of_ble_eq_true rfl) ?_);intro Γ hΓ
    (repeat' first|refine sN rfl ?_|((first|refine sA rfl ?_ ?_|refine s4 rfl ‹_› rfl ?_ ?_);first|exact tI|omega|simp only[oZ] at *;omega)|refine s2 rfl fun _ _hb=>?_ |refine sP rfl (hv) rfl ?_|refine sP rfl (hw) rfl ?_|refine sP rfl (hst) rfl ?_|refine s3 rfl ?_ ?_<;>rintro rfl|refine aU rfl ?_|refine lexE ?_|(refine aC rfl ?_ ?_<;>rintro ⟨⟩));all_goals try contradiction
    refine AWp.skip ?_
    (repeat first|refine sN rfl ?_|((first|refine sA rfl ?_ ?_|refine s4 rfl ‹_› rfl ?_ ?_);first|exact tI|omega|simp only[oZ] at *;omega)|refine s2 rfl fun _ _hb=>?_ |refine sP rfl (hst) rfl ?_|refine s3 rfl ?_ ?_<;>rintro rfl|refine aU rfl ?_|refine lexE ?_)
    refine AWp.block ?_
    refine AWp.loopV (α:={x:Nat×PS // x.1≤w.length∧PSok t x.2∧safeP t x.2 (w.drop x.1)=LS t w}) [1,2] [] rfl rfl (fun s=>[(5,eInts (psI t.q.nx.length s.1.2)),(6,eI .i64 s.1.1)]) (fun s=>[]) 0 (fun s=>w.length - s.1.1) (⟨⟨0,startP t⟩,by simp,startP_ok ht,rfl⟩) (List.range 0) (rg hΓ rfl) (by (repeat' first|exact tI|rfl|refine And.intro ?_ ?_)<;>(simp[cX,zC,hΓ]<;>rfl)) ?_;rintro ⟨⟨i,F⟩,hi,hF,hs⟩;(try dsimp only[List.cons_append,List.nil_append])
    have hi:i≤w.length:=hi
    have hF:PSok t F:=hF
    have hs:safeP t F (w.drop i)=LS t w:=hs
    have hbd:=l9Bad_ok (TB:=TB) ht (F:=F)
    by_cases hlt:i < w.length
    · obtain ⟨c,hc⟩:=get_some hlt
      have hc':w[((i:Nat):Int).toNat]? = some c:=by simpa using hc
      have hcl:=hn c (List.mem_of_getElem? hc)
      have hla:=l1At_ok (TB:=TB) w i c hc'
      have hmv:=l9Move_ok (TB:=TB) ht hF hcl
      have hno:=nextP_ok ht hcl hF
      rw [drop_some hc,safeP] at hs
      generalize badP t F=b at *
      (repeat' first|refine sN rfl ?_|((first|refine sA rfl ?_ ?_|refine s4 rfl ‹_› rfl ?_ ?_);first|exact tI|omega|simp only[oZ] at *;omega)|refine s2 rfl fun _ _hb=>?_ |refine sP rfl (hbd) rfl ?_|refine s3 rfl ?_ ?_<;>rintro rfl|refine aU rfl ?_|refine lexE ?_|(refine aC rfl ?_ ?_<;>rintro ⟨⟩));all_goals try contradiction
      all_goals first|(exfalso;first|omega|simp only[oZ] at *;omega;done)|skip
      · have hb:b=false:=by simpa using _hb
        subst hb
        refine AWp.skip ?_
        refine AWp.seq (AWp.block ?_)
        (repeat first|refine sN rfl ?_|((first|refine sA rfl ?_ ?_|refine s4 rfl ‹_› rfl ?_ ?_);first|exact tI|omega|simp only[oZ] at *;omega)|refine s2 rfl fun _ _hb=>?_|refine s3 rfl ?_ ?_<;>rintro rfl|refine aU rfl ?_|refine lexE ?_)
        refine rG (flN []) (by kernel_rfl) ?_
        (repeat first|refine sN rfl ?_|((first|refine sA rfl ?_ ?_|refine s4 rfl ‹_› rfl ?_ ?_);first|exact tI|omega|simp only[oZ] at *;omega)|refine s2 rfl fun _ _hb=>?_ |refine sP rfl (hla) rfl ?_|refine sP rfl (hmv) rfl ?_|refine s3 rfl ?_ ?_<;>rintro rfl|refine aU rfl ?_|refine lexE ?_)
        refine ⟨⟨⟨i+1,nextP t ((c.toNat:Int) - 97) F⟩,by first|omega|simp only[oZ] at *;omega,hno,by simpa using hs⟩,by dsimp only;(first|omega|simp only[oZ] at *;omega),[],?_⟩
        simp[cX,zC,hΓ]
      · have hb:b=true:=by simpa using _hb
        subst hb
        have hs:LS t w=false:=by simpa using hs.symm
        rw [hs]
        refine AWp.exit ?_
        (repeat first|refine sN rfl ?_|((first|refine sA rfl ?_ ?_|refine s4 rfl ‹_› rfl ?_ ?_);first|exact tI|omega|simp only[oZ] at *;omega)|refine s2 rfl fun _ _hb=>?_ |refine sP rfl (hbd) rfl ?_|refine s3 rfl ?_ ?_<;>rintro rfl|refine aU rfl ?_|refine lexE ?_)
        (subst_vars;exact AWp.ret ⟨_,rfl,rfl⟩)
    · obtain rfl:i=w.length:=by omega
      rw [List.drop_length,safeP] at hs
      rw [←hs]
      (repeat' first|refine sN rfl ?_|((first|refine sA rfl ?_ ?_|refine s4 rfl ‹_› rfl ?_ ?_);first|exact tI|omega|simp only[oZ] at *;omega)|refine s2 rfl fun _ _hb=>?_ |refine sP rfl (hbd) rfl ?_|refine s3 rfl ?_ ?_<;>rintro rfl|refine aU rfl ?_|refine lexE ?_|(refine aC rfl ?_ ?_<;>rintro ⟨⟩));all_goals try contradiction
      all_goals first|(exfalso;first|omega|simp only[oZ] at *;omega;done)|skip
      refine AWp.exit ?_
      (repeat first|refine sN rfl ?_|((first|refine sA rfl ?_ ?_|refine s4 rfl ‹_› rfl ?_ ?_);first|exact tI|omega|simp only[oZ] at *;omega)|refine s2 rfl fun _ _hb=>?_ |refine sP rfl (hbd) rfl ?_|refine s3 rfl ?_ ?_<;>rintro rfl|refine aU rfl ?_|refine lexE ?_)
      (subst_vars;exact AWp.ret ⟨_,rfl,rfl⟩)
  · have hA:safeA t w=false:=by unfold safeA;revert h;cases tskOk t<;>cases within w t.al<;>simp
    rw [hA]
    refine SpecK.toSpec (SpecK.ofG (Nat.le_refl _) Tryz.func120 rfl (by kernel_rfl) (Nat.le_of_ble_eq_true rfl) ?_);intro Γ hΓ
    (repeat' first|refine sN rfl ?_|((first|refine sA rfl ?_ ?_|refine s4 rfl ‹_› rfl ?_ ?_);first|exact tI|omega|simp only[oZ] at *;omega)|refine s2 rfl fun _ _hb=>?_ |(refine sC rfl (hv) ?_;intro _ _hb)|(refine sC rfl (hw) ?_;intro _ _hb)|refine s3 rfl ?_ ?_<;>rintro rfl|refine aU rfl ?_|refine lexE ?_|(refine aC rfl ?_ ?_<;>rintro ⟨⟩));all_goals try contradiction
    all_goals first
      | (subst_vars;exact AWp.ret ⟨_,rfl,rfl⟩)
      | (exfalso;simp_all;done)
theorem specTeacherT_ok (t:Tea) (hk:t.kn=false):Pure Tryz.prog TB 53 [eTea t] (eI .i64 (if tskOk ⟨t.s,t.q,t.al⟩ then t.al else -1)):=by
  obtain ⟨kn,p,s,q,al⟩:=t
  dsimp only at hk
  subst hk
  have hv:=specTaskValid_ok (TB:=TB) ⟨s,q,al⟩
  refine eN Tryz.func53 rfl (by kernel_rfl) rfl ?_;intro Γ hΓ
  (repeat' first|refine sN rfl ?_|((first|refine sA rfl ?_ ?_|refine s4 rfl ‹_› rfl ?_ ?_);first|exact tI|omega|simp only[oZ] at *;omega)|refine s2 rfl fun _ _hb=>?_ |(refine sC rfl (hv) ?_;intro _ _hb)|refine s3 rfl ?_ ?_<;>rintro rfl|refine aU rfl ?_|refine lexE ?_|refine rE (by kernel_rfl) ?_|(refine aC rfl ?_ ?_<;>rintro ⟨⟩)|refine aK ?_|refine aE ?_|refine aB ?_|refine AWp.ret ⟨_,rfl,?_⟩)
  all_goals first
    | (show E.o _=E.o _;congr;grind)
    | (exfalso;simp at *;done)
theorem askTeacherT_ok (t:Tea) (hk:t.kn=false) (w:W) (hl:w.length≤1099511627776):Pure Tryz.prog TB 99 [eTea t,eT w] (eB (safeA ⟨t.s,t.q,t.al⟩ w)):=by
  obtain ⟨kn,p,s,q,al⟩:=t
  dsimp only at hk
  subst hk
  have h1:=safeWord_ok (TB:=TB) ⟨s,q,al⟩ w hl
  refine eN Tryz.func99 rfl (by kernel_rfl) rfl ?_;intro Γ hΓ
  (repeat' first|refine sN rfl ?_|((first|refine sA rfl ?_ ?_|refine s4 rfl ‹_› rfl ?_ ?_);first|exact tI|omega|simp only[oZ] at *;omega)|refine s2 rfl fun _ _hb=>?_ |refine sP rfl (h1) rfl ?_|refine s3 rfl ?_ ?_<;>rintro rfl|refine aU rfl ?_|refine lexE ?_|refine rE (by kernel_rfl) ?_|(refine aC rfl ?_ ?_<;>rintro ⟨⟩)|refine aK ?_|refine aE ?_|refine aB ?_|refine AWp.ret ⟨_,rfl,?_⟩)
  all_goals rfl
theorem askTsk {t:Tea} (hk:t.kn=false):AskT Tryz.prog TB 53 99 t (if tskOk ⟨t.s,t.q,t.al⟩ then t.al else -1) (safeA ⟨t.s,t.q,t.al⟩):=⟨specTeacherT_ok t hk,askTeacherT_ok t hk⟩
theorem letterAtG_ok (w:W) (i:Nat) (c:UInt8) (hc:w[((i:Nat):Int).toNat]? = some c):Pure Tryz.prog TB 69 [eT w,eI .i64 i] (eI .i64 (if chOk c then (c.toNat:Int) - 97 else -1)):=by
  by_cases h:chOk c=true
  · rw [if_pos h]
    rw [chOk_num,decide_eq_true_eq] at h
    exact letterAt_ok w i c hc h
  · rw [if_neg h]
    rw [chOk_num,decide_eq_true_eq] at h
    have hb:=c.toNat_lt
    refine eN Tryz.func69 rfl (by kernel_rfl) rfl ?_;intro Γ hΓ
    (repeat' first|refine sN rfl ?_|((first|refine sA rfl ?_ ?_|refine s4 rfl ‹_› rfl ?_ ?_);first|exact tI|omega|simp only[oZ] at *;omega)|refine s2 rfl fun _ _hb=>?_|refine s3 rfl ?_ ?_<;>rintro rfl|refine aU rfl ?_|refine lexE ?_|refine rE (by kernel_rfl) ?_|(refine aC rfl ?_ ?_<;>rintro ⟨⟩)|refine aK ?_|refine aE ?_|refine aB ?_|refine AWp.ret ⟨_,rfl,?_⟩)
    all_goals first
      | rfl
      | (exfalso;grind)
theorem inAl_has (al:Int) (c:UInt8):hasB al (if chOk c then (c.toNat:Int) - 97 else -1)=inAl al c:=by
  unfold inAl hasB
  by_cases h:chOk c=true
  · rw [if_pos h,h]
    rw [chOk_num,decide_eq_true_eq] at h
    have e:((c.toNat:Int) - 97).toNat=c.toNat - 97:=by omega
    rw [e]
    simp
    omega
  · rw [if_neg h]
    simp [h]
theorem wordWithinI_ok (w:W) (al:Int) (hl:w.length≤1099511627776):Pure Tryz.prog TB 25 [eT w,eI .i64 al] (eB (within w al)):=by
  have h1:=isAlphabet_ok (TB:=TB) al
  by_cases h0:alphB al=true∧w.length≤50000
  · rw [h0.1] at h1
    have hwk:within w al=w.all (inAl al):=by unfold within;simp [h0.1,h0.2]
    rw [hwk]
    refine SpecK.toSpec (SpecK.ofG (Nat.le_refl _) Tryz.func25 rfl (by kernel_rfl) (Nat.le_of_ble_eq_true rfl) ?_);intro Γ hΓ
    (repeat first|refine sN rfl ?_|((first|refine sA rfl ?_ ?_|refine s4 rfl ‹_› rfl ?_ ?_);first|exact tI|omega|simp only[oZ] at *;omega)|refine s2 rfl fun _ _hb=>?_ |refine sP rfl (h1) rfl ?_|refine s3 rfl ?_ ?_<;>rintro rfl|refine aU rfl ?_|refine lexE ?_)
    (repeat' first|refine sN rfl ?_|((first|refine sA rfl ?_ ?_|refine s4 rfl ‹_› rfl ?_ ?_);first|exact tI|omega|simp only[oZ] at *;omega)|refine s2 rfl fun _ _hb=>?_ |refine sP rfl (h1) rfl ?_|refine s3 rfl ?_ ?_<;>rintro rfl|refine aU rfl ?_|refine lexE ?_|(refine aC rfl ?_ ?_<;>rintro ⟨⟩));all_goals try contradiction
    all_goals first
      | (exfalso;first|omega|simp only[oZ] at *;omega;done)
      | skip
    refine AWp.skip ?_
    (repeat first|refine sN rfl ?_|((first|refine sA rfl ?_ ?_|refine s4 rfl ‹_› rfl ?_ ?_);first|exact tI|omega|simp only[oZ] at *;omega)|refine s2 rfl fun _ _hb=>?_|refine s3 rfl ?_ ?_<;>rintro rfl|refine aU rfl ?_|refine lexE ?_)
    refine AWp.block ?_
    refine AWp.loopV (α:={k:Nat // k≤w.length∧(w.take k).all (inAl al)=true}) [0,1,15] [] rfl rfl (fun ⟨k,hk,ha⟩=>[(16,eI .i64 k)]) (fun ⟨k,hk,ha⟩=>[]) 0 (fun ⟨k,hk,ha⟩=>w.length - k) (⟨0,by omega,rfl⟩) (List.range 0) (rg hΓ rfl) (by (repeat' first|exact tI|rfl|refine And.intro ?_ ?_)<;>(simp[cX,zC,hΓ]<;>rfl)) ?_;rintro ⟨k,hk,ha⟩;(try dsimp only[List.cons_append,List.nil_append])
    by_cases hlt:k < w.length
    · obtain ⟨c,hc⟩:=get_some hlt
      have hc':w[((k:Nat):Int).toNat]? = some c:=by simpa using hc
      have hla:=letterAtG_ok (TB:=TB) w k c hc'
      have hha:=has_ok (TB:=TB) al (if chOk c then (c.toNat:Int) - 97 else -1)
      rw [inAl_has] at hha
      generalize (if chOk c then (c.toNat:Int) - 97 else -1:Int)=l at hla hha
      cases hcc:inAl al c
      · have hst:=all_bad hc (f:=inAl al) hcc
        rw [hcc] at hha
        rw [hst]
        (repeat first|refine sN rfl ?_|((first|refine sA rfl ?_ ?_|refine s4 rfl ‹_› rfl ?_ ?_);first|exact tI|omega|simp only[oZ] at *;omega)|refine s2 rfl fun _ _hb=>?_|refine s3 rfl ?_ ?_<;>rintro rfl|refine aU rfl ?_|refine lexE ?_)
        ((refine aC rfl ?_ ?_<;>rintro ⟨⟩);all_goals try(exfalso;first|omega|simp only[oZ] at *;omega))
        refine AWp.skip ?_
        refine AWp.seq (AWp.block ?_)
        (repeat first|refine sN rfl ?_|((first|refine sA rfl ?_ ?_|refine s4 rfl ‹_› rfl ?_ ?_);first|exact tI|omega|simp only[oZ] at *;omega)|refine s2 rfl fun _ _hb=>?_ |refine sP rfl (hla) rfl ?_|refine sP rfl (hha) rfl ?_|refine s3 rfl ?_ ?_<;>rintro rfl|refine aU rfl ?_|refine lexE ?_)
        (repeat' first|refine sN rfl ?_|((first|refine sA rfl ?_ ?_|refine s4 rfl ‹_› rfl ?_ ?_);first|exact tI|omega|simp only[oZ] at *;omega)|refine s2 rfl fun _ _hb=>?_ |refine sP rfl (hla) rfl ?_|refine sP rfl (hha) rfl ?_|refine s3 rfl ?_ ?_<;>rintro rfl|refine aU rfl ?_|refine lexE ?_|(refine aC rfl ?_ ?_<;>rintro ⟨⟩));all_goals try contradiction
        (subst_vars;exact AWp.ret ⟨_,rfl,rfl⟩)
      · have hst:=all_step hc ha hcc
        rw [hcc] at hha
        (repeat first|refine sN rfl ?_|((first|refine sA rfl ?_ ?_|refine s4 rfl ‹_› rfl ?_ ?_);first|exact tI|omega|simp only[oZ] at *;omega)|refine s2 rfl fun _ _hb=>?_|refine s3 rfl ?_ ?_<;>rintro rfl|refine aU rfl ?_|refine lexE ?_)
        ((refine aC rfl ?_ ?_<;>rintro ⟨⟩);all_goals try(exfalso;first|omega|simp only[oZ] at *;omega))
        refine AWp.skip ?_
        refine AWp.seq (AWp.block ?_)
        (repeat first|refine sN rfl ?_|((first|refine sA rfl ?_ ?_|refine s4 rfl ‹_› rfl ?_ ?_);first|exact tI|omega|simp only[oZ] at *;omega)|refine s2 rfl fun _ _hb=>?_ |refine sP rfl (hla) rfl ?_|refine sP rfl (hha) rfl ?_|refine s3 rfl ?_ ?_<;>rintro rfl|refine aU rfl ?_|refine lexE ?_)
        (repeat' first|refine sN rfl ?_|((first|refine sA rfl ?_ ?_|refine s4 rfl ‹_› rfl ?_ ?_);first|exact tI|omega|simp only[oZ] at *;omega)|refine s2 rfl fun _ _hb=>?_ |refine sP rfl (hla) rfl ?_|refine sP rfl (hha) rfl ?_|refine s3 rfl ?_ ?_<;>rintro rfl|refine aU rfl ?_|refine lexE ?_|(refine aC rfl ?_ ?_<;>rintro ⟨⟩));all_goals try contradiction
        refine AWp.skip ?_
        (repeat first|refine sN rfl ?_|((first|refine sA rfl ?_ ?_|refine s4 rfl ‹_› rfl ?_ ?_);first|exact tI|omega|simp only[oZ] at *;omega)|refine s2 rfl fun _ _hb=>?_|refine s3 rfl ?_ ?_<;>rintro rfl|refine aU rfl ?_|refine lexE ?_)
        refine ⟨⟨k+1,by first|omega|simp only[oZ] at *;omega,hst⟩,by dsimp only;(first|omega|simp only[oZ] at *;omega),[],?_⟩
        simp[cX,zC,hΓ]
    · have hd:=all_done ha (show w.length≤k by omega)
      rw [hd]
      (repeat first|refine sN rfl ?_|((first|refine sA rfl ?_ ?_|refine s4 rfl ‹_› rfl ?_ ?_);first|exact tI|omega|simp only[oZ] at *;omega)|refine s2 rfl fun _ _hb=>?_|refine s3 rfl ?_ ?_<;>rintro rfl|refine aU rfl ?_|refine lexE ?_)
      ((refine aC rfl ?_ ?_<;>rintro ⟨⟩);all_goals try(exfalso;first|omega|simp only[oZ] at *;omega))
      refine AWp.exit ?_
      (repeat first|refine sN rfl ?_|((first|refine sA rfl ?_ ?_|refine s4 rfl ‹_› rfl ?_ ?_);first|exact tI|omega|simp only[oZ] at *;omega)|refine s2 rfl fun _ _hb=>?_|refine s3 rfl ?_ ?_<;>rintro rfl|refine aU rfl ?_|refine lexE ?_)
      (subst_vars;exact AWp.ret ⟨_,rfl,rfl⟩)
  · have hwk:within w al=false:=by unfold within;grind
    rw [hwk]
    by_cases ha:alphB al=true
    · have h00:¬w.length≤50000:=fun h=>h0 ⟨ha,h⟩
      rw [ha] at h1
      refine SpecK.toSpec (SpecK.ofG (Nat.le_refl _) Tryz.func25 rfl (by kernel_rfl) (Nat.le_of_ble_eq_true rfl) ?_);intro Γ hΓ
      (repeat first|refine sN rfl ?_|((first|refine sA rfl ?_ ?_|refine s4 rfl ‹_› rfl ?_ ?_);first|exact tI|omega|simp only[oZ] at *;omega)|refine s2 rfl fun _ _hb=>?_ |refine sP rfl (h1) rfl ?_|refine s3 rfl ?_ ?_<;>rintro rfl|refine aU rfl ?_|refine lexE ?_)
      (repeat' first|refine sN rfl ?_|((first|refine sA rfl ?_ ?_|refine s4 rfl ‹_› rfl ?_ ?_);first|exact tI|omega|simp only[oZ] at *;omega)|refine s2 rfl fun _ _hb=>?_ |refine sP rfl (h1) rfl ?_|refine s3 rfl ?_ ?_<;>rintro rfl|refine aU rfl ?_|refine lexE ?_|(refine aC rfl ?_ ?_<;>rintro ⟨⟩));all_goals try contradiction
      all_goals first
        | (exfalso;first|omega|simp only[oZ] at *;omega;done)
        | (subst_vars;exact AWp.ret ⟨_,rfl,rfl⟩)
    · rw [Bool.not_eq_true _ |>.mp ha] at h1
      refine SpecK.toSpec (SpecK.ofG (Nat.le_refl _) Tryz.func25 rfl (by kernel_rfl) (Nat.le_of_ble_eq_true rfl) ?_);intro Γ hΓ
      (repeat first|refine sN rfl ?_|((first|refine sA rfl ?_ ?_|refine s4 rfl ‹_› rfl ?_ ?_);first|exact tI|omega|simp only[oZ] at *;omega)|refine s2 rfl fun _ _hb=>?_ |refine sP rfl (h1) rfl ?_|refine s3 rfl ?_ ?_<;>rintro rfl|refine aU rfl ?_|refine lexE ?_)
      (repeat' first|refine sN rfl ?_|((first|refine sA rfl ?_ ?_|refine s4 rfl ‹_› rfl ?_ ?_);first|exact tI|omega|simp only[oZ] at *;omega)|refine s2 rfl fun _ _hb=>?_ |refine sP rfl (h1) rfl ?_|refine s3 rfl ?_ ?_<;>rintro rfl|refine aU rfl ?_|refine lexE ?_|(refine aC rfl ?_ ?_<;>rintro ⟨⟩));all_goals try contradiction
      (subst_vars;exact AWp.ret ⟨_,rfl,rfl⟩)
theorem implTaskValid_ok (t:Tsk):Pure Tryz.prog TB 70 [eTsk t] (eB (tskOk t)):=by
  unfold tskOk
  refine eN Tryz.func70 rfl (by kernel_rfl) rfl ?_;intro Γ hΓ
  (repeat' first|refine sN rfl ?_|((first|refine sA rfl ?_ ?_|refine s4 rfl ‹_› rfl ?_ ?_);first|exact tI|omega|simp only[oZ] at *;omega)|refine s2 rfl fun _ _hb=>?_ |(refine sC rfl (implSystemValid_ok t.s) ?_;intro _ _hb)|(refine sC rfl (implAutomatonValid_ok t.q) ?_;intro _ _hb)|(refine sC rfl (isAlphabet_ok t.al) ?_;intro _ _hb)|refine s3 rfl ?_ ?_<;>rintro rfl|refine aU rfl ?_|refine lexE ?_|refine rE (by kernel_rfl) ?_|(refine aC rfl ?_ ?_<;>rintro ⟨⟩)|refine aK ?_|refine aE ?_|refine aB ?_|refine AWp.ret ⟨_,rfl,?_⟩)
  all_goals (show E.o _=E.o _;simp_all)
abbrev teT (p:Aut) (t:Tsk):E:=teE false p t.s t.q t.al
theorem teacherTask_ok (p:Aut) (t:Tsk):Pure Tryz.prog TB 26 [teT p t] (eI .i64 (if tskOk t then t.al else -1)):=by
  have hv:=implTaskValid_ok (TB:=TB) t
  refine eN Tryz.func26 rfl (by kernel_rfl) rfl ?_;intro Γ hΓ
  (repeat' first|refine sN rfl ?_|((first|refine sA rfl ?_ ?_|refine s4 rfl ‹_› rfl ?_ ?_);first|exact tI|omega|simp only[oZ] at *;omega)|refine s2 rfl fun _ _hb=>?_ |(refine sC rfl (hv) ?_;intro _ _hb)|refine s3 rfl ?_ ?_<;>rintro rfl|refine aU rfl ?_|refine lexE ?_|refine rE (by kernel_rfl) ?_|(refine aC rfl ?_ ?_<;>rintro ⟨⟩)|refine aK ?_|refine aE ?_|refine aB ?_|refine AWp.ret ⟨_,rfl,?_⟩)
  all_goals first
    | (show E.o _=E.o _;congr;grind)
    | (exfalso;simp at *;done)
theorem newOracleT_no (p:Aut) {t:Tsk} (ht:tskOk t=false):Pure Tryz.prog TB 50 [teT p t] (.t [(true,[.d (iD 0),.d (.v .nilFunc)]),(false,[.d (bD false)])]):=by
  have hT:=teacherTask_ok (TB:=TB) p t
  rw [if_neg (by simp [ht])] at hT
  refine SpecK.toSpec (SpecK.ofG (Nat.le_refl _) Tryz.func50 rfl (by kernel_rfl) (Nat.le_of_ble_eq_true rfl) ?_);intro Γ hΓ
  (repeat first|refine sN rfl ?_|((first|refine sA rfl ?_ ?_|refine s4 rfl ‹_› rfl ?_ ?_);first|exact tI|omega|simp only[oZ] at *;omega)|refine s2 rfl fun _ _hb=>?_ |refine sP rfl (hT) rfl ?_|refine s3 rfl ?_ ?_<;>rintro rfl|refine aU rfl ?_|refine lexE ?_)
  refine AWp.block ?_
  (repeat first|refine sN rfl ?_|((first|refine sA rfl ?_ ?_|refine s4 rfl ‹_› rfl ?_ ?_);first|exact tI|omega|simp only[oZ] at *;omega)|refine s2 rfl fun _ _hb=>?_|refine s3 rfl ?_ ?_<;>rintro rfl|refine aU rfl ?_|refine lexE ?_)
  ((refine aC rfl ?_ ?_<;>rintro ⟨⟩);all_goals try (simp at _hb;done))
  · (repeat first|refine sN rfl ?_|((first|refine sA rfl ?_ ?_|refine s4 rfl ‹_› rfl ?_ ?_);first|exact tI|omega|simp only[oZ] at *;omega)|refine s2 rfl fun _ _hb=>?_|(refine popO rfl ?_;refine gA rfl ?_;first|refine gS (fun _ _=>q_build rfl rfl (by rfl) (by rfl)) ?_)|refine s3 rfl ?_ ?_<;>rintro rfl|refine aU rfl ?_|refine lexE ?_)
    refine AWp.ret ⟨_,rfl,rfl⟩
abbrev safeM (c:C):C:=.mv 92 [c]
theorem newOracleT_ok [Tabs TB] (p:Aut) {t:Tsk} (ht:tskOk t=true) (ok:W→Prop):∃m,MemSt t ok m∧SpecK Tryz.prog TB 50 0 [] 0 [teT p t] (fun x σ nx=>x=.t [(true,[.d (iD t.al),safeM (.ptr 0 14 0 0)]),(false,[.d (bD true)])]∧σ=saS t m∧nx=5):=by
  obtain ⟨m,hm,hns⟩:=newSafety_ok (TB:=TB) ht ok
  refine ⟨m,hm,?_⟩
  have hT:=teacherTask_ok (TB:=TB) p t
  rw [if_pos ht] at hT
  have hta:alphB t.al=true:=by unfold tskOk at ht;simp only [Bool.and_eq_true] at ht;exact ht.2.2
  unfold alphB at hta
  simp only [decide_eq_true_eq] at hta
  refine SpecK.ren (SpecK.ofG (m:=0) (Nat.le_of_ble_eq_true rfl) Tryz.func50 rfl (by kernel_rfl) (Nat.le_of_ble_eq_true rfl) ?_);intro Γ hΓ
  (repeat first|refine sN rfl ?_|((first|refine sA rfl ?_ ?_|refine s4 rfl ‹_› rfl ?_ ?_);first|exact tI|omega|simp only[oZ] at *;omega)|refine s2 rfl fun _ _hb=>?_ |refine sP rfl (hT) rfl ?_|refine s3 rfl ?_ ?_<;>rintro rfl|refine aU rfl ?_|refine lexE ?_)
  refine AWp.block ?_
  (repeat first|refine sN rfl ?_|((first|refine sA rfl ?_ ?_|refine s4 rfl ‹_› rfl ?_ ?_);first|exact tI|omega|simp only[oZ] at *;omega)|refine s2 rfl fun _ _hb=>?_|refine s3 rfl ?_ ?_<;>rintro rfl|refine aU rfl ?_|refine lexE ?_)
  ((refine aC rfl ?_ ?_<;>rintro ⟨⟩);all_goals try (simp at _hb;done))
  · exfalso;first|omega|simp only[oZ] at *;omega
  · (repeat first|refine sN rfl ?_|((first|refine sA rfl ?_ ?_|refine s4 rfl ‹_› rfl ?_ ?_);first|exact tI|omega|simp only[oZ] at *;omega)|refine s2 rfl fun _ _hb=>?_|refine s3 rfl ?_ ?_<;>rintro rfl|refine aU rfl ?_|refine lexE ?_)
    ((refine aC rfl ?_ ?_<;>rintro ⟨⟩);all_goals try (simp at _hb;done))
    refine AWp.skip ?_
    (repeat first|refine sN rfl ?_|((first|refine sA rfl ?_ ?_|refine s4 rfl ‹_› rfl ?_ ?_);first|exact tI|omega|simp only[oZ] at *;omega)|refine s2 rfl fun _ _hb=>?_|refine s3 rfl ?_ ?_<;>rintro rfl|refine aU rfl ?_|refine lexE ?_)
    (refine pW rfl ?_ rfl (by rfl);refine n_callK [] rfl rfl 0 (hns) (by decide) ⟨rfl,by decide,by decide⟩ rfl (by simp[cX,zC,hΓ,kaC_ren]) ?_;rintro x0 σ1 nx1 ⟨rfl,rfl,rfl⟩ _)
    (repeat first|refine sN rfl ?_|((first|refine sA rfl ?_ ?_|refine s4 rfl ‹_› rfl ?_ ?_);first|exact tI|omega|simp only[oZ] at *;omega)|refine s2 rfl fun _ _hb=>?_|(refine popO rfl ?_;refine gA rfl ?_;first|refine gS (fun _ _=>q_mv rfl) ?_)|refine s3 rfl ?_ ?_<;>rintro rfl)
    (repeat first|refine sN rfl ?_|((first|refine sA rfl ?_ ?_|refine s4 rfl ‹_› rfl ?_ ?_);first|exact tI|omega|simp only[oZ] at *;omega)|refine s2 rfl fun _ _hb=>?_|(refine popO rfl ?_;refine gA rfl ?_;first|refine gS (fun _ _=>q_build rfl rfl (by rfl) (by rfl)) ?_)|refine s3 rfl ?_ ?_<;>rintro rfl)
    refine lexE ?_
    refine AWp.ret ⟨_,rfl,[1,2,3,4,5],.t [(true,[.d (iD t.al),safeM (.ptr 0 14 0 0)]),(false,[.d (bD true)])],saS t m,⟨by intro i hi;omega,by decide⟩,rfl,by (repeat' first|exact tI|rfl|refine And.intro ?_ ?_)<;>(simp[cX,zC,hΓ,kaC_ren]<;>rfl),rfl,rfl,rfl⟩
def teaOk (te:Tea):Bool:=if te.kn then autOk te.p else tskOk ⟨te.s,te.q,te.al⟩
def teaAl (te:Tea):Int:=if te.kn then te.p.al else te.al
noncomputable def teaL (te:Tea) (w:W):Bool:=if te.kn then LA te.p w else LS ⟨te.s,te.q,te.al⟩ w
def teaFew (te:Tea) (ok:W→Prop):Prop:=te.kn=false→Few ⟨te.s,te.q,te.al⟩ ok
abbrev okA (al:Int):W→Prop:=fun w=>wordOn (lsB al) w∧w.length≤1048576
theorem askS {tabs:List (Nat×Obj)} [Tabs ⟨tabs,none⟩] {t:Tsk} {ok:W→Prop} (ht:tskOk t=true) (hsub:∀w,ok w→okA t.al w) (hfew:Few t ok) {r:Nat}:AskV Tryz.prog ⟨tabs,some (taskH t ok,r)⟩ (safeM (rawP r)) (LS t) ok:=
  ⟨rfl,fun hx ha hw=>q_callMv (es:=[eT _]) hx (by simp [evs,ha]) rfl (safe_hid ht hfew hw (fun c hc=>lsB_num ((hsub _ hw).1 c hc)) (hsub _ hw).2) rfl⟩
theorem tab_h {tabs:List (Nat×Obj)} {h:Option (Hid×Nat)} {b:Nat} {vals:List Value} (hT:HasTab ⟨tabs,none⟩ b vals):HasTab ⟨tabs,h⟩ b vals:=⟨hT.out⟩
theorem tabs_h {tabs:List (Nat×Obj)} {h:Option (Hid×Nat)} (hT:Tabs ⟨tabs,none⟩):Tabs ⟨tabs,h⟩:=by
  cases hT
  constructor<;>(apply tab_h;assumption)
theorem both {X:Amb→Ctx→C→Prop} {Y:Prop} (h:∀(TB1:Amb) (Γ1:Ctx) (c1:C),Γ1.V.nx=0→X TB1 Γ1 c1) (hk:(∀(TB1:Amb) (Γ1:Ctx) (c1:C),Γ1.V.nx=0→X TB1 Γ1 c1)→Y):Y:=hk h
theorem AskV.sub {P:Program} {c:C} {L:W→Bool} {ok ok':W→Prop} (h:AskV P TB c L ok) (hs:∀w,ok' w→ok w):AskV P TB c L ok':=⟨h.pur,fun hx ha hw=>h.ask hx ha (hs _ hw)⟩
end Go.Am
