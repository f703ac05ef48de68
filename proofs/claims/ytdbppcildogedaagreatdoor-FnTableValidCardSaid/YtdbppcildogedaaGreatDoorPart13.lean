/-
  Tasks, plainly: sets of pairs, their closure, the safe words.
-/
import Derived.Test.YtdbppcildogedaaGreatDoorPart12
import Derived.Test.YtdbppcildogedaaGreatDoorPart10
import Derived.Test.YtdbppcildogedaaGreatDoorPart11
import Derived.Test.YtdbppcildogedaaGreatDoorPart6
set_option linter.constructorNameAsVariable false
set_option linter.unusedSimpArgs false
set_option linter.unusedVariables false
namespace Go.Am
open Go
set_option linter.unusedVariables false
def mStep (es:List Edg) (l:Int) (m:Nat):Nat:=es.foldl (fun a e=>if e.l=l∧m.testBit e.f.toNat=true then a ||| 2 ^ e.t.toNat else a) 0
theorem foldl_bit {α:Type} {p:α→Prop} [DecidablePred p] {g:α→Nat} {j:Nat}:∀(l:List α) (a:Nat),(l.foldl (fun a e=>if p e then a ||| g e else a) a).testBit j=true↔a.testBit j=true∨∃e∈l,p e∧(g e).testBit j=true
  | [],a=>by simp
  | x :: l,a=>by
    rw [List.foldl_cons,foldl_bit l]
    by_cases h:p x
    · rw [if_pos h,Nat.testBit_or,Bool.or_eq_true]
      constructor
      · rintro ((h1|h1)|⟨e,h1,h2⟩)
        · exact .inl h1
        · exact .inr ⟨x,by simp,h,h1⟩
        · exact .inr ⟨e,by simp [h1],h2⟩
      · rintro (h1|⟨e,h1,h2,h3⟩)
        · exact .inl (.inl h1)
        · rcases List.mem_cons.1 h1 with rfl|h1
          · exact .inl (.inr h3)
          · exact .inr ⟨e,h1,h2,h3⟩
    · rw [if_neg h]
      constructor
      · rintro (h1|⟨e,h1,h2⟩)
        · exact .inl h1
        · exact .inr ⟨e,by simp [h1],h2⟩
      · rintro (h1|⟨e,h1,h2,h3⟩)
        · exact .inl h1
        · rcases List.mem_cons.1 h1 with rfl|h1
          · exact absurd h2 h
          · exact .inr ⟨e,h1,h2,h3⟩
theorem mStep_bit {es:List Edg} {l:Int} {m j:Nat}:(mStep es l m).testBit j=true↔∃e∈es,(e.l=l∧m.testBit e.f.toNat=true)∧e.t.toNat=j:=by
  unfold mStep
  rw [foldl_bit]
  simp [Nat.testBit_two_pow]
structure Tsk where
  s:Sys
  q:Aut
  al:Int
def tskOk (t:Tsk):Bool:=sysOk t.s && (autOk t.q && alphB t.al)
def hidL (t:Tsk):List Int:=(letters t.s.al).filter fun l=>!bitB t.al l.toNat
def sStep (s:Sys) (l:Int) (m:Nat):Nat:=if bitB s.al l.toNat then mStep s.es l m else m
abbrev PS:=Nat→Nat
def mvP (t:Tsk) (l:Int) (F:PS):PS:=fun p'=>(List.range t.q.nx.length).foldl (fun a p=>if goA t.q p l=(p':Int) then a ||| sStep t.s l (F p) else a) 0
theorem mvP_bit {t:Tsk} {l:Int} {F:PS} {p' j:Nat}:(mvP t l F p').testBit j=true↔∃p,p < t.q.nx.length∧goA t.q p l=(p':Int)∧(sStep t.s l (F p)).testBit j=true:=by
  unfold mvP
  rw [foldl_bit]
  simp
inductive Rch (t:Tsk) (F0:PS):Nat→Nat→Prop
  | base {p j:Nat}:(F0 p).testBit j=true→Rch t F0 p j
  | step {p j:Nat} {e:Edg}:Rch t F0 p j→e∈t.s.es→e.l∈hidL t→e.f.toNat=j→Rch t F0 (goA t.q p e.l).toNat e.t.toNat
open Classical in
noncomputable def clP (t:Tsk) (F0:PS):PS:=fun p=>(List.range 16).foldl (fun a j=>if Rch t F0 p j then a ||| 2 ^ j else a) 0
open Classical in
theorem clP_bit {t:Tsk} {F0:PS} {p j:Nat}:(clP t F0 p).testBit j=true↔j < 16∧Rch t F0 p j:=by
  unfold clP
  rw [foldl_bit]
  simp only [Nat.zero_testBit,Bool.false_eq_true,false_or,List.mem_range,Nat.testBit_two_pow,decide_eq_true_eq]
  constructor
  · rintro ⟨e,h1,h2,rfl⟩;exact ⟨h1,h2⟩
  · rintro ⟨h1,h2⟩;exact ⟨j,h1,h2,rfl⟩
structure PSok (t:Tsk) (F:PS):Prop where
  lt:∀p,F p < 65536
  z:∀p,t.q.nx.length≤p→F p=0
theorem bits_lt {m:Nat} (h:∀j,m.testBit j=true→j < 16):m < 65536:=by
  have:m < 2 ^ 16:=Nat.lt_pow_two_of_testBit m fun i hi=>by
    cases hb:m.testBit i
    · rfl
    · have:=h i hb;omega
  omega
theorem lt_bits {m j:Nat} (h:m < 65536) (hb:m.testBit j=true):j < 16:=by
  rcases Nat.lt_or_ge j 16 with h1|h1
  · exact h1
  · have:m.testBit j=false:=Nat.testBit_lt_two_pow (Nat.lt_of_lt_of_le h (Nat.pow_le_pow_right (n:=2) (by omega) h1))
    rw [this] at hb;cases hb
theorem bits_zero {m:Nat} (h:∀j,m.testBit j=false):m=0:=Nat.eq_of_testBit_eq fun j=>by rw [h j];simp
section
variable {t:Tsk} (ht:tskOk t=true)
include ht set_option linter.unusedSectionVars false
theorem tsk_edge {e:Edg} (he:e∈t.s.es):0≤e.f∧e.f < 16∧0≤e.t∧e.t < 16∧0≤e.l∧e.l < 6:=by
  unfold tskOk at ht
  simp only [Bool.and_eq_true] at ht
  have h1:=sysOk_edge ht.1 he
  have h2:=sysOk_head ht.1
  unfold edgeOk at h1
  grind
theorem tsk_aut:autOk t.q=true:=by
  unfold tskOk at ht
  simp only [Bool.and_eq_true] at ht
  exact ht.2.1
theorem hidL_in {l:Int} (h:l∈hidL t):0≤l∧l < 6∧bitB t.s.al l.toNat=true:=by
  unfold hidL at h
  have h1:=lettersTo_in (List.mem_filter.1 h).1
  exact ⟨h1.1,by omega,h1.2.2⟩
theorem sStep_lt {l:Int} {m:Nat} (hm:m < 65536):sStep t.s l m < 65536:=by
  unfold sStep
  split
  · refine bits_lt fun j hj=>?_
    obtain ⟨e,h1,_,rfl⟩:=mStep_bit.1 hj
    have:=tsk_edge ht h1;omega
  · exact hm
theorem mvP_ok {l:Int} (hl:0≤l∧l < 6) {F:PS} (h:PSok t F):PSok t (mvP t l F):=by
  refine ⟨fun p=>bits_lt fun j hj=>?_,fun p hp=>bits_zero fun j=>?_⟩
  · obtain ⟨q,h1,h2,h3⟩:=mvP_bit.1 hj
    exact lt_bits (sStep_lt ht (h.lt q)) h3
  · cases hb:(mvP t l F p).testBit j
    · rfl
    · obtain ⟨q,h1,h2,h3⟩:=mvP_bit.1 hb
      have:=goA_in (tsk_aut ht) h1 hl.1 hl.2
      omega
theorem Rch.lt {F0:PS} (h:PSok t F0) {p j:Nat} (hr:Rch t F0 p j):p < t.q.nx.length∧j < 16:=by
  induction hr with
  | @base p j hb=>
    refine ⟨?_,lt_bits (h.lt p) hb⟩
    rcases Nat.lt_or_ge p t.q.nx.length with h1|h1
    · exact h1
    · rw [h.z p h1] at hb;simp at hb
  | @step p j e _ he hl _ ih=>
    have h1:=tsk_edge ht he
    have h2:=goA_in (tsk_aut ht) ih.1 h1.2.2.2.2.1 h1.2.2.2.2.2
    omega
theorem clP_ok {F0:PS} (h:PSok t F0):PSok t (clP t F0):=by
  refine ⟨fun p=>bits_lt fun j hj=>(clP_bit.1 hj).1,fun p hp=>bits_zero fun j=>?_⟩
  cases hb:(clP t F0 p).testBit j
  · rfl
  · have:=((clP_bit.1 hb).2.lt ht h).1
    omega
theorem clP_eq {F0 G:PS} (h0:PSok t F0) (hG:∀p,t.q.nx.length≤p→G p=0) (h1:∀p j,(F0 p).testBit j=true→(G p).testBit j=true) (h2:∀p j,(G p).testBit j=true→Rch t F0 p j)
    (h3:∀p l j,p < t.q.nx.length→l∈hidL t→(mStep t.s.es l (G p)).testBit j=true→(G (goA t.q p l).toNat).testBit j=true):G=clP t F0:=by
  have key:∀ {p j:Nat},Rch t F0 p j→(G p).testBit j=true:=fun {p j} hr=>by
    induction hr with
    | base hb=>exact h1 _ _ hb
    | @step p j e hr he hl hf ih=>exact h3 p e.l _ (hr.lt ht h0).1 hl (mStep_bit.2 ⟨e,he,⟨rfl,by rw [hf];exact ih⟩,rfl⟩)
  funext p
  refine Nat.eq_of_testBit_eq fun j=>?_
  rw [Bool.eq_iff_iff,clP_bit]
  exact ⟨fun h=>⟨((h2 p j h).lt ht h0).2,h2 p j h⟩,fun h=>key h.2⟩
end
def zeroP:PS:=fun p=>if p=0 then 1 else 0
noncomputable def startP (t:Tsk):PS:=clP t zeroP
noncomputable def nextP (t:Tsk) (l:Int) (F:PS):PS:=clP t (mvP t l F)
def badP (t:Tsk) (F:PS):Bool:=(List.range t.q.nx.length).any fun p=>decide (F p≠0) && !(t.q.ac.getD p false)
noncomputable def safeP (t:Tsk):PS→W→Bool
  | F,[]=>!badP t F
  | F,c::w=>!badP t F && safeP t (nextP t ((c.toNat:Int) - 97) F) w
noncomputable def LS (t:Tsk) (w:W):Bool:=safeP t (startP t) w
section
variable {t:Tsk} (ht:tskOk t=true)
include ht
theorem zeroP_ok:PSok t zeroP:=by
  have h:=autOk_head (tsk_aut ht)
  refine ⟨fun p=>by unfold zeroP;split<;>omega,fun p hp=>by unfold zeroP;rw [if_neg (by omega)]⟩
theorem startP_ok:PSok t (startP t):=clP_ok ht (zeroP_ok ht)
theorem nextP_ok {l:Int} (hl:0≤l∧l < 6) {F:PS} (h:PSok t F):PSok t (nextP t l F):=clP_ok ht (mvP_ok ht hl h)
end
end Go.Am
namespace Go.Am
open Go Go.Proofs
set_option maxHeartbeats 1000000
attribute [local irreducible] QOp AOp Lex LexO AWp Spec
variable {TB:Amb}
theorem setN_bit:∀ {l:List Int},l.Pairwise (· < ·)→(∀x∈l,0≤x)→∀j:Nat,(setN l).testBit j=true↔(j:Int)∈l
  | [],_,_,j=>by simp [setN]
  | x :: r,hp,h0,j=>by
    have hx:=h0 x (by simp)
    have hp2:=List.pairwise_cons.1 hp
    have ih:=setN_bit hp2.2 (fun y hy=>h0 y (by simp [hy])) j
    obtain ⟨m,h1,h2⟩:=setN_cons hp hx
    rw [h1,Nat.testBit_two_pow_mul]
    rw [h2,Nat.testBit_two_pow_mul] at ih
    rw [List.mem_cons,←ih]
    by_cases hj:j=x.toNat
    · subst hj
      simp
      omega
    · have hne:¬(j:Int)=x:=by omega
      have hb:x.toNat≤j→(2*m+1).testBit (j - x.toNat)=(2*m).testBit (j - x.toNat):=fun hle=>by
        obtain ⟨i,hi⟩:∃i,j - x.toNat=i+1:=⟨j - x.toNat - 1,by omega⟩
        rw [hi,Nat.testBit_succ,Nat.testBit_succ]
        congr 1;omega
      by_cases hle:x.toNat≤j
      · rw [hb hle];simp [hne]
      · simp [hle,hne]
def bitsTo (m k:Nat):List Int:=((List.range k).filter (m.testBit ·)).map Int.ofNat
theorem bitsTo_succ (m k:Nat):bitsTo m (k+1)=bitsTo m k++if m.testBit k then [(k:Int)] else []:=by
  unfold bitsTo
  rw [List.range_succ,List.filter_append,List.map_append]
  cases h:m.testBit k<;>simp [h]
theorem setN_bits (m:Nat):∀k,setN (bitsTo m k)=m % 2 ^ k
  | 0=>by simp [bitsTo,setN,Nat.mod_one]
  | k+1=>by
    rw [bitsTo_succ,setN_app,setN_bits m k,Nat.pow_succ,Nat.mod_mul,Nat.testBit_eq_decide_div_mod_eq]
    by_cases h:m / 2 ^ k % 2=1
    · rw [h];simp [setN]
    · rw [show m / 2 ^ k % 2=0 by omega];simp [setN]
theorem bitsTo_sorted (m k:Nat):(bitsTo m k).Pairwise (· < ·):=by
  unfold bitsTo
  rw [List.pairwise_map]
  exact (List.pairwise_lt_range.filter _).imp fun h=>by simpa using h
theorem bitsTo_in {m k:Nat} {x:Int} (h:x∈bitsTo m k):0≤x∧x < k∧m.testBit x.toNat=true:=by
  unfold bitsTo at h
  obtain ⟨n,hn,rfl⟩:=List.mem_map.1 h
  obtain ⟨h1,h2⟩:=List.mem_filter.1 hn
  have:=List.mem_range.1 h1
  exact ⟨by simp,by simp;omega,by simpa using h2⟩
theorem bits_16 {m:Nat} (h:m < 65536):m=setN (bitsTo m 16):=by rw [setN_bits];omega
def orTo (es:List Edg) (l:Int) (xs:List Int):Nat:=xs.foldl (fun a x=>a ||| setN (toL es x.toNat l.toNat)) 0
theorem orTo_bit {s:Sys} (hs:sysOk s=true) {l:Int} {j:Nat}:∀ {xs:List Int} {a:Nat},(xs.foldl (fun a x=>a ||| setN (toL s.es x.toNat l.toNat)) a).testBit j=true↔a.testBit j=true∨∃x∈xs,(j:Int)∈toL s.es x.toNat l.toNat
  | [],a=>by simp
  | x::xs,a=>by
    rw [List.foldl_cons,orTo_bit hs,Nat.testBit_or,Bool.or_eq_true]
    have h1:=toL_sorted hs s.es.length x.toNat l.toNat
    rw [List.take_length] at h1
    have h2:=setN_bit h1 (fun y hy=>(toL_in hs (k:=s.es.length) (by rw [List.take_length];exact hy)).1) j
    rw [h2]
    simp only [List.mem_cons,exists_eq_or_imp,or_assoc]
theorem orTo_eq {s:Sys} (hs:sysOk s=true) {l:Int} (hl:0≤l) {m:Nat} (hm:m < 65536):orTo s.es l (bitsTo m 16)=mStep s.es l m:=by
  refine Nat.eq_of_testBit_eq fun j=>?_
  rw [Bool.eq_iff_iff]
  unfold orTo
  rw [orTo_bit hs,mStep_bit]
  simp only [Nat.zero_testBit,Bool.false_eq_true,false_or]
  constructor
  · rintro ⟨x,hx,hj⟩
    obtain ⟨h1,h2,h3⟩:=bitsTo_in hx
    unfold toL at hj
    obtain ⟨e,he,het⟩:=List.mem_map.1 hj
    obtain ⟨he1,he2⟩:=List.mem_filter.1 he
    simp only [Bool.and_eq_true,decide_eq_true_eq] at he2
    exact ⟨e,he1,⟨by omega,by rw [show e.f.toNat=x.toNat by omega];exact h3⟩,by omega⟩
  · rintro ⟨e,he,⟨h1,h2⟩,h3⟩
    have hb:=sysOk_edge hs he
    unfold edgeOk at hb
    simp only [Bool.and_eq_true,decide_eq_true_eq] at hb
    have hf:=lt_bits hm h2
    refine ⟨e.f,?_,?_⟩
    · unfold bitsTo
      exact List.mem_map.2 ⟨e.f.toNat,List.mem_filter.2 ⟨List.mem_range.2 hf,h2⟩,by simp;omega⟩
    · unfold toL
      refine List.mem_map.2 ⟨e,List.mem_filter.2 ⟨he,?_⟩,by omega⟩
      simp only [Bool.and_eq_true,decide_eq_true_eq]
      omega
theorem orTo_lt {s:Sys} (hs:sysOk s=true) {l:Int} {xs:List Int}:orTo s.es l xs < 65536:=bits_lt fun j hj=>by
  unfold orTo at hj
  rw [orTo_bit hs] at hj
  simp only [Nat.zero_testBit,Bool.false_eq_true,false_or] at hj
  obtain ⟨x,_,hx⟩:=hj
  have:=toL_in hs (k:=s.es.length) (by rw [List.take_length];exact hx)
  omega
theorem iOr_big {a b:Nat} (ha:a < 2 ^ 62) (hb:b < 2 ^ 62):iOr .i64 (a:Nat) (b:Nat)=((a ||| b:Nat):Int):=by
  have h0:a ||| b < 2 ^ 62:=Nat.or_lt_two_pow ha hb
  unfold iOr
  have h1:(BitVec.ofInt IntKind.i64.bits (a:Int) ||| BitVec.ofInt IntKind.i64.bits (b:Int)).toNat=a ||| b:=by
    have e:IntKind.i64.bits=64:=rfl
    rw [e]
    simp only [BitVec.toNat_or,BitVec.ofInt_natCast,BitVec.toNat_ofNat]
    rw [Nat.mod_eq_of_lt (by omega),Nat.mod_eq_of_lt (by omega)]
  rw [h1]
  exact IntWalk.i64_in _ (by omega)
theorem step_ok [Tabs TB] {s:Sys} (hs:sysOk s=true) {l:Int} (hl:0≤l∧l < 6) {m:Nat} (hm:m < 65536):Pure Tryz.prog TB 166 [.o (.ip (mvRow s.es)),eI .i64 (m:Nat),eI .i64 l] (eI .i64 (mStep s.es l m:Nat)):=by
  rw [←orTo_eq hs hl.1 hm]
  rw [bits_16 hm]
  have hb:∀x∈bitsTo m 16,0≤x∧x < 16:=fun x hx=>⟨(bitsTo_in hx).1,(bitsTo_in hx).2.1⟩
  have hp:=bitsTo_sorted m 16
  rw [←bits_16 hm]
  conv=>arg 4;rw [bits_16 hm]
  generalize bitsTo m 16=xs at *
  refine SpecK.toSpec (SpecK.ofG (Nat.le_refl _) Tryz.func166 rfl (by kernel_rfl) (Nat.le_of_ble_eq_true rfl) ?_);intro Γ hΓ
  (repeat first|refine sN rfl ?_|((first|refine sA rfl ?_ ?_|refine s4 rfl ‹_› rfl ?_ ?_);first|exact tI|omega|simp only[oZ] at *;omega)|refine s2 rfl fun _ _hb=>?_|refine s3 rfl ?_ ?_<;>rintro rfl|refine aU rfl ?_|refine lexE ?_)
  refine AWp.block ?_
  refine AWp.loopV (α:={k:Nat // k≤xs.length}) [0,2] [] rfl rfl (fun ⟨k,hk⟩=>[(1,eI .i64 (setN (xs.drop k):Nat)),(7,eI .i64 (orTo s.es l (xs.take k):Nat))]) (fun ⟨k,hk⟩=>[]) 0 (fun ⟨k,hk⟩=>xs.length - k) (⟨0,by omega⟩) (List.range 0) (rg hΓ rfl) (by (repeat' first|exact tI|rfl|refine And.intro ?_ ?_)<;>(simp[cX,zC,hΓ]<;>rfl)) ?_;rintro ⟨k,hk⟩;(try dsimp only[List.cons_append,List.nil_append])
  by_cases hkl:k < xs.length
  · obtain ⟨x,hx⟩:=get_some hkl
    have hd:=drop_some hx
    have hxb:=hb x (List.mem_of_getElem? hx)
    have hpd:(x::xs.drop (k+1)).Pairwise (· < ·):=by rw [←hd];exact hp.sublist (List.drop_sublist _ _)
    have hlt:setN (x::xs.drop (k+1)) < 2 ^ 16:=by
      refine setN_lt hpd fun y hy=>?_
      rw [←hd] at hy;exact hb y (List.mem_of_mem_drop hy)
    have hps:=setN_pos (x:=x) (l:=xs.drop (k+1))
    have hct:=setN_ctz hpd hxb.1 (by omega)
    have hia:=iAnd_pred hpd hxb.1 (by omega)
    rw [←hd] at hlt hps hct hia
    have htz:=tz_ok (TB:=TB) (setN (xs.drop k)) (by omega) (by omega)
    rw [hct] at htz
    have ex:((x.toNat:Nat):Int)=x:=by omega
    rw [ex] at htz
    have hto:=toL_sorted hs s.es.length x.toNat l.toNat
    rw [List.take_length] at hto
    have hs2:setN (toL s.es x.toNat l.toNat) < 65536:=setN_lt (t:=16) hto fun y hy=>toL_in hs (k:=s.es.length) (by rw [List.take_length];exact hy)
    have hs1:orTo s.es l (xs.take k) < 65536:=orTo_lt hs
    have hor:=iOr_big (a:=orTo s.es l (xs.take k)) (b:=setN (toL s.es x.toNat l.toNat)) (by omega) (by omega)
    have hst:orTo s.es l (xs.take (k+1))=orTo s.es l (xs.take k) ||| setN (toL s.es x.toNat l.toNat):=by unfold orTo;rw [List.take_add_one,hx,List.foldl_append];rfl
    rw [←hst] at hor
    (repeat first|refine sN rfl ?_|((first|refine sA rfl ?_ ?_|refine s4 rfl ‹_› rfl ?_ ?_);first|exact tI|omega|simp only[oZ] at *;omega)|refine s2 rfl fun _ _hb=>?_|refine s3 rfl ?_ ?_<;>rintro rfl|refine aU rfl ?_|refine lexE ?_)
    ((refine aC rfl ?_ ?_<;>rintro ⟨⟩);all_goals try(exfalso;first|omega|simp only[oZ] at *;omega))
    refine AWp.skip ?_
    refine AWp.seq (AWp.block ?_)
    (repeat first|refine sN rfl ?_|((first|refine sA rfl ?_ ?_|refine s4 rfl ‹_› rfl ?_ ?_);first|exact tI|omega|simp only[oZ] at *;omega)|refine s2 rfl fun _ _hb=>?_|refine s3 rfl ?_ ?_<;>rintro rfl|refine aU rfl ?_|refine lexE ?_)
    refine rG (flN []) (by kernel_rfl) ?_
    (repeat first|refine sN rfl ?_|((first|refine sA rfl ?_ ?_|refine s4 rfl ‹_› rfl ?_ ?_);first|exact tI|omega|simp only[oZ] at *;omega)|refine s2 rfl fun _ _hb=>?_ |refine sP rfl (htz) rfl ?_|(refine popO rfl ?_;refine gA rfl ?_;first|refine gS (fun _ _=>q_loadIp0 rfl (mv_get hxb hl)) ?_)|refine s3 rfl ?_ ?_<;>rintro rfl|refine aU rfl ?_|refine lexE ?_)
    refine ⟨⟨k+1,by first|omega|simp only[oZ] at *;omega⟩,by dsimp only;(first|omega|simp only[oZ] at *;omega),[],?_⟩
    simp[cX,zC,hΓ,hor,hia]
  · obtain rfl:k=xs.length:=by omega
    rw [List.take_length]
    (repeat first|refine sN rfl ?_|((first|refine sA rfl ?_ ?_|refine s4 rfl ‹_› rfl ?_ ?_);first|exact tI|omega|simp only[oZ] at *;omega)|refine s2 rfl fun _ _hb=>?_|refine s3 rfl ?_ ?_<;>rintro rfl|refine aU rfl ?_|refine lexE ?_)
    (refine aC rfl ?_ ?_<;>rintro ⟨⟩)
    · exfalso
      rw [List.drop_length] at _hb
      simp [setN] at _hb
    refine AWp.exit ?_
    (repeat first|refine sN rfl ?_|((first|refine sA rfl ?_ ?_|refine s4 rfl ‹_› rfl ?_ ?_);first|exact tI|omega|simp only[oZ] at *;omega)|refine s2 rfl fun _ _hb=>?_|refine s3 rfl ?_ ?_<;>rintro rfl|refine aU rfl ?_|refine lexE ?_)
    (subst_vars;exact AWp.ret ⟨_,rfl,rfl⟩)
end Go.Am
namespace Go.Am
open Go
set_option linter.unusedVariables false
section
variable {P:Program} {TB:Amb} {Γ:Ctx} {d:Option Tmp} {ty:TypeId} {pos:String} {af:Array Edge} {g:Option (Nat×Bool)} {f:Env} {σ:Store} {nx:Nat}
variable {K:E→Store→Nat→Prop}
theorem q_empty {t e:TypeId} {k b:Nat} {z:List Value} [hl:HasSl P t e k b] [hz:HasZe P e z] (hzk:z.length=k) (hok:z.all zOk=true):QOp P TB Γ ⟨d,.buildSlice t 0 #[],ty,pos,af,g⟩ f σ nx .e:=
  q_of_runI fun V ρ h1 h2=>by
    obtain ⟨cur,h3,h4,h5⟩:=run_sliceLit (es:=[]) hl.out hz.out hzk hok h1 rfl rfl rfl rfl (by simp) (by simp)
    have hw:∀b,b < V.w.heap.size→(V.w.alloc (.cells cur e)).heap[b]? = V.w.heap[b]?:=fun b hb=>heap_push_old V.w _ b hb
    obtain ⟨hi,he⟩:=R.Inv.grow h2 (w:=V.w.alloc (.cells cur e)) rfl rfl rfl (by simp) hw
    exact ⟨_,{ V with w:=V.w.alloc (.cells cur e) },h3,he,hi,rfl,⟨_,rfl⟩⟩
theorem n_appendG {t e:TypeId} {k b:Nat} {z:List Value} {s x:Operand} {news:List (List C)} {ex:E} [hl:HasSl P t e k b] [hz:HasZe P e z]
    (hs:ev f s=some .e) (hx:ev f x=some ex) (hsrc:srcRows σ k ex=some news) (hkk:∀r∈news,r.length=k) (hzk:z.length=k) (hb0:0 < b) (hb:news.length*b≤140737488355328)
    (hK0:news=[]→∀b,∃y,(∀V:View,ERel V y (.slice b 0 0))∧K y σ nx) (hK:news≠[]→K (.o (.arr nx k 0 news.length)) ((nx,.cells e k news)::σ) (nx+1)):AOp P TB Γ ⟨d,.call ⟨.builtin .append,#[s,x],#[t,t]⟩,ty,pos,af,g⟩ f σ nx K:=
  n_of_run fun V ρ h1 h2 h3=>by
    subst h3
    obtain ⟨i,hu,hi,hsz,hby⟩:=sl_inv hl.out
    have hz':=hz.out
    simp only [zeF,hi,Option.bind_some,Option.map_eq_some_iff] at hz'
    obtain ⟨zv,hzv,hzz⟩:=hz'
    have hzc:zv.cells.size=k:=by rw [←hzk,←hzz];simp
    obtain ⟨sb,hsv⟩:=h1.get (x:=s) (by simp [Op.operands,Call.operands]) hs
    have hxr:=src_rel h2 hsrc hkk (h1.get (x:=x) (by simp [Op.operands,Call.operands]) hx)
    have hexec:∀w,(execOp ρ ⟨d,.call ⟨.builtin .append,#[s,x],#[t,t]⟩,ty,pos,af,g⟩).run P w=((Builtin.append_ #[t,t] ty #[ρ s,ρ x]).run P w).andThen fun v w'=>.ok (.value v) w':=fun w=>by
      simp only [execOp,resolve,invoke,builtin,List.map_toArray,List.map_cons,List.map_nil,pure_bind,bind_pure_comp,Sem.run_map]
    have hmax:news.length≤maxLen:=by
      have:news.length≤news.length*b:=Nat.le_mul_of_pos_right _ hb0
      unfold maxLen;omega
    have hint:((news.length:Nat):Int)≤9223372036854775807:=by
      have:news.length≤news.length*b:=Nat.le_mul_of_pos_right _ hb0
      omega
    rw [hsv] at hexec
    generalize hvx:ρ x=vx at *
    have nothing0:=fun h=>hK0 h sb
    have nothing:news=[]→∀v,(Builtin.append_ #[t,t] ty #[.slice sb 0 0,vx]).run P V.w=.ok (.slice sb 0 0) V.w→v=Value.slice sb 0 0→
        ∃v V' xx σ',(execOp ρ ⟨d,.call ⟨.builtin .append,#[s,x],#[t,t]⟩,ty,pos,af,g⟩).run P V.w=.ok (.value v) V'.w∧Ext V V'∧Inv TB Γ V' σ'∧ERel V' xx v∧K xx σ' V'.nx:=fun hn v hr _=>
      let ⟨y,k1,k2⟩:=nothing0 hn
      ⟨.slice sb 0 0,V,y,σ,by rw [hexec,hr];rfl,Ext.refl _,h2,k1 V,k2⟩
    rcases hxr with ⟨rfl,hnil⟩|⟨xa,xc,xv,rfl,hxk,hxcell⟩
    · exact nothing hnil _ (run_append_noth hu hi V.w sb 0 0 (Nat.le_refl _) ty) rfl
    · have hnewsl:(flatV news.length k xv).length=news.length*i.size:=by rw [flatV_length,hsz]
      have hnewsc:∀j u,(flatV news.length k xv)[j]? = some u→V.w.cell? (xa.add j)=some u:=by
        intro q u hq
        obtain ⟨a,b,rfl,ha,hb,rfl⟩:=flatV_inv hq
        have hbl:b < news[a].length:=by rw [hxk _ (List.getElem_mem ha)];exact hb
        exact (hxcell a news[a] b news[a][b] (List.getElem?_eq_getElem ha) (List.getElem?_eq_getElem hbl)).1
      rcases Nat.eq_zero_or_pos news.length with hm0|hm0
      · have hnn:news=[]:=List.length_eq_zero_iff.1 hm0
        refine nothing hnn _ ?_ rfl
        subst hnn
        cases sb<;>simp [Builtin.append_,run_underlying hu,sizeOf,typeInfo,hi,Builtin.lenOf,Builtin.firstCells,loadCells,loadCellsFrom,storeCells,go_sem]
      · have hne:news≠[]:=fun h=>by subst h;simp at hm0
        have hrun:(Builtin.append_ #[t,t] ty #[.slice sb 0 0,.slice (some xa) news.length xc]).run P V.w=.ok (.slice (some ⟨V.w.heap.size,0,none⟩) news.length (grownCap V.w news.length 0 e))
            (V.w.drew.alloc (.cells ((flatV news.length k xv).toArray++Builtin.zeroCells zv.cells (grownCap V.w news.length 0 e - news.length)) e)):=by
          cases sb with
          | none=>
            have hr:=run_append_nil (P:=P) V.w t ty e i zv hu hi hzv xa news.length xc _ hnewsl hnewsc hm0 (by omega) (by rw [hby];omega)
            rw [hr]
          | some sa=>
            have hr:=run_append_grow (P:=P) V.w t ty e i zv hu hi hzv sa 0 0 [] (by simp) (fun j v hj=>by simp at hj) xa news.length xc _ hnewsl hnewsc (by omega) (by simpa using hint) (by rw [hby];exact growslice_fits (by omega) (by simpa using hb))
            simpa using hr
        have hcap:=grownCap_ge V.w news.length 0 e
        have hcm:=grownCap_le_maxLen V.w news.length 0 e hmax
        generalize grownCap V.w news.length 0 e=cap' at *
        let w':=V.w.drew.alloc (.cells ((flatV news.length k xv).toArray++Builtin.zeroCells zv.cells (cap' - news.length)) e)
        have ee:Ext V (newV V V.w.heap.size cap' False w'):=newV_ext (by simp [w']) fun b hb=>heap_push_old V.w.drew _ b (h2.iLt b hb)
        obtain ⟨hi',he'⟩:=h2.alloc (c:=cap') (nl:=False) (w:=w') (ob:=.cells e k news) rfl rfl rfl rfl (by simp [w']) (fun b hb=>heap_push_old V.w.drew _ b hb) (by
          have hr:(newV V V.w.heap.size cap' False w').ρ V.nx=V.w.heap.size:=by simp [newV]
          have hc:(newV V V.w.heap.size cap' False w').cap V.nx=cap':=by simp [newV]
          refine .inr ⟨by simp [newV],(flatV news.length k xv).toArray++Builtin.zeroCells zv.cells (cap' - news.length),?_,?_,?_,?_,hkk,?_⟩
          · have:=heap_push_new V.w.drew (.cells ((flatV news.length k xv).toArray++Builtin.zeroCells zv.cells (cap' - news.length)) e)
            rw [hr];exact this
          · rw [hc]
            simp only [Array.size_append,List.size_toArray,flatV_length,Builtin.zeroCells,Array.size_map,Array.size_range,hzc,←Nat.add_mul]
            congr 1;omega
          · rw [hc];exact hcap
          · rw [hc];exact hcm
          · intro a r j c hi hj
            have hil:=(List.getElem?_eq_some_iff.1 hi).1
            have hjl:j < k:=by rw [←hxk r (List.mem_of_getElem? hi)];exact (List.getElem?_eq_some_iff.1 hj).1
            have h10:=flatV_get (vs:=xv) hil hjl
            refine ⟨xv a j,?_,(hxcell a r j c hi hj).2.ext ee⟩
            have hlt:=(List.getElem?_eq_some_iff.1 h10).1
            rw [Array.getElem?_append_left (by simpa using hlt)]
            simpa using h10)
        refine ⟨.slice (some ⟨V.w.heap.size,0,none⟩) news.length cap',_,_,(V.nx,.cells e k news)::σ,?_,he',hi',?_,hK hne⟩
        · rw [hexec,hrun];rfl
        · have:=@CRel.arr (newV V V.w.heap.size cap' False w') V.nx k 0 news.length (by simp [newV]) (by simp [newV]) (by simp [newV];exact hcap)
          have hr:(newV V V.w.heap.size cap' False w').ρ V.nx=V.w.heap.size:=by simp [newV]
          have hc:(newV V V.w.heap.size cap' False w').cap V.nx=cap':=by simp [newV]
          rw [hr,hc,Nat.zero_mul,Nat.sub_zero] at this
          exact this
theorem n_appendE {t e:TypeId} {k b:Nat} {z:List Value} {s x:Operand} {news:List (List C)} {ex:E} [hl:HasSl P t e k b] [hz:HasZe P e z]
    (hs:ev f s=some .e) (hx:ev f x=some ex) (hsrc:srcRows σ k ex=some news) (hkk:∀r∈news,r.length=k) (hzk:z.length=k) (hb0:0 < b) (hb:news.length*b≤140737488355328)
    (hK0:news=[]→K .e σ nx) (hK:news≠[]→K (.o (.arr nx k 0 news.length)) ((nx,.cells e k news)::σ) (nx+1)):AOp P TB Γ ⟨d,.call ⟨.builtin .append,#[s,x],#[t,t]⟩,ty,pos,af,g⟩ f σ nx K:=n_appendG hs hx hsrc hkk hzk hb0 hb (fun h b=>⟨.e,fun V=>⟨b,rfl⟩,hK0 h⟩) hK
theorem n_appendV {t e:TypeId} {k b:Nat} {z:List Value} {s x:Operand} {news:List (List C)} {ex:E} [hl:HasSl P t e k b] [hz:HasZe P e z]
    (hs:ev f s=some .e) (hx:ev f x=some ex) (hsrc:srcRows σ k ex=some news) (hkk:∀r∈news,r.length=k) (hzk:z.length=k) (hb0:0 < b) (hb:news.length*b≤140737488355328)
    (hK0:news=[]→∀b,K (.o (.d (.v (.slice b 0 0)))) σ nx) (hK:news≠[]→K (.o (.arr nx k 0 news.length)) ((nx,.cells e k news)::σ) (nx+1)):AOp P TB Γ ⟨d,.call ⟨.builtin .append,#[s,x],#[t,t]⟩,ty,pos,af,g⟩ f σ nx K:=n_appendG hs hx hsrc hkk hzk hb0 hb (fun h b=>⟨.o (.d (.v (.slice b 0 0))),fun V=>(show CRel V (.d (.v (.slice b 0 0))) (.slice b 0 0) from .d (.v rfl)),hK0 h b⟩) hK
end
section
variable {P:Program} {TB:Amb} {Γ:Ctx} {N:Nat}
theorem AWp.namesV {c:Code} {Q:Exit→Env→Store→Nat→Prop} {L0 Lk:List (Nat×E)} {σ Sk:Store} {nx:Nat} (ks is:List Nat) (hk:keepE L0 ks=some Lk) (hi:keepS σ is=some Sk) (v:List (Nat×E)) (s:Store) (l:List Nat)
    (hl:(∀i,i < Γ.V.nx→l[i]? = some i)∧l.Nodup) (h0:EnvSub (nm l nx) (look L0) (v++Lk)∧StoreSub (nm l nx) σ (s++Sk)) (h:AWp P TB Γ N c Q (look (v++Lk)) (s++Sk) l.length):AWp P TB Γ N c Q (look L0) σ nx:=
  AWp.names l (v++Lk) (s++Sk) hl.1 hl.2 h0.1 h0.2 h
end
abbrev Nst:=List (Value×List Int)
def sI (l:Nst):List (Value×List Value):=l.map fun x=>(x.1,x.2.map (.int .i64))
def rawR (l:Nst):List (List C):=l.map fun x=>[.d (.v x.1)]
abbrev ownI (xs:List Int):List (List C):=xs.map iRowC
theorem arr_inv {V:View} {i k off n:Nat} {v:Value} (h:CRel V (.arr i k off n) v):(V.nl i∧off=0∧n=0∧v=.slice none 0 0)∨(¬V.nl i∧off+n≤V.cap i∧v=.slice (some ⟨V.ρ i,off*k,none⟩) n (V.cap i - off)):=by
  cases h with
  | nil _ h=>exact .inl ⟨h,rfl,rfl,rfl⟩
  | arr _ h1 h2=>exact .inr ⟨h1,h2,rfl⟩
theorem sI_app (l m:Nst):sI (l++m)=sI l++sI m:=List.map_append
theorem rawR_app (l m:Nst):rawR (l++m)=rawR l++rawR m:=List.map_append
theorem rawR_len (l:Nst):(rawR l).length=l.length:=List.length_map _
theorem rawR_ren (r:Nat→Nat) (l:Nst):(rawR l).map (C.renL r)=rawR l:=by
  unfold rawR
  rw [List.map_map]
  rfl
theorem ownI_len (l:List Int):(ownI l).length=l.length:=List.length_map _
section
variable {P:Program} {TB:Amb} {Γ:Ctx} {N:Nat} {V:View} {σ:Store} {a i s:Nat} {T Ta:TypeId} {R1 R2:List (List C)} {xs:List Int} {l1 l2:Nst}
theorem sI_mem {l:Nst} {x:Value×List Value} (h:x∈sI l):∃y∈l,x=(y.1,y.2.map (.int .i64)):=by
  obtain ⟨y,hy,rfl⟩:=List.mem_map.1 h
  exact ⟨y,hy,rfl⟩
theorem Inv.put (h:Inv TB Γ V σ) (ha:look σ a=some (.cells Ta 1 (R1++[.arr i 1 0 xs.length]::R2))) (hi:look σ i=some (.cells T 1 (ownI xs))) (hs:look σ s=some (.sld T (sI (l1++l2)))) :
    ∃v,Inv TB Γ V ((a,.cells Ta 1 (R1++[.d (.v v)]::R2))::(s,.sld T (sI (l1++(v,xs)::l2)))::kill i σ):=by
  have has:a≠s:=fun e=>by rw [e,hs] at ha;cases ha
  have his:i≠s:=fun e=>by rw [e,hs] at hi;cases hi
  have hai:a≠i:=fun e=>by
    rw [e,hi] at ha
    injection ha with ha;injection ha with _ _ ha
    have h1:(ownI xs)[R1.length]? = some [.arr i 1 0 xs.length]:=by rw [ha];simp
    rw [List.getElem?_map,Option.map_eq_some_iff] at h1
    obtain ⟨x,_,hx⟩:=h1
    cases hx
  rcases h.st.obj a _ ha with ⟨_,h0⟩|⟨hna,cur,h2,h3,h4,h5,h6,h7⟩
  · simp at h0
  obtain ⟨v,hv,hc⟩:=h7 R1.length [.arr i 1 0 xs.length] 0 (.arr i 1 0 xs.length) (by simp) rfl
  have hc:=arr_inv hc
  have hsl:scal v=true:=by rcases hc with ⟨_,_,_,rfl⟩|⟨_,_,rfl⟩<;>rfl
  have hblk:∀b,blkV v b→¬V.nl i∧b=V.ρ i:=by
    rintro b ⟨o,n,c,rfl⟩
    rcases hc with ⟨_,_,_,hw⟩|⟨hn,_,hw⟩
    · cases hw
    · injection hw with hw;injection hw with hw;injection hw with hw;exact ⟨hn,hw⟩
  have hslot:SlotR V.w T v (xs.map (.int .i64)):=by
    rcases h.st.obj i _ hi with ⟨g1,g2⟩|⟨hni,cur',g2,g3,g4,g5,g6,g7⟩
    · have:xs=[]:=by simpa using g2
      subst this
      rcases hc with ⟨_,_,_,rfl⟩|⟨hn,_⟩
      · exact .inl ⟨rfl,rfl⟩
      · exact absurd g1 hn
    · rcases hc with ⟨hn,_⟩|⟨_,hle,rfl⟩
      · exact absurd hn hni
      · refine .inr ⟨V.ρ i,V.cap i,cur',by simp,g2,by simpa using g3,by rw [ownI_len] at g4;simpa using g4,g5,fun j x hj=>?_⟩
        rw [List.getElem?_map,Option.map_eq_some_iff] at hj
        obtain ⟨n,hn,rfl⟩:=hj
        obtain ⟨w,hw,hcw⟩:=g7 j [.d (.v (.int .i64 n))] 0 (.d (.v (.int .i64 n))) (by simp [ownI,hn]) rfl
        have:w=.int .i64 n:=CRel.val hcw
        subst this
        exact ⟨by simpa using hw,rfl⟩
  refine ⟨v,?_⟩
  have look':∀id o,look ((a,.cells Ta 1 (R1++[.d (.v v)]::R2))::(s,.sld T (sI (l1++(v,xs)::l2)))::kill i σ) id=some o→
      (id=a∧o=.cells Ta 1 (R1++[.d (.v v)]::R2))∨(id=s∧o=.sld T (sI (l1++(v,xs)::l2)))∨(id≠a∧id≠s∧id≠i∧look σ id=some o):=fun id o ho=>by
    rw [look_cons] at ho
    by_cases h1:a=id
    · rw [if_pos h1] at ho;injection ho with ho;exact .inl ⟨h1.symm,ho.symm⟩
    · rw [if_neg h1,look_cons] at ho
      by_cases h2:s=id
      · rw [if_pos h2] at ho;injection ho with ho;exact .inr (.inl ⟨h2.symm,ho.symm⟩)
      · rw [if_neg h2,look_kill] at ho
        by_cases h3:id=i
        · rw [if_pos h3] at ho;cases ho
        · rw [if_neg h3] at ho;exact .inr (.inr ⟨Ne.symm h1,Ne.symm h2,h3,ho⟩)
  have hsb:∀b,blk V s (.sld T (sI (l1++(v,xs)::l2))) b→blk V s (.sld T (sI (l1++l2))) b∨(¬V.nl i∧b=V.ρ i):=by
    rintro b ⟨x,hx,hb⟩
    obtain ⟨y,hy,rfl⟩:=sI_mem hx
    rcases List.mem_append.1 hy with hy|hy
    · exact .inl ⟨_,List.mem_map.2 ⟨y,List.mem_append_left _ hy,rfl⟩,hb⟩
    · rcases List.mem_cons.1 hy with rfl|hy
      · exact .inr (hblk b hb)
      · exact .inl ⟨_,List.mem_map.2 ⟨y,List.mem_append_right _ hy,rfl⟩,hb⟩
  have hos:=h.st.obj s _ hs
  have hdis:∀x∈sI (l1++l2),∀b,blkV x.1 b→¬blkV v b:=fun x hx b hb hb'=>by
    obtain ⟨hn,rfl⟩:=hblk b hb'
    exact h.st.inj s i _ _ hs hi (Ne.symm his) hos.1 hn _ ⟨x,hx,hb⟩ rfl
  have src:∀id o,look ((a,.cells Ta 1 (R1++[.d (.v v)]::R2))::(s,.sld T (sI (l1++(v,xs)::l2)))::kill i σ) id=some o→¬V.nl id→∀b,blk V id o b→∃id0 o0,look σ id0=some o0∧¬V.nl id0∧blk V id0 o0 b∧(id0=id∨id0=i∧id=s):=fun id o ho hn b hb=>by
    rcases look' id o ho with ⟨rfl,rfl⟩|⟨rfl,rfl⟩|⟨_,_,_,ho⟩
    · exact ⟨_,_,ha,hn,hb,.inl rfl⟩
    · rcases hsb b hb with hb|⟨h1,rfl⟩
      · exact ⟨_,_,hs,hn,hb,.inl rfl⟩
      · exact ⟨_,_,hi,h1,rfl,.inr ⟨rfl,rfl⟩⟩
    · exact ⟨_,_,ho,hn,hb,.inl rfl⟩
  have noi:∀id o,look ((a,.cells Ta 1 (R1++[.d (.v v)]::R2))::(s,.sld T (sI (l1++(v,xs)::l2)))::kill i σ) id=some o→id≠i:=fun id o ho=>by
    rcases look' id o ho with ⟨rfl,rfl⟩|⟨rfl,rfl⟩|⟨_,_,h3,_⟩
    · exact hai
    · exact Ne.symm his
    · exact h3
  refine ⟨h.os,h.tape,h.output,h.old,h.iLt,h.iNew,h.ext,⟨fun id o ho=>?_,fun id o ho=>?_,fun id o ho hn b hb=>?_,fun id id' o o' ho ho' hne hn hn' b hb hb'=>?_⟩,fun id o ho hn b hb=>?_,h.tabs,h.hid.same rfl (fun _ h=>h) (fun _ h=>.inl h) fun b ⟨id,o,ho,hn,hb⟩=>let ⟨id0,o0,g1,g2,g3,_⟩:=src id o ho hn b hb;⟨id0,o0,g1,g2,g3⟩⟩
  · rcases look' id o ho with ⟨rfl,rfl⟩|⟨rfl,rfl⟩|⟨_,_,_,ho⟩
    · refine .inr ⟨hna,cur,h2,h3,by simpa using h4,h5,fun r hr=>?_,fun q r j c hq hj=>?_⟩
      · rcases List.mem_append.1 hr with hr|hr
        · exact h6 r (List.mem_append_left _ hr)
        · rcases List.mem_cons.1 hr with rfl|hr
          · rfl
          · exact h6 r (List.mem_append_right _ (List.mem_cons_of_mem _ hr))
      · by_cases hq0:q=R1.length
        · subst hq0
          simp at hq
          subst hq
          have hj0:j=0:=by have:=(List.getElem?_eq_some_iff.1 hj).1;simp at this;omega
          subst hj0
          simp at hj
          subst hj
          exact ⟨v,hv,.d (.v hsl)⟩
        · refine h7 q r j c ?_ hj
          rw [←hq]
          rcases Nat.lt_or_ge q R1.length with h8|h8
          · rw [List.getElem?_append_left h8,List.getElem?_append_left h8]
          · rw [List.getElem?_append_right h8,List.getElem?_append_right h8]
            obtain ⟨k,hk⟩:∃k,q - R1.length=k+1:=⟨q - R1.length - 1,by omega⟩
            rw [hk];rfl
    · refine ⟨hos.1,?_,fun x hx=>?_⟩
      · have hp:=hos.2.1
        rw [sI_app,List.pairwise_append] at hp
        rw [sI_app,List.pairwise_append]
        refine ⟨hp.1,List.pairwise_cons.2 ⟨fun y hy b hb hb'=>hdis y (by rw [sI_app];exact List.mem_append_right _ hy) b hb' hb,hp.2.1⟩,fun x hx y hy=>?_⟩
        rcases List.mem_cons.1 hy with rfl|hy
        · exact fun b hb=>hdis x (by rw [sI_app];exact List.mem_append_left _ hx) b hb
        · exact hp.2.2 x hx y hy
      · obtain ⟨y,hy,rfl⟩:=sI_mem hx
        rcases List.mem_append.1 hy with hy|hy
        · exact hos.2.2 _ (List.mem_map.2 ⟨y,List.mem_append_left _ hy,rfl⟩)
        · rcases List.mem_cons.1 hy with rfl|hy
          · exact hslot
          · exact hos.2.2 _ (List.mem_map.2 ⟨y,List.mem_append_right _ hy,rfl⟩)
    · exact h.st.obj id o ho
  · rcases look' id o ho with ⟨rfl,rfl⟩|⟨rfl,rfl⟩|⟨_,_,_,ho⟩
    · exact h.st.lt _ _ ha
    · exact h.st.lt _ _ hs
    · exact h.st.lt _ _ ho
  · obtain ⟨id0,o0,g1,g2,g3,_⟩:=src id o ho hn b hb
    exact h.st.free _ _ g1 g2 b g3
  · obtain ⟨id0,o0,g1,g2,g3,g4⟩:=src id o ho hn b hb
    obtain ⟨id0',o0',g1',g2',g3',g4'⟩:=src id' o' ho' hn' b hb'
    refine h.st.inj id0 id0' _ _ g1 g1' ?_ g2 g2' b g3 g3'
    have n1:=noi id o ho
    have n2:=noi id' o' ho'
    rintro rfl
    rcases g4 with rfl|⟨rfl,rfl⟩<;>rcases g4' with rfl|⟨e1,rfl⟩
    · exact hne rfl
    · exact n1 e1
    · exact n2 rfl
    · exact hne rfl
  · obtain ⟨id0,o0,g1,g2,g3,_⟩:=src id o ho hn b hb
    exact h.live _ _ g1 g2 b g3
theorem AWp.put {c:Code} {Q:Exit→Env→Store→Nat→Prop} {f:Env} {nx:Nat} (a i s:Nat) (R1 R2:List (List C)) (xs:List Int) (l1 l2:Nst) (ha:look σ a=some (.cells Ta 1 (R1++[.arr i 1 0 xs.length]::R2))) (hi:look σ i=some (.cells T 1 (ownI xs))) (hs:look σ s=some (.sld T (sI (l1++l2))))
    (h:∀v,AWp P TB Γ N c Q f ((a,.cells Ta 1 (R1++[.d (.v v)]::R2))::(s,.sld T (sI (l1++(v,xs)::l2)))::kill i σ) nx):AWp P TB Γ N c Q f σ nx:=by
  intro V ac hr
  obtain ⟨v,hi'⟩:=hr.inv.put ha hi hs
  exact h v V ac ⟨hr.env,hr.lt,hr.size,hi',hr.nx,hr.defers⟩
theorem Inv.take {v:Value} (h:Inv TB Γ V σ) (ha:look σ a=some (.cells Ta 1 (R1++[.d (.v v)]::R2))) (hs:look σ s=some (.sld T (sI (l1++(v,xs)::l2)))) :
    ∃V',V'.w=V.w∧V'.nx=V.nx+1∧Ext V V'∧Inv TB Γ V' ((a,.cells Ta 1 (R1++[.arr V.nx 1 0 xs.length]::R2))::(V.nx,.cells T 1 (ownI xs))::(s,.sld T (sI (l1++l2)))::σ):=by
  have has:a≠s:=fun e=>by rw [e,hs] at ha;cases ha
  have hos:=h.st.obj s _ hs
  have hsn:=h.st.lt _ _ hs
  have han:=h.st.lt _ _ ha
  have hmem:((v,xs.map (.int .i64)):Value×List Value)∈sI (l1++(v,xs)::l2):=List.mem_map.2 ⟨(v,xs),by simp,rfl⟩
  obtain ⟨b0,cap,nl,hb0,hcr,hob⟩:∃b0 cap nl,(¬nl→blkV v b0)∧CRel (newV V b0 cap nl V.w) (.arr V.nx 1 0 xs.length) v∧ObjRel (newV V b0 cap nl V.w) V.nx (.cells T 1 (ownI xs)):=by
    rcases hos.2.2 _ hmem with ⟨h1,h2⟩|⟨b,cap,cur,h1,h2,h3,h4,h5,h6⟩
    · have h1:v=.slice none 0 0:=h1
      have hx0:xs=[]:=by simpa using h2
      subst h1;subst hx0
      exact ⟨0,0,True,fun h=>absurd trivial h,.nil (by simp [newV]) (by simp [newV]),.inl ⟨by simp [newV],rfl⟩⟩
    · have h1:v=.slice (some ⟨b,0,none⟩) (xs.map (Value.int .i64)).length cap:=h1
      rw [List.length_map] at h1 h4
      refine ⟨b,cap,False,fun _=>⟨_,_,_,h1⟩,?_,.inr ⟨by simp [newV],cur,by simpa [newV] using h2,by simpa [newV] using h3,by simpa [newV] using h4,by simpa [newV] using h5,fun r hr=>?_,fun q r j c hq hj=>?_⟩⟩
      · rw [h1]
        have:=@CRel.arr (newV V b cap False V.w) V.nx 1 0 xs.length (by simp [newV]) (by simp [newV]) (by simpa [newV] using h4)
        simpa [newV] using this
      · obtain ⟨n,_,rfl⟩:=List.mem_map.1 hr;rfl
      · rw [List.getElem?_map,Option.map_eq_some_iff] at hq
        obtain ⟨n,hn,rfl⟩:=hq
        have hj0:j=0:=by have:=(List.getElem?_eq_some_iff.1 hj).1;simp at this;omega
        subst hj0
        simp at hj
        subst hj
        exact ⟨.int .i64 n,by simpa using (h6 q (.int .i64 n) (by simp [hn])).1,.d (.v rfl)⟩
  have e:Ext V (newV V b0 cap nl V.w):=newV_ext (Nat.le_refl _) fun _ _=>rfl
  have hρ:(newV V b0 cap nl V.w).ρ V.nx=b0:=by simp [newV]
  have hnl:(newV V b0 cap nl V.w).nl V.nx↔nl:=by simp [newV]
  refine ⟨newV V b0 cap nl V.w,rfl,rfl,e,?_⟩
  have look':∀id o,look ((a,.cells Ta 1 (R1++[.arr V.nx 1 0 xs.length]::R2))::(V.nx,.cells T 1 (ownI xs))::(s,.sld T (sI (l1++l2)))::σ) id=some o→
      (id=a∧o=.cells Ta 1 (R1++[.arr V.nx 1 0 xs.length]::R2))∨(id=V.nx∧o=.cells T 1 (ownI xs))∨(id=s∧o=.sld T (sI (l1++l2)))∨(id≠a∧id≠s∧look σ id=some o):=fun id o ho=>by
    rw [look_cons] at ho
    by_cases h1:a=id
    · rw [if_pos h1] at ho;injection ho with ho;exact .inl ⟨h1.symm,ho.symm⟩
    · rw [if_neg h1,look_cons] at ho
      by_cases h2:V.nx=id
      · rw [if_pos h2] at ho;injection ho with ho;exact .inr (.inl ⟨h2.symm,ho.symm⟩)
      · rw [if_neg h2,look_cons] at ho
        by_cases h3:s=id
        · rw [if_pos h3] at ho;injection ho with ho;exact .inr (.inr (.inl ⟨h3.symm,ho.symm⟩))
        · rw [if_neg h3] at ho;exact .inr (.inr (.inr ⟨Ne.symm h1,Ne.symm h3,ho⟩))
  have hsub:∀x∈sI (l1++l2),x∈sI (l1++(v,xs)::l2):=fun x hx=>by
    obtain ⟨y,hy,rfl⟩:=sI_mem hx
    refine List.mem_map.2 ⟨y,?_,rfl⟩
    rcases List.mem_append.1 hy with hy|hy
    · exact List.mem_append_left _ hy
    · exact List.mem_append_right _ (List.mem_cons_of_mem _ hy)
  have hp:=hos.2.1
  rw [sI_app,List.pairwise_append] at hp
  have hp2:=List.pairwise_cons.1 hp.2.1
  have hdis:∀x∈sI (l1++l2),∀b,blkV x.1 b→¬blkV v b:=fun x hx b hb hb'=>by
    rw [sI_app] at hx
    rcases List.mem_append.1 hx with hx|hx
    · exact hp.2.2 x hx _ (List.mem_cons_self ..) b hb hb'
    · exact hp2.1 x hx b hb' hb
  have src:∀id o,look ((a,.cells Ta 1 (R1++[.arr V.nx 1 0 xs.length]::R2))::(V.nx,.cells T 1 (ownI xs))::(s,.sld T (sI (l1++l2)))::σ) id=some o→¬(newV V b0 cap nl V.w).nl id→∀b,blk (newV V b0 cap nl V.w) id o b→
      ∃id0 o0,look σ id0=some o0∧¬V.nl id0∧blk V id0 o0 b∧(id0=id∨id0=s∧id=V.nx∧blkV v b)∧(id=s→∃x∈sI (l1++l2),blkV x.1 b):=fun id o ho hn b hb=>by
    rcases look' id o ho with ⟨rfl,rfl⟩|⟨rfl,rfl⟩|⟨rfl,rfl⟩|⟨_,h3,ho⟩
    · exact ⟨_,_,ha,fun h=>hn ((e.nl _ han).2 h),by have:b=_:=hb;rw [e.ρ _ han] at this;exact this,.inl rfl,fun e=>absurd e has⟩
    · have hb:b=_:=hb
      rw [hρ] at hb
      subst hb
      have hv:=hb0 fun h=>hn (hnl.2 h)
      exact ⟨_,_,hs,hos.1,⟨_,hmem,hv⟩,.inr ⟨rfl,rfl,hv⟩,fun e=>by omega⟩
    · obtain ⟨x,hx,hb⟩:=hb
      exact ⟨_,_,hs,hos.1,⟨x,hsub x hx,hb⟩,.inl rfl,fun _=>⟨x,hx,hb⟩⟩
    · have hlt:=h.st.lt _ _ ho
      exact ⟨_,_,ho,fun h=>hn ((e.nl _ hlt).2 h),(blk_ext e hlt).1 hb,.inl rfl,fun e=>absurd e h3⟩
  refine ⟨h.os,h.tape,h.output,h.old,h.iLt,h.iNew,h.ext.trans e,⟨fun id o ho=>?_,fun id o ho=>?_,fun id o ho hn b hb=>?_,fun id id' o o' ho ho' hne hn hn' b hb hb'=>?_⟩,fun id o ho hn b hb=>?_,h.tabs,h.hid.same rfl (fun _ h=>h) (fun _ h=>.inl h) fun b ⟨id,o,ho,hn,hb⟩=>let ⟨id0,o0,g1,g2,g3,_⟩:=src id o ho hn b hb;⟨id0,o0,g1,g2,g3⟩⟩
  · rcases look' id o ho with ⟨rfl,rfl⟩|⟨rfl,rfl⟩|⟨rfl,rfl⟩|⟨_,_,ho⟩
    · rcases h.st.obj _ _ ha with ⟨_,h0⟩|⟨hna,cur,h2,h3,h4,h5,h6,h7⟩
      · simp at h0
      refine .inr ⟨fun h=>hna ((e.nl _ han).1 h),cur,by rw [e.ρ _ han];exact h2,by rw [e.cap _ han];exact h3,by rw [e.cap _ han];simpa using h4,by rw [e.cap _ han];exact h5,fun r hr=>?_,fun q r j c hq hj=>?_⟩
      · rcases List.mem_append.1 hr with hr|hr
        · exact h6 r (List.mem_append_left _ hr)
        · rcases List.mem_cons.1 hr with rfl|hr
          · rfl
          · exact h6 r (List.mem_append_right _ (List.mem_cons_of_mem _ hr))
      · by_cases hq0:q=R1.length
        · subst hq0
          simp at hq
          subst hq
          have hj0:j=0:=by have:=(List.getElem?_eq_some_iff.1 hj).1;simp at this;omega
          subst hj0
          simp at hj
          subst hj
          obtain ⟨w,hw,hc⟩:=h7 R1.length [.d (.v v)] 0 (.d (.v v)) (by simp) rfl
          have hw2:w=v:=CRel.val hc
          subst hw2
          exact ⟨w,hw,hcr⟩
        · obtain ⟨w,hw,hc⟩:=h7 q r j c (by
            rw [←hq]
            rcases Nat.lt_or_ge q R1.length with h8|h8
            · rw [List.getElem?_append_left h8,List.getElem?_append_left h8]
            · rw [List.getElem?_append_right h8,List.getElem?_append_right h8]
              obtain ⟨k,hk⟩:∃k,q - R1.length=k+1:=⟨q - R1.length - 1,by omega⟩
              rw [hk];rfl) hj
          exact ⟨w,hw,hc.ext e⟩
    · exact hob
    · refine ⟨fun h=>hos.1 ((e.nl _ hsn).1 h),?_,fun x hx=>hos.2.2 x (hsub x hx)⟩
      rw [sI_app,List.pairwise_append]
      exact ⟨hp.1,hp2.2,fun x hx y hy=>hp.2.2 x hx y (List.mem_cons_of_mem _ hy)⟩
    · exact (h.st.obj id o ho).keep e (h.st.lt id o ho) fun _ _ _=>rfl
  · rcases look' id o ho with ⟨rfl,rfl⟩|⟨rfl,rfl⟩|⟨rfl,rfl⟩|⟨_,_,ho⟩
    · exact Nat.lt_succ_of_lt han
    · exact Nat.lt_succ_self _
    · exact Nat.lt_succ_of_lt hsn
    · exact Nat.lt_succ_of_lt (h.st.lt _ _ ho)
  · obtain ⟨id0,o0,g1,g2,g3,_⟩:=src id o ho hn b hb
    exact h.st.free _ _ g1 g2 b g3
  · obtain ⟨id0,o0,g1,g2,g3,g4,g5⟩:=src id o ho hn b hb
    obtain ⟨id0',o0',g1',g2',g3',g4',g5'⟩:=src id' o' ho' hn' b hb'
    by_cases hee:id0=id0'
    · rcases g4 with g4|⟨k1,k2,k3⟩<;>rcases g4' with g4'|⟨k1',k2',k3'⟩
      · exact hne (by rw [←g4,←g4',hee])
      · obtain ⟨x,hx,hxb⟩:=g5 (by rw [←g4,hee,k1'])
        exact hdis x hx b hxb k3'
      · obtain ⟨x,hx,hxb⟩:=g5' (by rw [←g4',←hee,k1])
        exact hdis x hx b hxb k3
      · exact hne (by rw [k2,k2'])
    · exact h.st.inj id0 id0' _ _ g1 g1' hee g2 g2' b g3 g3'
  · obtain ⟨id0,o0,g1,g2,g3,_⟩:=src id o ho hn b hb
    exact h.live _ _ g1 g2 b g3
theorem AWp.take {c:Code} {Q:Exit→Env→Store→Nat→Prop} {f:Env} {nx:Nat} (a s:Nat) (R1 R2:List (List C)) (v:Value) (xs:List Int) (l1 l2:Nst) (ha:look σ a=some (.cells Ta 1 (R1++[.d (.v v)]::R2))) (hs:look σ s=some (.sld T (sI (l1++(v,xs)::l2))))
    (h:AWp P TB Γ N c Q f ((a,.cells Ta 1 (R1++[.arr nx 1 0 xs.length]::R2))::(nx,.cells T 1 (ownI xs))::(s,.sld T (sI (l1++l2)))::σ) (nx+1)):AWp P TB Γ N c Q f σ nx:=by
  intro V ac hr
  obtain ⟨V',h1,h2,e,hi⟩:=hr.inv.take ha hs
  have:=h V' ac ⟨hr.env.ext e,hr.lt,hr.size,by have:=hr.nx;subst this;exact hi,by rw [h2,hr.nx],hr.defers⟩
  rw [h1] at this
  exact this
theorem AWp.sld0 {c:Code} {Q:Exit→Env→Store→Nat→Prop} {f:Env} {nx:Nat} (T:TypeId) (h:AWp P TB Γ N c Q f ((nx,.sld T (sI []))::σ) (nx+1)):AWp P TB Γ N c Q f σ nx:=by
  intro V ac hr
  have hi:=hr.inv
  have e:Ext V (newV V 0 0 False V.w):=newV_ext (Nat.le_refl _) fun _ _=>rfl
  have hnx:=hr.nx
  subst hnx
  have look':∀id o,look ((V.nx,.sld T (sI []))::σ) id=some o→(id=V.nx∧o=.sld T (sI []))∨(id≠V.nx∧look σ id=some o):=fun id o ho=>by
    rw [look_cons] at ho
    by_cases h1:V.nx=id
    · rw [if_pos h1] at ho;injection ho with ho;exact .inl ⟨h1.symm,ho.symm⟩
    · rw [if_neg h1] at ho;exact .inr ⟨Ne.symm h1,ho⟩
  have src:∀id o,look ((V.nx,.sld T (sI []))::σ) id=some o→∀b,blk (newV V 0 0 False V.w) id o b→look σ id=some o∧blk V id o b∧((newV V 0 0 False V.w).nl id↔V.nl id):=fun id o ho b hb=>by
    rcases look' id o ho with ⟨rfl,rfl⟩|⟨_,ho⟩
    · obtain ⟨x,hx,_⟩:=hb;cases hx
    · have hlt:=hi.st.lt _ _ ho
      exact ⟨ho,(blk_ext e hlt).1 hb,e.nl _ hlt⟩
  refine h (newV V 0 0 False V.w) ac ⟨hr.env.ext e,hr.lt,hr.size,?_,rfl,hr.defers⟩
  refine ⟨hi.os,hi.tape,hi.output,hi.old,hi.iLt,hi.iNew,hi.ext.trans e,⟨fun id o ho=>?_,fun id o ho=>?_,fun id o ho hn b hb=>?_,fun id id' o o' ho ho' hne hn hn' b hb hb'=>?_⟩,fun id o ho hn b hb=>?_,hi.tabs,hi.hid.same rfl (fun _ h=>h) (fun _ h=>.inl h) fun b ⟨id,o,ho,hn,hb⟩=>let ⟨h1,h2,h3⟩:=src id o ho b hb;⟨id,o,h1,fun h=>hn (h3.2 h),h2⟩⟩
  · rcases look' id o ho with ⟨rfl,rfl⟩|⟨_,ho⟩
    · exact ⟨by simp [newV],List.Pairwise.nil,fun x hx=>by cases hx⟩
    · exact (hi.st.obj id o ho).keep e (hi.st.lt id o ho) fun _ _ _=>rfl
  · rcases look' id o ho with ⟨rfl,rfl⟩|⟨_,ho⟩
    · exact Nat.lt_succ_self _
    · exact Nat.lt_succ_of_lt (hi.st.lt _ _ ho)
  · obtain ⟨h1,h2,h3⟩:=src id o ho b hb
    exact hi.st.free _ _ h1 (fun h=>hn (h3.2 h)) b h2
  · obtain ⟨h1,h2,h3⟩:=src id o ho b hb
    obtain ⟨h1',h2',h3'⟩:=src id' o' ho' b hb'
    exact hi.st.inj _ _ _ _ h1 h1' hne (fun h=>hn (h3.2 h)) (fun h=>hn' (h3'.2 h)) b h2 h2'
  · obtain ⟨h1,h2,h3⟩:=src id o ho b hb
    exact hi.live _ _ h1 (fun h=>hn (h3.2 h)) b h2
def C.isO:C→Bool
  | .d (.v _)|.d (.l [])|.arr ..|.ptr ..|.mp _|.fn _ []=>true
  | _=>false
def O.isO:O→Prop
  | .cells _ _ rows=>∀r∈rows,∀c∈r,C.isO c=true
  | _=>True
def E.isO:E→Prop
  | .o c=>C.isO c=true
  | .a cs=>∀c∈cs,C.isO c=true
  | .t xs=>∀x∈xs,∀c∈x.2,C.isO c=true
  | .e=>True
def StO (σ:Store):Prop:=∀x∈σ,O.isO x.2
theorem StO.get {σ:Store} (h:StO σ) {id:Nat} {o:O} (ho:look σ id=some o):O.isO o:=by
  induction σ with
  | nil=>cases ho
  | cons x r ih=>
    obtain ⟨k,y⟩:=x
    rw [look_cons] at ho
    by_cases hk:k=id
    · rw [if_pos hk] at ho;injection ho with ho;subst ho;exact h _ (List.mem_cons_self ..)
    · rw [if_neg hk] at ho;exact ih (fun z hz=>h z (List.mem_cons_of_mem _ hz)) ho
structure SameV (V V':View):Prop where
  ρ:V'.ρ=V.ρ
  cap:V'.cap=V.cap
  nl:V'.nl=V.nl
  nx:V'.nx=V.nx
  w:V'.w=V.w
theorem CRel.isO {V V':View} (s:SameV V V') {c:C} {v:Value} (h:CRel V c v) (hc:c.isO=true):CRel V' c v:=by
  cases h with
  | @d x v h=>
    cases h with
    | v h=>exact .d (.v h)
    | nil=>exact .d .nil
    | e h=>exact .d (.e h)
    | @l rows b o k cap vs hb h1 h2 h3 h4 h5=>
      cases rows with
      | nil=>exact .d (.e h2)
      | cons=>cases hc
    | p=>cases hc
  | nil h1 h2=>exact .nil (by rw [s.nx];exact h1) (by rw [s.nl];exact h2)
  | @arr id k off len h1 h2 h3=>rw [←s.ρ,←s.cap];exact .arr (by rw [s.nx];exact h1) (by rw [s.nl];exact h2) (by rw [s.cap];exact h3)
  | ptr h1 h2=>rw [←s.ρ];exact .ptr (by rw [s.nx];exact h1) (by rw [s.nl];exact h2)
  | @fn f cap vs h1 h2=>
    cases cap with
    | nil=>exact .fn h1 fun j c v hj=>by simp at hj
    | cons=>cases hc
  | mp h1=>rw [←s.ρ];exact .mp (by rw [s.nx];exact h1)
  | mv=>cases hc
theorem ERel.isO {V V':View} (s:SameV V V') {e:E} {v:Value} (h:ERel V e v) (hc:e.isO):ERel V' e v:=by
  cases e with
  | o c=>exact CRel.isO s h hc
  | a cs=>obtain ⟨vs,h1,h2,h3⟩:=h;exact ⟨vs,h1,h2,fun j c v hj hv=>(h3 j c v hj hv).isO s (hc c (List.mem_of_getElem? hj))⟩
  | t xs=>
    obtain ⟨vs,h1,h2,h3⟩:=h
    refine ⟨vs,h1,h2,fun j x v hj hv=>?_⟩
    have h4:=h3 j x v hj hv
    have h5:=hc x (List.mem_of_getElem? hj)
    obtain ⟨b,cs⟩:=x
    cases b
    · obtain ⟨c,h6,h7⟩:=h4
      have h6:cs=[c]:=h6
      subst h6
      exact ⟨c,rfl,h7.isO s (h5 c (by simp))⟩
    · obtain ⟨ws,h6,h7,h8⟩:=h4
      exact ⟨ws,h6,h7,fun j c v hj hv=>(h8 j c v hj hv).isO s (h5 c (List.mem_of_getElem? hj))⟩
  | e=>exact h
theorem ObjRel.isO {V V':View} (s:SameV V V') {id:Nat} {o:O} (h:ObjRel V id o) (hc:o.isO):ObjRel V' id o:=by
  cases o with
  | cells T k rows=>
    rcases h with ⟨h1,h2⟩|⟨h0,cur,h2,h3,h4,h5,h6,h7⟩
    · exact .inl ⟨by rw [s.nl];exact h1,h2⟩
    · refine .inr ⟨by rw [s.nl];exact h0,cur,by rw [s.w,s.ρ];exact h2,by rw [s.cap];exact h3,by rw [s.cap];exact h4,by rw [s.cap];exact h5,h6,fun i r j c hi hj=>?_⟩
      obtain ⟨v,h8,h9⟩:=h7 i r j c hi hj
      exact ⟨v,h8,h9.isO s (hc r (List.mem_of_getElem? hi) c (List.mem_of_getElem? hj))⟩
  | mp es=>obtain ⟨h0,ents,clock,h1,h2⟩:=h;exact ⟨by rw [s.nl];exact h0,ents,clock,by rw [s.w,s.ρ];exact h1,h2⟩
  | sld T l=>exact ⟨by rw [s.nl];exact h.1,by rw [s.w];exact h.2⟩
section
variable {o:Oper} {f:Env} {nx:Nat}
theorem all_good {V:View} {S:Sec} (h:Inv TB Γ V σ) (hS:HidS TB V σ S):Inv TB (ctxB (allV V σ) (allV V σ) [] S) (allV V σ) []:=
  ⟨rfl,rfl,rfl,fun _ _ _=>rfl,fun b hb=>by
    rcases hb with hb|⟨id,o,hl,hn,hb⟩
    · exact h.iLt b hb
    · exact (h.st.obj id o hl).blt hn hb,fun _ h=>.inl h,Ext.refl _,store_none,fun id o ho=>(by cases ho),fun x hx=>⟨.inl (h.tabs x hx).1,(h.tabs x hx).2⟩,⟨S,⟨hS.r,fun b hb=>.inl (hS.ji b hb),fun b hb hi=>hi.elim (hS.bi b hb) fun ⟨id,o,hl,hn,hx⟩=>hS.ap b ⟨id,o,hl,hn,hx⟩ hb,fun b ⟨_,_,h,_⟩=>by cases h⟩,fun b hb=>.inl hb,fun b hb=>.inr (.inr hb)⟩⟩
theorem lend_back {V V':View} {σ':Store} {S:Sec} (h2:Inv TB Γ V σ) (hS:HidS TB V σ S) (hSJ:∀b,S.J b→Γ.J b∨Γ.V.w.heap.size≤b∨Γ.F b) (hSB:∀b,S.B b→Γ.V.w.heap.size≤b∨Γ.F b) (he:Ext (allV V σ) V') (hi:Inv TB (ctxB (allV V σ) (allV V σ) [] S) V' σ') (ho':StO σ') :
    ∃V3,SameV V' V3∧Ext V V3∧Inv TB Γ V3 (σ'++σ):=by
  have s:SameV V' { V' with I:=fun b=>V.I b∨(V'.I b∧(V.w.heap.size≤b∨S.B b)) } := ⟨rfl,rfl,rfl,rfl,rfl⟩
  have e:Ext V { V' with I:=fun b=>V.I b∨(V'.I b∧(V.w.heap.size≤b∨S.B b)) } := ⟨fun _ h=>.inl h,fun b hb=>he.heap b (.inl hb),he.size,he.ρ,he.cap,he.nl,he.nx⟩
  have bs:∀ {id:Nat} {o:O} {b:Nat},blk { V' with I:=fun b=>V.I b∨(V'.I b∧(V.w.heap.size≤b∨S.B b)) } id o b↔blk V' id o b:=fun {id o b} => by cases o<;>exact Iff.rfl
  have hnew:∀id o,look σ' id=some o→¬V'.nl id→∀b,blk V' id o b→V.w.heap.size≤b∨S.B b:=fun id o ho hn b hb=>by
    rcases hi.live id o ho hn b hb with h|h|h
    · exact .inl h
    · obtain ⟨_,_,h,_⟩:=h;cases h
    · exact .inr h
  have hap:∀id o,look σ id=some o→¬V.nl id→∀b,blk V id o b→(V.w.heap.size≤b∨S.B b)→False:=fun id o ho hn b hb h=>by
    rcases h with h|h
    · have:=(h2.st.obj _ _ ho).blt hn hb;omega
    · exact hS.ap b ⟨id,o,ho,hn,hb⟩ h
  refine ⟨_,s,e,⟨hi.os.trans h2.os,hi.tape.trans h2.tape,hi.output.trans h2.output,fun b hb hf=>(hi.old b (Nat.lt_of_lt_of_le hb h2.ext.size) (fun h=>h.elim (fun ⟨_,_,h,_⟩=>by cases h) fun h=>(hSB b h).elim (fun h=>by omega) hf)).trans (h2.old b hb hf),fun b hb=>?_,fun b hb=>?_,h2.ext.trans e,⟨fun id o ho=>?_,fun id o ho=>?_,fun id o ho hn b hb hI=>?_,fun id id' o o' ho1 ho2 hne hn hn' b hb hb'=>?_⟩,fun id o ho hn b hb=>?_,fun x hx=>⟨.inl (h2.tabs x hx).1,(hi.tabs x hx).2⟩,?_⟩⟩
  · rcases hb with hb|hb
    · exact hi.iLt b (he.i b (.inl hb))
    · exact hi.iLt b hb.1
  · rcases hb with hb|hb
    · exact h2.iNew b hb
    · rcases hb.2 with h|h
      · exact .inr (.inl (Nat.le_trans h2.ext.size h))
      · exact .inr (hSB b h)
  · rcases look_append ho with ho|ho
    · exact (hi.st.obj id o ho).isO s (ho'.get ho)
    · exact (h2.st.obj id o ho).keep e (h2.st.lt id o ho) fun hn b hb=>he.heap b (.inr ⟨id,o,ho,hn,hb⟩)
  · rcases look_append ho with ho|ho
    · exact hi.st.lt id o ho
    · exact Nat.lt_of_lt_of_le (h2.st.lt id o ho) he.nx
  · rcases look_append ho with ho|ho
    · have h3:=hi.st.free id o ho hn b (bs.1 hb)
      rcases hI with hI|hI
      · exact h3 (he.i b (.inl hI))
      · exact h3 hI.1
    · have hlt:=h2.st.lt id o ho
      have hb:=(blk_ext e hlt).1 hb
      have hn:¬V.nl id:=fun h=>hn ((e.nl id hlt).2 h)
      rcases hI with hI|hI
      · exact h2.st.free id o ho hn b hb hI
      · exact hap id o ho hn b hb hI.2
  · rcases look_append ho1 with ho1|ho1<;>rcases look_append ho2 with ho2|ho2
    · exact hi.st.inj _ _ _ _ ho1 ho2 hne hn hn' b (bs.1 hb) (bs.1 hb')
    · have h3:=hnew id o ho1 hn b (bs.1 hb)
      have hlt:=h2.st.lt _ _ ho2
      exact hap _ _ ho2 (fun h=>hn' ((e.nl _ hlt).2 h)) b ((blk_ext e hlt).1 hb') h3
    · have h3:=hnew id' o' ho2 hn' b (bs.1 hb')
      have hlt:=h2.st.lt _ _ ho1
      exact hap _ _ ho1 (fun h=>hn ((e.nl _ hlt).2 h)) b ((blk_ext e hlt).1 hb) h3
    · have hlt:=h2.st.lt _ _ ho1
      have hlt':=h2.st.lt _ _ ho2
      exact h2.st.inj _ _ _ _ ho1 ho2 hne (fun h=>hn ((e.nl _ hlt).2 h)) (fun h=>hn' ((e.nl _ hlt').2 h)) b ((blk_ext e hlt).1 hb) ((blk_ext e hlt').1 hb')
  · rcases look_append ho with ho|ho
    · rcases hnew id o ho hn b (bs.1 hb) with h|h
      · exact .inl (Nat.le_trans h2.ext.size h)
      · exact hSB b h
    · have hlt:=h2.st.lt _ _ ho
      exact h2.live id o ho (fun h=>hn ((e.nl _ hlt).2 h)) b ((blk_ext e hlt).1 hb)
  · obtain ⟨S1,k1,k2,k3⟩:=hi.hid
    have hB:∀b,S1.B b→V.w.heap.size≤b∨S.B b:=fun b hb=>by
      rcases k3 b hb with h|h|h
      · exact .inl h
      · obtain ⟨_,_,h,_⟩:=h;cases h
      · exact .inr h
    refine ⟨S1,⟨k1.r,fun b hb=>?_,fun b hb hI=>k1.bi b hb (hI.elim (fun h=>he.i b (.inl h)) fun h=>h.1),fun b ⟨id,o,ho,hn,hb⟩ hB1=>?_⟩,fun b hb=>?_,fun b hb=>?_⟩
    · rcases k2 b hb with h|h|h|h
      · exact .inl (hS.ji b h)
      · exact .inr ⟨k1.ji b hb,.inl h⟩
      · obtain ⟨_,_,h,_⟩:=h;cases h
      · exact .inr ⟨k1.ji b hb,.inr h⟩
    · rcases look_append ho with ho|ho
      · exact k1.ap b ⟨id,o,ho,hn,bs.1 hb⟩ hB1
      · have hlt:=h2.st.lt _ _ ho
        exact hap _ _ ho (fun h=>hn ((e.nl _ hlt).2 h)) b ((blk_ext e hlt).1 hb) (hB b hB1)
    · rcases k2 b hb with h|h|h|h
      · exact hSJ b h
      · exact .inr (.inl (Nat.le_trans h2.ext.size h))
      · obtain ⟨_,_,h,_⟩:=h;cases h
      · exact .inr (hSB b h)
    · rcases hB b hb with h|h
      · exact .inl (Nat.le_trans h2.ext.size h)
      · exact hSB b h
theorem lend_op {V:View} {a:Act} {L:List (Nat×E)} (h2:Inv TB Γ V σ) (hE:EnvZ σ f L) (h1:OpRel V o f a):OpRel (allV V σ) o (look L) a:=fun t e ht he=>by
  obtain ⟨y,h3,h4⟩:=hE.get t e he
  exact h4.rel h2 (h1 t y ht h3)
theorem AOp.lend {K:E→Store→Nat→Prop} (L:List (Nat×E)) (hE:EnvZ σ f L) (h:∀Γ',AOp P TB Γ' o (look L) [] nx (fun x σ1 nx1=>(E.isO x∧StO σ1)∧K x (σ1++σ) nx1)):AOp P TB Γ o f σ nx K:=by
  intro V a h1 h2 h3
  obtain ⟨S,hS,hSJ,hSB⟩:=h2.hid
  refine Oper.wp_mono ?_ (h (ctxB (allV V σ) (allV V σ) [] S) (allV V σ) a (lend_op h2 hE h1) (all_good h2 hS) h3)
  rintro a' w' ⟨V',v,x,σ',rfl,rfl,he,hi,hx,⟨hxo,hso⟩,hk⟩
  obtain ⟨V3,s,e,hi3⟩:=lend_back h2 hS hSJ hSB he hi hso
  exact ⟨V3,v,x,_,s.w,rfl,e,hi3,hx.isO s hxo,by rw [s.nx];exact hk⟩
theorem QOp.lend {x:E} (L:List (Nat×E)) (hE:EnvZ σ f L) (h:∀Γ',QOp P TB Γ' o (look L) [] nx x) (hxo:x.isO):QOp P TB Γ o f σ nx x:=by
  intro V a h1 h2 h3
  obtain ⟨S,hS,hSJ,hSB⟩:=h2.hid
  refine Oper.wp_mono ?_ (h (ctxB (allV V σ) (allV V σ) [] S) (allV V σ) a (lend_op h2 hE h1) (all_good h2 hS) h3)
  rintro a' w' ⟨V',v,rfl,rfl,he,hi,hn,hx⟩
  obtain ⟨V3,s,e,hi3⟩:=lend_back h2 hS hSJ hSB he hi (fun x hx=>by cases hx)
  exact ⟨V3,v,s.w,rfl,e,hi3,by rw [s.nx];exact hn,hx.isO s hxo⟩
end
def pickS (σ:Store):List Nat→Store
  | []=>[]
  | i::r=>match look σ i with
    | some o=>(i,o)::pickS σ r
    | none=>pickS σ r
theorem look_pickS {σ:Store}:∀ {ids:List Nat} {id:Nat} {o:O},look (pickS σ ids) id=some o→id∈ids∧look σ id=some o
  | [],_,_,h=>by cases h
  | i :: r,id,o,h=>by
    unfold pickS at h
    split at h
    · rename_i o' ho
      rw [look_cons] at h
      by_cases hi:i=id
      · rw [if_pos hi] at h;injection h with h;subst h;subst hi;exact ⟨List.mem_cons_self ..,ho⟩
      · rw [if_neg hi] at h
        have:=look_pickS h
        exact ⟨List.mem_cons_of_mem _ this.1,this.2⟩
    · have:=look_pickS h
      exact ⟨List.mem_cons_of_mem _ this.1,this.2⟩
def EnvY (σi:Store) (f:Env):List (Nat×E)→Prop
  | []=>True
  | (t,e')::L=>(∃e,f t=some e∧(e=e'∨EZ σi e e'))∧EnvY σi f L
theorem EnvY.get {σi:Store} {f:Env}:∀ {L:List (Nat×E)},EnvY σi f L→∀t e',look L t=some e'→∃e,f t=some e∧(e=e'∨EZ σi e e')
  | [],_,t,e,h=>by cases h
  | (k,x)::L,hs,t,e,h=>by
    rw [look_cons] at h
    by_cases hk:k=t
    · rw [if_pos hk] at h;injection h with h;subst h;subst hk;exact hs.1
    · rw [if_neg hk] at h;exact EnvY.get hs.2 t e h
theorem AWp.freezeZ {c:Code} {Q:Exit→Env→Store→Nat→Prop} {f:Env} {nx:Nat} (ids:List Nat) (L:List (Nat×E)) (hE:EnvY (pickS σ ids) f L) (h:AWp P TB Γ N c Q (look L) (killL ids σ) nx):AWp P TB Γ N c Q f σ nx:=by
  intro V a hr
  have hi:=hr.inv
  have hsub:∀id o,look (pickS σ ids) id=some o→look σ id=some o:=fun id o h=>(look_pickS h).2
  have his:Inv TB Γ V (pickS σ ids):=hi.sub hsub
  have e:Ext V (allV V (pickS σ ids)):=all_ext
  refine h (allV V (pickS σ ids)) a ⟨fun t x hx=>?_,fun t x hx=>?_,hr.size,?_,hr.nx,hr.defers⟩
  · obtain ⟨y,h1,h2⟩:=hE.get t x hx
    rcases h2 with rfl|h2
    · exact (hr.env t _ h1).ext e
    · exact h2.rel his (hr.env t y h1)
  · obtain ⟨y,h1,_⟩:=hE.get t x hx
    exact hr.lt t y h1
  · refine ⟨hi.os,hi.tape,hi.output,hi.old,?_,?_,hi.ext.trans e,⟨?_,?_,?_,?_⟩,?_,fun x hx=>⟨.inl (hi.tabs x hx).1,(hi.tabs x hx).2⟩,hi.hid.same rfl (fun _ h=>.inl h) (fun b hb=>hb.elim .inl fun ⟨id,o,hl,hn,he⟩=>.inr ⟨id,o,hsub _ _ hl,hn,he⟩) fun b ⟨id,o,hl,hn,hb⟩=>have h2:=(look_killL ids σ id o hl).2;⟨id,o,h2,hn,(blk_ext e (hi.st.lt id o h2)).1 hb⟩⟩
    · rintro b (hb|⟨id,o,hl,hn,hb⟩)
      · exact hi.iLt b hb
      · exact (hi.st.obj id o (hsub _ _ hl)).blt hn hb
    · rintro b (hb|⟨id,o,hl,hn,hb⟩)
      · exact hi.iNew b hb
      · exact .inr (hi.live id o (hsub _ _ hl) hn b hb)
    · intro id o hl
      have:=(look_killL ids σ id o hl).2
      exact (hi.st.obj id o this).keep e (hi.st.lt id o this) fun _ _ _=>rfl
    · intro id o hl;exact hi.st.lt id o (look_killL ids σ id o hl).2
    · intro id o hl hn b hb' hb
      obtain ⟨h1,h2⟩:=look_killL ids σ id o hl
      have hb':=(blk_ext e (hi.st.lt id o h2)).1 hb'
      rcases hb with hb|⟨id',o',hl',hn',he⟩
      · exact hi.st.free id o h2 hn b hb' hb
      · have h3:=look_pickS hl'
        exact hi.st.inj id id' o o' h2 h3.2 (fun e=>h1 (e ▸ h3.1)) hn hn' b hb' he
    · intro id id' o o' hl hl' hne hn hn' b hb hb'
      have h2:=(look_killL ids σ id o hl).2
      have h2':=(look_killL ids σ id' o' hl').2
      exact hi.st.inj id id' o o' h2 h2' hne hn hn' b ((blk_ext e (hi.st.lt id o h2)).1 hb) ((blk_ext e (hi.st.lt id' o' h2')).1 hb')
    · intro id o hl hn b hb
      have h2:=(look_killL ids σ id o hl).2
      exact hi.live id o h2 hn b ((blk_ext e (hi.st.lt id o h2)).1 hb)
theorem FZ.nst {a s:Nat} {T Ta:TypeId} {l:Nst} (ha:look σ a=some (.cells Ta 1 (rawR l))) (hs:look σ s=some (.sld T (sI l))):FZ σ (.arr a 1 0 l.length) (iiList (l.map (·.2))):=by
  refine .rows ha (by simp) (rawR_len l) fun i r' hi=>?_
  simp only [List.getElem?_map,Option.map_eq_some_iff] at hi
  obtain ⟨x,⟨y,hy,rfl⟩,rfl⟩:=hi
  refine ⟨[.d (.v y.1)],by simp [rawR,hy],.cons ?_ .nil⟩
  have h1:FZ σ (.d (.v y.1)) (.l ((y.2.map (Value.int .i64)).map fun x=>[D.v x])):=.sld hs (List.mem_map.2 ⟨y,List.mem_of_getElem? hy,rfl⟩)
  rw [List.map_map] at h1
  exact h1
theorem AWp.putEnd {c:Code} {Q:Exit→Env→Store→Nat→Prop} {f:Env} {nx:Nat} (a i s:Nat) (l:Nst) (xs:List Int) (ha:look σ a=some (.cells Ta 1 (rawR l++[[.arr i 1 0 xs.length]]))) (hi:look σ i=some (.cells T 1 (ownI xs))) (hs:look σ s=some (.sld T (sI l)))
    (h:∀v,AWp P TB Γ N c Q f ((a,.cells Ta 1 (rawR (l++[(v,xs)])))::(s,.sld T (sI (l++[(v,xs)])))::kill i σ) nx):AWp P TB Γ N c Q f σ nx:=
  AWp.put a i s (rawR l) [] xs l [] ha hi (by rw [List.append_nil];exact hs) fun v=>by
    have:=h v
    rw [rawR_app] at this
    exact this
theorem nst_at {l:Nst} {k:Nat} {y:Value×List Int} (h:l[k]? = some y):l=l.take k++y::l.drop (k+1)∧(l.take k).length=k:=by
  obtain ⟨hk,rfl⟩:=List.getElem?_eq_some_iff.1 h
  refine ⟨?_,by rw [List.length_take];omega⟩
  rw [←List.drop_eq_getElem_cons hk,List.take_append_drop]
theorem set_at {α:Type} {l1 l2:List α} {x y:α} {k:Nat} (h:l1.length=k):(l1++x::l2).set k y=l1++y::l2:=by
  subst h;simp
theorem AWp.takeAt {c:Code} {Q:Exit→Env→Store→Nat→Prop} {f:Env} {nx:Nat} (a s:Nat) (l:Nst) (k:Nat) (y:Value×List Int) (hk:l[k]? = some y) (ha:look σ a=some (.cells Ta 1 (rawR l))) (hs:look σ s=some (.sld T (sI l)))
    (h:AWp P TB Γ N c Q f ((a,.cells Ta 1 ((rawR l).set k [.arr nx 1 0 y.2.length]))::(nx,.cells T 1 (ownI y.2))::(s,.sld T (sI (l.eraseIdx k)))::σ) (nx+1)):AWp P TB Γ N c Q f σ nx:=by
  obtain ⟨h1,h2⟩:=nst_at hk
  obtain ⟨v,xs⟩:=y
  have e1:rawR l=rawR (l.take k)++[.d (.v v)]::rawR (l.drop (k+1)):=by
    have:=congrArg rawR h1
    rw [rawR_app] at this;exact this
  refine AWp.take a s (rawR (l.take k)) (rawR (l.drop (k+1))) v xs (l.take k) (l.drop (k+1)) (by rw [←e1];exact ha) (by rw [←h1];exact hs) ?_
  have e2:(rawR l).set k [.arr nx 1 0 xs.length]=rawR (l.take k)++[.arr nx 1 0 xs.length]::rawR (l.drop (k+1)):=by
    rw [e1,set_at (by rw [rawR_len,h2])]
  have e3:l.eraseIdx k=l.take k++l.drop (k+1):=List.eraseIdx_eq_take_drop_succ ..
  rw [e2,e3] at h
  exact h
theorem AWp.putAt {c:Code} {Q:Exit→Env→Store→Nat→Prop} {f:Env} {nx:Nat} (a i s:Nat) (l:Nst) (k:Nat) (y:Value×List Int) (hk:l[k]? = some y) (xs:List Int) (ha:look σ a=some (.cells Ta 1 ((rawR l).set k [.arr i 1 0 xs.length]))) (hi:look σ i=some (.cells T 1 (ownI xs))) (hs:look σ s=some (.sld T (sI (l.eraseIdx k))))
    (h:∀v,AWp P TB Γ N c Q f ((a,.cells Ta 1 (rawR (l.set k (v,xs))))::(s,.sld T (sI (l.set k (v,xs))))::kill i σ) nx):AWp P TB Γ N c Q f σ nx:=by
  obtain ⟨h1,h2⟩:=nst_at hk
  have e1:rawR l=rawR (l.take k)++[.d (.v y.1)]::rawR (l.drop (k+1)):=by
    have:=congrArg rawR h1
    rw [rawR_app] at this;exact this
  rw [e1,set_at (by rw [rawR_len,h2])] at ha
  rw [show l.eraseIdx k=l.take k++l.drop (k+1) from List.eraseIdx_eq_take_drop_succ ..] at hs
  refine AWp.put a i s (rawR (l.take k)) (rawR (l.drop (k+1))) xs (l.take k) (l.drop (k+1)) ha hi hs fun v=>?_
  have h3:l.set k (v,xs)=l.take k++(v,xs)::l.drop (k+1):=by
    have this:l.set k (v,xs)=(l.take k++y::l.drop (k+1)).set k (v,xs):=congrArg (fun m=>List.set m k (v,xs)) h1
    rw [this,set_at h2]
  have:=h v
  rw [h3,rawR_app] at this
  exact this
theorem SpecK.ren {g:FuncId} {m nx:Nat} {args:List E} {post:E→Store→Nat→Prop}
    (h:SpecK P TB g m σ nx args (fun x σ1 nx1=>∃(l:List Nat) (x':E) (σ2:Store),((∀i,i < m→l[i]? = some i)∧l.Nodup)∧x=x'.ren (nm l nx1)∧StoreSub (nm l nx1) σ1 σ2∧post x' σ2 l.length)):SpecK P TB g m σ nx args post:=
  ⟨h.1, fun V vs S hg ha=>(h.2 V vs S hg ha).mono fun e w' ⟨V',v,x,σ',h1,h2,h3,h4,l,x',σ2,h5,h6,h7,h8⟩=>by
    have hr:RelSt TB (ctxB V (lowV V m) σ S) 1 V' (look [(0,x)]) σ' V'.nx { tmps:=#[v],defers:=[] } := by
      refine ⟨fun t y hy=>?_,fun t y hy=>?_,rfl,h3,rfl,rfl⟩
      · rw [look_cons] at hy
        by_cases ht:0=t
        · rw [if_pos ht] at hy;injection hy with hy;subst hy;subst ht;exact h4
        · rw [if_neg ht] at hy;cases hy
      · rw [look_cons] at hy
        by_cases ht:0=t
        · subst ht;exact Nat.zero_lt_one
        · rw [if_neg ht] at hy;cases hy
    obtain ⟨V'',e1,e2⟩:=hr.ren l [(0,x')] σ2 h5.1 h5.2 ⟨by rw [←h6];rfl,trivial⟩ h7
    refine ⟨V'',v,x',σ2,h1,e1.trans h2,e2.inv,e2.env 0 x' rfl,?_⟩
    rw [e2.nx];exact h8⟩
theorem kept1 {m:Nat} {σ σ':Store} (i:Nat) (hm:m=2 ^ i) (h:look σ' i=look σ i):Kept m σ σ':=fun id hb=>by
  subst hm
  rw [Nat.testBit_two_pow] at hb
  have:i=id:=of_decide_eq_true hb
  subst this;exact h
theorem kept2 {m:Nat} {σ σ':Store} (i j:Nat) (hm:m=2 ^ i ||| 2 ^ j) (h:look σ' i=look σ i) (h':look σ' j=look σ j):Kept m σ σ':=fun id hb=>by
  subst hm
  rw [Nat.testBit_or,Bool.or_eq_true,Nat.testBit_two_pow,Nat.testBit_two_pow,decide_eq_true_eq,decide_eq_true_eq] at hb
  rcases hb with hb|hb
  · subst hb;exact h
  · subst hb;exact h'
theorem rawR_mid {l1 l2:Nst} {c:C} {k:Nat} (h:l1.length=k):(rawR l1++[c]::rawR l2)[k]? = some [c]:=by
  subst h
  rw [List.getElem?_append_right (by rw [rawR_len];exact Nat.le_refl _),rawR_len];simp
end
theorem cN:(∀(r:Nat→Nat) (l:Nst),(rawR l).map (C.renL r)=rawR l)∧(∀(α:Type) (b:Bool) (x y:α),(bif b then x else y)=if b=true then x else y)∧∀a b:Nat,(Nat.beq a b=true)=(a=b):=
  ⟨rawR_ren,fun _ b _ _=>by cases b<;>rfl,fun _ _=>Nat.beq_eq⟩
end Go.Am
namespace Go.Am
open Go
set_option linter.unusedVariables false
variable {TB:Amb}
section
variable {P:Program} {Γ:Ctx} {d:Option Tmp} {ty:TypeId} {pos:String} {af:Array Edge} {g:Option (Nat×Bool)} {f:Env} {σ:Store} {nx:Nat}
theorem q_buildV {t:TypeId} {z:List Value} {fl:List (Nat×Nat)} {parts:Array (Nat×Operand)} {es:List E} {qs:List (Nat×List C)} [hz:HasZe P t z] [hf:HasFl P t fl] (hes:evs f (parts.toList.map (·.2))=some es) (hq:offParts fl parts.toList es=some qs)
    (hok:z.all scal=true) (hle:(qs.all fun x=>Nat.ble (x.1+x.2.length) z.length)=true):QOp P TB Γ ⟨d,.build t parts,ty,pos,af,g⟩ f σ nx (.a (fillC qs (z.map fun v=>C.d (.v v)))):=
  q_of_run fun V ρ h1 _=>by
    obtain ⟨i,zv,hi,hzv,hzz⟩:=ze_inv hz.out
    have hfo:=offParts_fill (V:=V) (ρ:=ρ) parts.toList es qs (fun x hx e he=>h1.get (by simp only [Op.operands];simpa using hx) he) hes hq
    have hzr:LRel V (z.map fun v=>C.d (.v v)) zv.cells:=by
      refine ⟨by rw [List.length_map,←hzz];simp,fun j c v hj hv=>?_⟩
      simp only [List.getElem?_map,Option.map_eq_some_iff] at hj
      obtain ⟨u,hu,rfl⟩:=hj
      have:u=v:=by
        rw [←hzz] at hu
        simp only [Array.getElem?_toList] at hu
        rw [hu] at hv;exact Option.some.inj hv
      subst this
      exact .d (.v (List.all_eq_true.1 hok u (List.mem_of_getElem? hu)))
    obtain ⟨cells,h3,h4⟩:=fill_rel _ _ _ _ hfo hzr (fun x hx=>by rw [List.length_map];exact fillC_ok _ _ hle x hx)
    have hh:=hf.out
    have hparts:(parts.map fun (i,x)=>(i,ρ x)).toList=parts.toList.map fun (i,x)=>(i,ρ x):=by simp
    refine ⟨.agg cells,?_,cells,rfl,h4⟩
    have hb : (Instr.build t (parts.map fun (i,x)=>(i,ρ x))).run P V.w=.ok (.agg cells) V.w:=by
      unfold flF at hh
      split at hh
      · rename_i fs hu
        have hpl:∀(l:List Field) (ll:List (Nat×Nat)),(l.mapM fun f=>(P.info? f.type).map fun i=>(f.offset,i.size))=some ll→∀w,((l.mapM fun f=>do pure (f.offset,←sizeOf f.type)):Sem (List (Nat×Nat))).run P w=.ok ll w:=by
          intro l
          induction l with
          | nil=>intro ll h w;simp at h;subst h;simp [go_sem]
          | cons y l ih=>
            intro ll h w
            simp only [List.mapM_cons,Option.bind_eq_bind,Option.bind_eq_some_iff,Option.map_eq_some_iff] at h
            obtain ⟨p,⟨ii,hii,rfl⟩,ll',h5,h6⟩:=h
            simp at h6
            subst h6
            have hs:(sizeOf y.type).run P w=.ok ii.size w:=by simp [sizeOf,typeInfo,hii,go_sem]
            have ihh:=ih ll' h5 w
            simp only [bind_pure_comp] at ihh
            simp only [List.mapM_cons,Sem.run_bind,hs,Result.andThen_ok,bind_pure_comp,Sem.run_map,ihh]
        have hpl2:=hpl fs.toList fl hh V.w
        have hz0:(zeroValue t).run P V.w=.ok zv V.w:=by simp [zeroValue,typeInfo,hi,hzv,go_sem]
        have ha:((fs.mapM fun f=>do pure (f.offset,←sizeOf f.type)):Sem (Array (Nat×Nat))).run P V.w=.ok fl.toArray V.w:=by
          rw [Array.mapM_eq_mapM_toList,Sem.run_map,hpl2];rfl
        rw [←hparts] at h3
        simp only [Instr.build,Sem.run_bind,hz0,Result.andThen_ok,run_underlying hu,ha]
        simp only [List.getElem?_toArray]
        rw [h3]
        rfl
      · rename_i n e hu
        simp only [Option.map_eq_some_iff] at hh
        obtain ⟨ii,hii,rfl⟩:=hh
        have hz0:(zeroValue t).run P V.w=.ok zv V.w:=by simp [zeroValue,typeInfo,hi,hzv,go_sem]
        have hs:(sizeOf e).run P V.w=.ok ii.size V.w:=by simp [sizeOf,typeInfo,hii,go_sem]
        have hfill:∀(ps:List (Nat×Value)) (c c':Array Value),Instr.fill (fun i=>((List.range n).map fun j=>(j*ii.size,ii.size))[i]?) c ps=some c'→Instr.fill (fun i=>some (i*ii.size,ii.size)) c ps=some c':=by
          intro ps
          induction ps with
          | nil=>intro c c' h;simpa [Instr.fill] using h
          | cons p ps ih=>
            intro c c' h
            obtain ⟨i',v'⟩:=p
            unfold Instr.fill at h ⊢
            by_cases hlt:i' < n
            · simp only [List.getElem?_map,List.getElem?_range hlt,Option.map_some] at h
              simp only at h ⊢
              split at h
              · cases h
              · rename_i hno
                rw [if_neg hno];exact ih _ _ (by simpa only [List.getElem?_map] using h)
            · simp [hlt] at h
        rw [←hparts] at h3
        simp only [Instr.build,Sem.run_bind,hz0,Result.andThen_ok,run_underlying hu,hs]
        rw [hfill _ _ _ h3]
        rfl
      · cases hh
    show ((do let v ←Instr.build t (parts.map fun (i,x)=>(i,ρ x));pure (Go.Next.value v):Sem Go.Next)).run P V.w=_
    simp only [Sem.run_bind,hb,Result.andThen_ok]
    rfl
end
theorem n_asE {P:Program} {Γ:Ctx} {o:Oper} {L:List (Nat×E)} {σ:Store} {nx:Nat} {K:E→Store→Nat→Prop} {b:Option Addr} (t:Tmp) (hx:look L t=some (.o (.d (.v (.slice b 0 0))))) (h:AOp P TB Γ o (look ((t,.e)::L)) σ nx K):AOp P TB Γ o (look L) σ nx K:=by
  intro V a h1 h2 h3
  refine h V a ?_ h2 h3
  intro t' e' ht' he'
  rw [look_cons] at he'
  by_cases he:t=t'
  · subst he
    rw [if_pos rfl] at he'
    injection he' with he'
    subst he'
    exact ⟨b,CRel.val (h1 t _ ht' hx)⟩
  · rw [if_neg he] at he'
    exact h1 t' e' ht' he'
theorem popWK0 {P:Program} {Γ:Ctx} {ops:Array Oper} {fl:Fl} {i n:Nat} {L:List (Nat×E)} {σ:Store} {nx:Nat} {K:Env→Store→Nat→Prop} {op:Op} {ty:TypeId} {pos:String} {af:Array Edge} {g:Option (Nat×Bool)}
    (h:AOp P TB Γ ⟨none,op,ty,pos,af,g⟩ (look L) σ nx (fun _ σ' nx'=>Kept (fl i - 1000) σ σ'∧Lex P TB Γ ops (ordFrom fl (i+1) n) K (look L) σ' nx')) (hg:gval ops ⟨none,op,ty,pos,af,g⟩ (look L)=some true) (hf:Nat.ble 10 (fl i)=true∧Nat.ble 1000 (fl i)=true):LexO P TB Γ ops ⟨none,op,ty,pos,af,g⟩ fl i n K L σ nx:=
  fun ho=>popKeep ho hg hf h
end Go.Am
