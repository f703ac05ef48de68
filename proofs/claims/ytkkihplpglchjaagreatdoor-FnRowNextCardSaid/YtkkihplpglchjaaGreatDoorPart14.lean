/-
  Tasks, plainly: sets of pairs, their closure, the safe words.
-/
import Derived.Test.YtkkihplpglchjaaGreatDoorPart13
import Derived.Test.YtkkihplpglchjaaGreatDoorPart10
import Derived.Test.YtkkihplpglchjaaGreatDoorPart11
import Derived.Test.YtkkihplpglchjaaGreatDoorPart6
set_option linter.constructorNameAsVariable false
set_option linter.unusedSimpArgs false
set_option linter.unusedVariables false
namespace Go.Am
open Go
set_option linter.unusedVariables false
def BB (es:List Dw) (l:Int) (m:Nat):Nat:=es.foldl (fun a e=>if e.l=l∧m.testBit e.f.toNat=true then a ||| 2 ^ e.t.toNat else a) 0
theorem GJ {α:Type} {p:α→Prop} [DecidablePred p] {g:α→Nat} {j:Nat}:∀(l:List α) (a:Nat),(l.foldl (fun a e=>if p e then a ||| g e else a) a).testBit j=true↔a.testBit j=true∨∃e∈l,p e∧(g e).testBit j=true
  | [],a=>by simp
  | x :: l,a=>by
    rw [List.foldl_cons,GJ l]
    by_cases h:p x
    · rw [if_pos h,Nat.testBit_or,Bool.or_eq_true]
      constructor
      · rintro ((h1|h1)|⟨e,h1,h2⟩)
        · exact .inl h1
        · exact .inr ⟨x,by simp,h,h1⟩
        · exact .inr ⟨e,by simp [h1],h2⟩
      · rintro (h1|⟨e,h1,h2,h3⟩)
        · exact .inl (.inl h1)
        · rcases List.mem_cons.1 h1 with rfl|h1
          · exact .inl (.inr h3)
          · exact .inr ⟨e,h1,h2,h3⟩
    · rw [if_neg h]
      constructor
      · rintro (h1|⟨e,h1,h2⟩)
        · exact .inl h1
        · exact .inr ⟨e,by simp [h1],h2⟩
      · rintro (h1|⟨e,h1,h2,h3⟩)
        · exact .inl h1
        · rcases List.mem_cons.1 h1 with rfl|h1
          · exact absurd h2 h
          · exact .inr ⟨e,h1,h2,h3⟩
theorem DC {es:List Dw} {l:Int} {m j:Nat}:(BB es l m).testBit j=true↔∃e∈es,(e.l=l∧m.testBit e.f.toNat=true)∧e.t.toNat=j:=by
  unfold BB
  rw [GJ]
  simp [Nat.testBit_two_pow]
structure B8 where
  s:Sys
  q:Ci
  al:Int
def AR (t:B8):Bool:=BD t.s && (Bh t.q && Bn t.al)
def Cg (t:B8):List Int:=(Af t.s.al).filter fun l=>!DQ t.al l.toNat
def Cz (s:Sys) (l:Int) (m:Nat):Nat:=if DQ s.al l.toNat then BB s.es l m else m
abbrev PS:=Nat→Nat
def Qy (t:B8) (l:Int) (F:PS):PS:=fun p'=>(List.range t.q.nx.length).foldl (fun a p=>if Dj t.q p l=(p':Int) then a ||| Cz t.s l (F p) else a) 0
theorem JY {t:B8} {l:Int} {F:PS} {p' j:Nat}:(Qy t l F p').testBit j=true↔∃p,p < t.q.nx.length∧Dj t.q p l=(p':Int)∧(Cz t.s l (F p)).testBit j=true:=by
  unfold Qy
  rw [GJ]
  simp
inductive NI (t:B8) (F0:PS):Nat→Nat→Prop
  | base {p j:Nat}:(F0 p).testBit j=true→NI t F0 p j
  | step {p j:Nat} {e:Dw}:NI t F0 p j→e∈t.s.es→e.l∈Cg t→e.f.toNat=j→NI t F0 (Dj t.q p e.l).toNat e.t.toNat
open Classical in
noncomputable def O5 (t:B8) (F0:PS):PS:=fun p=>(List.range 16).foldl (fun a j=>if NI t F0 p j then a ||| 2 ^ j else a) 0
open Classical in
theorem MR {t:B8} {F0:PS} {p j:Nat}:(O5 t F0 p).testBit j=true↔j < 16∧NI t F0 p j:=by
  unfold O5
  rw [GJ]
  simp only [Nat.zero_testBit,Bool.false_eq_true,false_or,List.mem_range,Nat.testBit_two_pow,decide_eq_true_eq]
  constructor
  · rintro ⟨e,h1,h2,rfl⟩;exact ⟨h1,h2⟩
  · rintro ⟨h1,h2⟩;exact ⟨j,h1,h2,rfl⟩
structure CB (t:B8) (F:PS):Prop where
  lt:∀p,F p < 65536
  z:∀p,t.q.nx.length≤p→F p=0
theorem GG {m:Nat} (h:∀j,m.testBit j=true→j < 16):m < 65536:=by
  have:m < 2 ^ 16:=Nat.lt_pow_two_of_testBit m fun i hi=>by
    cases hb:m.testBit i
    · rfl
    · have:=h i hb;omega
  omega
theorem H0 {m j:Nat} (h:m < 65536) (hb:m.testBit j=true):j < 16:=by
  rcases Nat.lt_or_ge j 16 with h1|h1
  · exact h1
  · have:m.testBit j=false:=Nat.testBit_lt_two_pow (Nat.lt_of_lt_of_le h (Nat.pow_le_pow_right (n:=2) (by omega) h1))
    rw [this] at hb;cases hb
theorem GH {m:Nat} (h:∀j,m.testBit j=false):m=0:=Nat.eq_of_testBit_eq fun j=>by rw [h j];simp
section
variable {t:B8} (ht:AR t=true)
include ht set_option linter.unusedSectionVars false
theorem OZ {e:Dw} (he:e∈t.s.es):0≤e.f∧e.f < 16∧0≤e.t∧e.t < 16∧0≤e.l∧e.l < 6:=by
  unfold AR at ht
  simp only [Bool.and_eq_true] at ht
  have h1:=CE ht.1 he
  have h2:=B7 ht.1
  unfold CT at h1
  grind
theorem Cp:Bh t.q=true:=by
  unfold AR at ht
  simp only [Bool.and_eq_true] at ht
  exact ht.2.1
theorem FA {l:Int} (h:l∈Cg t):0≤l∧l < 6∧DQ t.s.al l.toNat=true:=by
  unfold Cg at h
  have h1:=Bj (List.mem_filter.1 h).1
  exact ⟨h1.1,by omega,h1.2.2⟩
theorem Gz {l:Int} {m:Nat} (hm:m < 65536):Cz t.s l m < 65536:=by
  unfold Cz
  split
  · refine GG fun j hj=>?_
    obtain ⟨e,h1,_,rfl⟩:=DC.1 hj
    have:=OZ ht h1;omega
  · exact hm
theorem I0 {l:Int} (hl:0≤l∧l < 6) {F:PS} (h:CB t F):CB t (Qy t l F):=by
  refine ⟨fun p=>GG fun j hj=>?_,fun p hp=>GH fun j=>?_⟩
  · obtain ⟨q,h1,h2,h3⟩:=JY.1 hj
    exact H0 (Gz ht (h.lt q)) h3
  · cases hb:(Qy t l F p).testBit j
    · rfl
    · obtain ⟨q,h1,h2,h3⟩:=JY.1 hb
      have:=Gp (Cp ht) h1 hl.1 hl.2
      omega
theorem NI.lt {F0:PS} (h:CB t F0) {p j:Nat} (hr:NI t F0 p j):p < t.q.nx.length∧j < 16:=by
  induction hr with
  | @base p j hb=>
    refine ⟨?_,H0 (h.lt p) hb⟩
    rcases Nat.lt_or_ge p t.q.nx.length with h1|h1
    · exact h1
    · rw [h.z p h1] at hb;simp at hb
  | @step p j e _ he hl _ ih=>
    have h1:=OZ ht he
    have h2:=Gp (Cp ht) ih.1 h1.2.2.2.2.1 h1.2.2.2.2.2
    omega
theorem SP {F0:PS} (h:CB t F0):CB t (O5 t F0):=by
  refine ⟨fun p=>GG fun j hj=>(MR.1 hj).1,fun p hp=>GH fun j=>?_⟩
  cases hb:(O5 t F0 p).testBit j
  · rfl
  · have:=((MR.1 hb).2.lt ht h).1
    omega
theorem SO {F0 G:PS} (h0:CB t F0) (hG:∀p,t.q.nx.length≤p→G p=0) (h1:∀p j,(F0 p).testBit j=true→(G p).testBit j=true) (h2:∀p j,(G p).testBit j=true→NI t F0 p j)
    (h3:∀p l j,p < t.q.nx.length→l∈Cg t→(BB t.s.es l (G p)).testBit j=true→(G (Dj t.q p l).toNat).testBit j=true):G=O5 t F0:=by
  have key:∀ {p j:Nat},NI t F0 p j→(G p).testBit j=true:=fun {p j} hr=>by
    induction hr with
    | base hb=>exact h1 _ _ hb
    | @step p j e hr he hl hf ih=>exact h3 p e.l _ (hr.lt ht h0).1 hl (DC.2 ⟨e,he,⟨rfl,by rw [hf];exact ih⟩,rfl⟩)
  funext p
  refine Nat.eq_of_testBit_eq fun j=>?_
  rw [Bool.eq_iff_iff,MR]
  exact ⟨fun h=>⟨((h2 p j h).lt ht h0).2,h2 p j h⟩,fun h=>key h.2⟩
end
def IC:PS:=fun p=>if p=0 then 1 else 0
noncomputable def Cf (t:B8):PS:=O5 t IC
noncomputable def DW (t:B8) (l:Int) (F:PS):PS:=O5 t (Qy t l F)
def IH (t:B8) (F:PS):Bool:=(List.range t.q.nx.length).any fun p=>decide (F p≠0) && !(t.q.ac.getD p false)
noncomputable def Hm (t:B8):PS→W→Bool
  | F,[]=>!IH t F
  | F,c::w=>!IH t F && Hm t (DW t ((c.toNat:Int) - 97) F) w
noncomputable def LS (t:B8) (w:W):Bool:=Hm t (Cf t) w
section
variable {t:B8} (ht:AR t=true)
include ht
theorem Lp:CB t IC:=by
  have h:=AX (Cp ht)
  refine ⟨fun p=>by unfold IC;split<;>omega,fun p hp=>by unfold IC;rw [if_neg (by omega)]⟩
theorem Jg:CB t (Cf t):=SP ht (Lp ht)
theorem KH {l:Int} (hl:0≤l∧l < 6) {F:PS} (h:CB t F):CB t (DW t l F):=SP ht (I0 ht hl h)
end
end Go.Am
namespace Go.Am
open Go Go.Proofs
set_option maxHeartbeats 1000000
attribute [local irreducible] AU B3 Lex Br Ai Spec
variable {TB:Bc}
theorem OT:∀ {l:List Int},l.Pairwise (· < ·)→(∀x∈l,0≤x)→∀j:Nat,(Bs l).testBit j=true↔(j:Int)∈l
  | [],_,_,j=>by simp [Bs]
  | x :: r,hp,h0,j=>by
    have hx:=h0 x (by simp)
    have hp2:=List.pairwise_cons.1 hp
    have ih:=OT hp2.2 (fun y hy=>h0 y (by simp [hy])) j
    obtain ⟨m,h1,h2⟩:=Jf hp hx
    rw [h1,Nat.testBit_two_pow_mul]
    rw [h2,Nat.testBit_two_pow_mul] at ih
    rw [List.mem_cons,←ih]
    by_cases hj:j=x.toNat
    · subst hj
      simp
      omega
    · have hne:¬(j:Int)=x:=by omega
      have hb:x.toNat≤j→(2*m+1).testBit (j - x.toNat)=(2*m).testBit (j - x.toNat):=fun hle=>by
        obtain ⟨i,hi⟩:∃i,j - x.toNat=i+1:=⟨j - x.toNat - 1,by omega⟩
        rw [hi,Nat.testBit_succ,Nat.testBit_succ]
        congr 1;omega
      by_cases hle:x.toNat≤j
      · rw [hb hle];simp [hne]
      · simp [hle,hne]
def Dm (m k:Nat):List Int:=((List.range k).filter (m.testBit ·)).map Int.ofNat
theorem N6 (m k:Nat):Dm m (k+1)=Dm m k++if m.testBit k then [(k:Int)] else []:=by
  unfold Dm
  rw [List.range_succ,List.filter_append,List.map_append]
  cases h:m.testBit k<;>simp [h]
theorem MG (m:Nat):∀k,Bs (Dm m k)=m % 2 ^ k
  | 0=>by simp [Dm,Bs,Nat.mod_one]
  | k+1=>by
    rw [N6,K5,MG m k,Nat.pow_succ,Nat.mod_mul,Nat.testBit_eq_decide_div_mod_eq]
    by_cases h:m / 2 ^ k % 2=1
    · rw [h];simp [Bs]
    · rw [show m / 2 ^ k % 2=0 by omega];simp [Bs]
theorem Lw (m k:Nat):(Dm m k).Pairwise (· < ·):=by
  unfold Dm
  rw [List.pairwise_map]
  exact (List.pairwise_lt_range.filter _).imp fun h=>by simpa using h
theorem II {m k:Nat} {x:Int} (h:x∈Dm m k):0≤x∧x < k∧m.testBit x.toNat=true:=by
  unfold Dm at h
  obtain ⟨n,hn,rfl⟩:=List.mem_map.1 h
  obtain ⟨h1,h2⟩:=List.mem_filter.1 hn
  have:=List.mem_range.1 h1
  exact ⟨by simp,by simp;omega,by simpa using h2⟩
theorem MP {m:Nat} (h:m < 65536):m=Bs (Dm m 16):=by rw [MG];omega
def LK (es:List Dw) (l:Int) (xs:List Int):Nat:=xs.foldl (fun a x=>a ||| Bs (Lh es x.toNat l.toNat)) 0
theorem KP {s:Sys} (hs:BD s=true) {l:Int} {j:Nat}:∀ {xs:List Int} {a:Nat},(xs.foldl (fun a x=>a ||| Bs (Lh s.es x.toNat l.toNat)) a).testBit j=true↔a.testBit j=true∨∃x∈xs,(j:Int)∈Lh s.es x.toNat l.toNat
  | [],a=>by simp
  | x::xs,a=>by
    rw [List.foldl_cons,KP hs,Nat.testBit_or,Bool.or_eq_true]
    have h1:=Ey hs s.es.length x.toNat l.toNat
    rw [List.take_length] at h1
    have h2:=OT h1 (fun y hy=>(Li hs (k:=s.es.length) (by rw [List.take_length];exact hy)).1) j
    rw [h2]
    simp only [List.mem_cons,exists_eq_or_imp,or_assoc]
theorem VD {s:Sys} (hs:BD s=true) {l:Int} (hl:0≤l) {m:Nat} (hm:m < 65536):LK s.es l (Dm m 16)=BB s.es l m:=by
  refine Nat.eq_of_testBit_eq fun j=>?_
  rw [Bool.eq_iff_iff]
  unfold LK
  rw [KP hs,DC]
  simp only [Nat.zero_testBit,Bool.false_eq_true,false_or]
  constructor
  · rintro ⟨x,hx,hj⟩
    obtain ⟨h1,h2,h3⟩:=II hx
    unfold Lh at hj
    obtain ⟨e,he,het⟩:=List.mem_map.1 hj
    obtain ⟨he1,he2⟩:=List.mem_filter.1 he
    simp only [Bool.and_eq_true,decide_eq_true_eq] at he2
    exact ⟨e,he1,⟨by omega,by rw [show e.f.toNat=x.toNat by omega];exact h3⟩,by omega⟩
  · rintro ⟨e,he,⟨h1,h2⟩,h3⟩
    have hb:=CE hs he
    unfold CT at hb
    simp only [Bool.and_eq_true,decide_eq_true_eq] at hb
    have hf:=H0 hm h2
    refine ⟨e.f,?_,?_⟩
    · unfold Dm
      exact List.mem_map.2 ⟨e.f.toNat,List.mem_filter.2 ⟨List.mem_range.2 hf,h2⟩,by simp;omega⟩
    · unfold Lh
      refine List.mem_map.2 ⟨e,List.mem_filter.2 ⟨he,?_⟩,by omega⟩
      simp only [Bool.and_eq_true,decide_eq_true_eq]
      omega
theorem VE {s:Sys} (hs:BD s=true) {l:Int} {xs:List Int}:LK s.es l xs < 65536:=GG fun j hj=>by
  unfold LK at hj
  rw [KP hs] at hj
  simp only [Nat.zero_testBit,Bool.false_eq_true,false_or] at hj
  obtain ⟨x,_,hx⟩:=hj
  have:=Li hs (k:=s.es.length) (by rw [List.take_length];exact hx)
  omega
theorem JW {a b:Nat} (ha:a < 2 ^ 62) (hb:b < 2 ^ 62):Ry .i64 (a:Nat) (b:Nat)=((a ||| b:Nat):Int):=by
  have h0:a ||| b < 2 ^ 62:=Nat.or_lt_two_pow ha hb
  unfold Ry
  have h1:(BitVec.ofInt IntKind.i64.bits (a:Int) ||| BitVec.ofInt IntKind.i64.bits (b:Int)).toNat=a ||| b:=by
    have e:IntKind.i64.bits=64:=rfl
    rw [e]
    simp only [BitVec.toNat_or,BitVec.ofInt_natCast,BitVec.toNat_ofNat]
    rw [Nat.mod_eq_of_lt (by omega),Nat.mod_eq_of_lt (by omega)]
  rw [h1]
  exact IntWalk.i64_in _ (by omega)
theorem VW [DZ TB] {s:Sys} (hs:BD s=true) {l:Int} (hl:0≤l∧l < 6) {m:Nat} (hm:m < 65536):Pure Tryz.prog TB 201 [.o (.ip (Er s.es)),eI .i64 (m:Nat),eI .i64 l] (eI .i64 (BB s.es l m:Nat)):=by
  rw [←VD hs hl.1 hm]
  rw [MP hm]
  have hb:∀x∈Dm m 16,0≤x∧x < 16:=fun x hx=>⟨(II hx).1,(II hx).2.1⟩
  have hp:=Lw m 16
  rw [←MP hm]
  conv=>arg 4;rw [MP hm]
  generalize Dm m 16=xs at *
  refine eG Tryz.func201 rfl (by kernel_rfl) rfl ?_;intro Γ hΓ
  (repeat first|refine tA rfl ?_ |refine aU rfl ?_ |refine Aa ?_)
  refine aB ?_
  refine aL (α:={k:Nat // k≤xs.length}) [0,2] [] rfl rfl (fun ⟨k,hk⟩=>[(1,eI .i64 (Bs (xs.drop k):Nat)),(7,eI .i64 (LK s.es l (xs.take k):Nat))]) (fun ⟨k,hk⟩=>[]) 0 (fun ⟨k,hk⟩=>xs.length - k) (⟨0,by omega⟩) hΓ rfl (by (simp[cX,zC,hΓ]<;>rfl)) ?_;rintro ⟨k,hk⟩;(try dsimp only[cA,cB])
  by_cases hkl:k < xs.length
  · obtain ⟨x,hx⟩:=get_some hkl
    have hd:=CJ hx
    have hxb:=hb x (List.mem_of_getElem? hx)
    have hpd:(x::xs.drop (k+1)).Pairwise (· < ·):=by rw [←hd];exact hp.sublist (List.drop_sublist _ _)
    have hlt:Bs (x::xs.drop (k+1)) < 2 ^ 16:=by
      refine J9 hpd fun y hy=>?_
      rw [←hd] at hy;exact hb y (List.mem_of_mem_drop hy)
    have hps:=K6 (x:=x) (l:=xs.drop (k+1))
    have hct:=Uu hpd hxb.1 (by omega)
    have hia:=Rx hpd hxb.1 (by omega)
    rw [←hd] at hlt hps hct hia
    have htz:=Za (TB:=TB) (Bs (xs.drop k)) (by omega) (by omega)
    rw [hct] at htz
    have ex:((x.toNat:Nat):Int)=x:=by omega
    rw [ex] at htz
    have hto:=Ey hs s.es.length x.toNat l.toNat
    rw [List.take_length] at hto
    have hs2:Bs (Lh s.es x.toNat l.toNat) < 65536:=J9 (t:=16) hto fun y hy=>Li hs (k:=s.es.length) (by rw [List.take_length];exact hy)
    have hs1:LK s.es l (xs.take k) < 65536:=VE hs
    have hor:=JW (a:=LK s.es l (xs.take k)) (b:=Bs (Lh s.es x.toNat l.toNat)) (by omega) (by omega)
    have hst:LK s.es l (xs.take (k+1))=LK s.es l (xs.take k) ||| Bs (Lh s.es x.toNat l.toNat):=by unfold LK;rw [List.take_add_one,hx,List.foldl_append];rfl
    rw [←hst] at hor
    (repeat first|refine tA rfl ?_ |refine s2 rfl fun _ _hb=>?_ |refine aU rfl ?_ |refine Aa ?_)
    ((refine aC rfl ?_ ?_<;>rintro ⟨⟩);all_goals try(exfalso;(simp only[oZ] at *;omega)))
    refine aK ?_
    refine aS (aB ?_)
    refine rG (Jr []) (by kernel_rfl) ?_
    (repeat first|(refine sA rfl ?_ ?_;first|exact tI|omega) |refine sP rfl (htz) rfl ?_|(refine Ag rfl ?_;refine gA rfl ?_;first| refine gS (fun _ _=>Fj rfl (W9 hxb hl)) ?_) |refine aU rfl ?_ |refine Aa ?_)
    refine ⟨⟨k+1,by omega⟩,by dsimp only;(omega),[],?_⟩
    simp[cX,zC,hΓ,hor,hia]
  · obtain rfl:k=xs.length:=by omega
    rw [List.take_length]
    (repeat first|refine tA rfl ?_ |refine s2 rfl fun _ _hb=>?_ |refine aU rfl ?_ |refine Aa ?_)
    (refine aC rfl ?_ ?_<;>rintro ⟨⟩)
    · exfalso
      rw [List.drop_length] at _hb
      simp [Bs] at _hb
    refine aE ?_
    (repeat first|refine tA rfl ?_ |refine aU rfl ?_ |refine Aa ?_)
    (subst_vars;exact aR ⟨_,rfl,rfl⟩)
end Go.Am
namespace Go.Am
open Go
set_option linter.unusedVariables false
section
variable {P:Program} {TB:Bc} {Γ:Ctx} {d:Option Tmp} {ty:TypeId} {pos:String} {af:Array Edge} {g:Option (Nat×Bool)} {f:Env} {σ:Ab} {nx:Nat}
variable {K:E→Ab→Nat→Prop}
theorem DF {t e:TypeId} {k b:Nat} {z:List Value} [hl:BS P t e k b] [hz:Bz P e z] (hzk:z.length=k) (hok:z.all Lr=true):AU P TB Γ ⟨d,.buildSlice t 0 #[],ty,pos,af,g⟩ f σ nx .e:=
  Ja fun V ρ h1 h2=>by
    obtain ⟨cur,h3,h4,h5⟩:=FM (es:=[]) hl.out hz.out hzk hok h1 rfl rfl rfl rfl (by simp) (by simp)
    have hw:∀b,b < V.w.heap.size→(V.w.alloc (.cells cur e)).heap[b]? = V.w.heap[b]?:=fun b hb=>AS V.w _ b hb
    obtain ⟨hi,he⟩:=R.Inv.grow h2 (w:=V.w.alloc (.cells cur e)) rfl rfl rfl (by simp) hw
    exact ⟨_,{ V with w:=V.w.alloc (.cells cur e) },h3,he,hi,rfl,⟨_,rfl⟩⟩
theorem Ms {t e:TypeId} {k b:Nat} {z:List Value} {s x:Operand} {news:List (List C)} {ex:E} [hl:BS P t e k b] [hz:Bz P e z]
    (hs:ev f s=some .e) (hx:ev f x=some ex) (hsrc:Ec σ k ex=some news) (hkk:∀r∈news,r.length=k) (hzk:z.length=k) (hb0:0 < b) (hb:news.length*b≤140737488355328)
    (hK0:news=[]→∀b,∃y,(∀V:View,A2 V y (.slice b 0 0))∧K y σ nx) (hK:news≠[]→K (.o (.arr nx k 0 news.length)) ((nx,.cells e k news)::σ) (nx+1)):B3 P TB Γ ⟨d,.call ⟨.builtin .append,#[s,x],#[t,t]⟩,ty,pos,af,g⟩ f σ nx K:=
  CD fun V ρ h1 h2 h3=>by
    subst h3
    obtain ⟨i,hu,hi,hsz,hby⟩:=Ew hl.out
    have hz':=hz.out
    simp only [Sl,hi,Option.bind_some,Option.map_eq_some_iff] at hz'
    obtain ⟨zv,hzv,hzz⟩:=hz'
    have hzc:zv.cells.size=k:=by rw [←hzk,←hzz];simp
    obtain ⟨sb,hsv⟩:=h1.get (x:=s) (by simp [Op.operands,Call.operands]) hs
    have hxr:=QX h2 hsrc hkk (h1.get (x:=x) (by simp [Op.operands,Call.operands]) hx)
    have hexec:∀w,(execOp ρ ⟨d,.call ⟨.builtin .append,#[s,x],#[t,t]⟩,ty,pos,af,g⟩).run P w=((Builtin.append_ #[t,t] ty #[ρ s,ρ x]).run P w).andThen fun v w'=>.ok (.value v) w':=fun w=>by
      simp only [execOp,resolve,invoke,builtin,List.map_toArray,List.map_cons,List.map_nil,pure_bind,bind_pure_comp,Sem.run_map]
    have hmax:news.length≤maxLen:=by
      have:news.length≤news.length*b:=Nat.le_mul_of_pos_right _ hb0
      unfold maxLen;omega
    have hint:((news.length:Nat):Int)≤9223372036854775807:=by
      have:news.length≤news.length*b:=Nat.le_mul_of_pos_right _ hb0
      omega
    rw [hsv] at hexec
    generalize hvx:ρ x=vx at *
    have nothing0:=fun h=>hK0 h sb
    have nothing:news=[]→∀v,(Builtin.append_ #[t,t] ty #[.slice sb 0 0,vx]).run P V.w=.ok (.slice sb 0 0) V.w→v=Value.slice sb 0 0→
        ∃v V' xx σ',(execOp ρ ⟨d,.call ⟨.builtin .append,#[s,x],#[t,t]⟩,ty,pos,af,g⟩).run P V.w=.ok (.value v) V'.w∧Ext V V'∧Inv TB Γ V' σ'∧A2 V' xx v∧K xx σ' V'.nx:=fun hn v hr _=>
      let ⟨y,k1,k2⟩:=nothing0 hn
      ⟨.slice sb 0 0,V,y,σ,by rw [hexec,hr];rfl,Ext.refl _,h2,k1 V,k2⟩
    rcases hxr with ⟨rfl,hnil⟩|⟨xa,xc,xv,rfl,hxk,hxcell⟩
    · exact nothing hnil _ (DU hu hi V.w sb 0 0 (Nat.le_refl _) ty) rfl
    · have hnewsl:(Cx news.length k xv).length=news.length*i.size:=by rw [Ck,hsz]
      have hnewsc:∀j u,(Cx news.length k xv)[j]? = some u→V.w.cell? (xa.add j)=some u:=by
        intro q u hq
        obtain ⟨a,b,rfl,ha,hb,rfl⟩:=IN hq
        have hbl:b < news[a].length:=by rw [hxk _ (List.getElem_mem ha)];exact hb
        exact (hxcell a news[a] b news[a][b] (List.getElem?_eq_getElem ha) (List.getElem?_eq_getElem hbl)).1
      rcases Nat.eq_zero_or_pos news.length with hm0|hm0
      · have hnn:news=[]:=List.length_eq_zero_iff.1 hm0
        refine nothing hnn _ ?_ rfl
        subst hnn
        cases sb<;>simp [Builtin.append_,run_underlying hu,sizeOf,typeInfo,hi,Builtin.lenOf,Builtin.firstCells,loadCells,loadCellsFrom,storeCells,go_sem]
      · have hne:news≠[]:=fun h=>by subst h;simp at hm0
        have hrun:(Builtin.append_ #[t,t] ty #[.slice sb 0 0,.slice (some xa) news.length xc]).run P V.w=.ok (.slice (some ⟨V.w.heap.size,0,none⟩) news.length (grownCap V.w news.length 0 e))
            (V.w.drew.alloc (.cells ((Cx news.length k xv).toArray++Builtin.zeroCells zv.cells (grownCap V.w news.length 0 e - news.length)) e)):=by
          cases sb with
          | none=>
            have hr:=run_append_nil (P:=P) V.w t ty e i zv hu hi hzv xa news.length xc _ hnewsl hnewsc hm0 (by omega) (by rw [hby];omega)
            rw [hr]
          | some sa=>
            have hr:=run_append_grow (P:=P) V.w t ty e i zv hu hi hzv sa 0 0 [] (by simp) (fun j v hj=>by simp at hj) xa news.length xc _ hnewsl hnewsc (by omega) (by simpa using hint) (by rw [hby];exact growslice_fits (by omega) (by simpa using hb))
            simpa using hr
        have hcap:=grownCap_ge V.w news.length 0 e
        have hcm:=grownCap_le_maxLen V.w news.length 0 e hmax
        generalize grownCap V.w news.length 0 e=cap' at *
        let w':=V.w.drew.alloc (.cells ((Cx news.length k xv).toArray++Builtin.zeroCells zv.cells (cap' - news.length)) e)
        have ee:Ext V (Al V V.w.heap.size cap' False w'):=Dq (by simp [w']) fun b hb=>AS V.w.drew _ b (h2.iLt b hb)
        obtain ⟨hi',he'⟩:=h2.alloc (c:=cap') (nl:=False) (w:=w') (ob:=.cells e k news) rfl rfl rfl rfl (by simp [w']) (fun b hb=>AS V.w.drew _ b hb) (by
          have hr:(Al V V.w.heap.size cap' False w').ρ V.nx=V.w.heap.size:=by simp [Al]
          have hc:(Al V V.w.heap.size cap' False w').cap V.nx=cap':=by simp [Al]
          refine .inr ⟨by simp [Al],(Cx news.length k xv).toArray++Builtin.zeroCells zv.cells (cap' - news.length),?_,?_,?_,?_,hkk,?_⟩
          · have:=BL V.w.drew (.cells ((Cx news.length k xv).toArray++Builtin.zeroCells zv.cells (cap' - news.length)) e)
            rw [hr];exact this
          · rw [hc]
            simp only [Array.size_append,List.size_toArray,Ck,Builtin.zeroCells,Array.size_map,Array.size_range,hzc,←Nat.add_mul]
            congr 1;omega
          · rw [hc];exact hcap
          · rw [hc];exact hcm
          · intro a r j c hi hj
            have hil:=(List.getElem?_eq_some_iff.1 hi).1
            have hjl:j < k:=by rw [←hxk r (List.mem_of_getElem? hi)];exact (List.getElem?_eq_some_iff.1 hj).1
            have h10:=IM (vs:=xv) hil hjl
            refine ⟨xv a j,?_,(hxcell a r j c hi hj).2.ext ee⟩
            have hlt:=(List.getElem?_eq_some_iff.1 h10).1
            rw [Array.getElem?_append_left (by simpa using hlt)]
            simpa using h10)
        refine ⟨.slice (some ⟨V.w.heap.size,0,none⟩) news.length cap',_,_,(V.nx,.cells e k news)::σ,?_,he',hi',?_,hK hne⟩
        · rw [hexec,hrun];rfl
        · have:=@Ay.arr (Al V V.w.heap.size cap' False w') V.nx k 0 news.length (by simp [Al]) (by simp [Al]) (by simp [Al];exact hcap)
          have hr:(Al V V.w.heap.size cap' False w').ρ V.nx=V.w.heap.size:=by simp [Al]
          have hc:(Al V V.w.heap.size cap' False w').cap V.nx=cap':=by simp [Al]
          rw [hr,hc,Nat.zero_mul,Nat.sub_zero] at this
          exact this
theorem Ce {t e:TypeId} {k b:Nat} {z:List Value} {s x:Operand} {news:List (List C)} {ex:E} [hl:BS P t e k b] [hz:Bz P e z]
    (hs:ev f s=some .e) (hx:ev f x=some ex) (hsrc:Ec σ k ex=some news) (hkk:∀r∈news,r.length=k) (hzk:z.length=k) (hb0:0 < b) (hb:news.length*b≤140737488355328)
    (hK0:news=[]→K .e σ nx) (hK:news≠[]→K (.o (.arr nx k 0 news.length)) ((nx,.cells e k news)::σ) (nx+1)):B3 P TB Γ ⟨d,.call ⟨.builtin .append,#[s,x],#[t,t]⟩,ty,pos,af,g⟩ f σ nx K:=Ms hs hx hsrc hkk hzk hb0 hb (fun h b=>⟨.e,fun V=>⟨b,rfl⟩,hK0 h⟩) hK
theorem I6 {t e:TypeId} {k b:Nat} {z:List Value} {s x:Operand} {news:List (List C)} {ex:E} [hl:BS P t e k b] [hz:Bz P e z]
    (hs:ev f s=some .e) (hx:ev f x=some ex) (hsrc:Ec σ k ex=some news) (hkk:∀r∈news,r.length=k) (hzk:z.length=k) (hb0:0 < b) (hb:news.length*b≤140737488355328)
    (hK0:news=[]→∀b,K (.o (.d (.v (.slice b 0 0)))) σ nx) (hK:news≠[]→K (.o (.arr nx k 0 news.length)) ((nx,.cells e k news)::σ) (nx+1)):B3 P TB Γ ⟨d,.call ⟨.builtin .append,#[s,x],#[t,t]⟩,ty,pos,af,g⟩ f σ nx K:=Ms hs hx hsrc hkk hzk hb0 hb (fun h b=>⟨.o (.d (.v (.slice b 0 0))),fun V=>(show Ay V (.d (.v (.slice b 0 0))) (.slice b 0 0) from .d (.v rfl)),hK0 h b⟩) hK
end
section
variable {P:Program} {TB:Bc} {Γ:Ctx} {N:Nat}
theorem Ai.Ak {c:Code} {Q:Exit→Env→Ab→Nat→Prop} {L0 Lk:List (Nat×E)} {σ Sk:Ab} {nx:Nat} (ks is:List Nat) (hk:Kx L0 ks=some Lk) (hi:Qt σ is=some Sk) (v:List (Nat×E)) (s:Ab) (l:List Nat)
    (hl:(∀i,i < Γ.V.nx→l[i]? = some i)∧l.Nodup) (h0:CQ (nm l nx) (look L0) (v++Lk)∧AO (nm l nx) σ (s++Sk)) (h:Ai P TB Γ N c Q (look (v++Lk)) (s++Sk) l.length):Ai P TB Γ N c Q (look L0) σ nx:=
  Ai.names l (v++Lk) (s++Sk) hl.1 hl.2 h0.1 h0.2 h
end
abbrev GC:=List (Value×List Int)
def sI (l:GC):List (Value×List Value):=l.map fun x=>(x.1,x.2.map (.int .i64))
def Aw (l:GC):List (List C):=l.map fun x=>[.d (.v x.1)]
abbrev Ik (xs:List Int):List (List C):=xs.map AY
theorem UU {V:View} {i k off n:Nat} {v:Value} (h:Ay V (.arr i k off n) v):(V.nl i∧off=0∧n=0∧v=.slice none 0 0)∨(¬V.nl i∧off+n≤V.cap i∧v=.slice (some ⟨V.ρ i,off*k,none⟩) n (V.cap i - off)):=by
  cases h with
  | nil _ h=>exact .inl ⟨h,rfl,rfl,rfl⟩
  | arr _ h1 h2=>exact .inr ⟨h1,h2,rfl⟩
theorem HE (l m:GC):sI (l++m)=sI l++sI m:=List.map_append
theorem AJ (l m:GC):Aw (l++m)=Aw l++Aw m:=List.map_append
theorem B1 (l:GC):(Aw l).length=l.length:=List.length_map _
theorem OK (r:Nat→Nat) (l:GC):(Aw l).map (C.BG r)=Aw l:=by
  unfold Aw
  rw [List.map_map]
  rfl
theorem TN (l:List Int):(Ik l).length=l.length:=List.length_map _
section
variable {P:Program} {TB:Bc} {Γ:Ctx} {N:Nat} {V:View} {σ:Ab} {a i s:Nat} {T Ta:TypeId} {R1 R2:List (List C)} {xs:List Int} {l1 l2:GC}
theorem PK {l:GC} {x:Value×List Value} (h:x∈sI l):∃y∈l,x=(y.1,y.2.map (.int .i64)):=by
  obtain ⟨y,hy,rfl⟩:=List.mem_map.1 h
  exact ⟨y,hy,rfl⟩
theorem Inv.put (h:Inv TB Γ V σ) (ha:look σ a=some (.cells Ta 1 (R1++[.arr i 1 0 xs.length]::R2))) (hi:look σ i=some (.cells T 1 (Ik xs))) (hs:look σ s=some (.sld T (sI (l1++l2)))) :
    ∃v,Inv TB Γ V ((a,.cells Ta 1 (R1++[.d (.v v)]::R2))::(s,.sld T (sI (l1++(v,xs)::l2)))::kill i σ):=by
  have has:a≠s:=fun e=>by rw [e,hs] at ha;cases ha
  have his:i≠s:=fun e=>by rw [e,hs] at hi;cases hi
  have hai:a≠i:=fun e=>by
    rw [e,hi] at ha
    injection ha with ha;injection ha with _ _ ha
    have h1:(Ik xs)[R1.length]? = some [.arr i 1 0 xs.length]:=by rw [ha];simp
    rw [List.getElem?_map,Option.map_eq_some_iff] at h1
    obtain ⟨x,_,hx⟩:=h1
    cases hx
  rcases h.st.obj a _ ha with ⟨_,h0⟩|⟨hna,cur,h2,h3,h4,h5,h6,h7⟩
  · simp at h0
  obtain ⟨v,hv,hc⟩:=h7 R1.length [.arr i 1 0 xs.length] 0 (.arr i 1 0 xs.length) (by simp) rfl
  have hc:=UU hc
  have hsl:K4 v=true:=by rcases hc with ⟨_,_,_,rfl⟩|⟨_,_,rfl⟩<;>rfl
  have hblk:∀b,Hs v b→¬V.nl i∧b=V.ρ i:=by
    rintro b ⟨o,n,c,rfl⟩
    rcases hc with ⟨_,_,_,hw⟩|⟨hn,_,hw⟩
    · cases hw
    · injection hw with hw;injection hw with hw;injection hw with hw;exact ⟨hn,hw⟩
  have hslot:HK V.w T v (xs.map (.int .i64)):=by
    rcases h.st.obj i _ hi with ⟨g1,g2⟩|⟨hni,cur',g2,g3,g4,g5,g6,g7⟩
    · have:xs=[]:=by simpa using g2
      subst this
      rcases hc with ⟨_,_,_,rfl⟩|⟨hn,_⟩
      · exact .inl ⟨rfl,rfl⟩
      · exact absurd g1 hn
    · rcases hc with ⟨hn,_⟩|⟨_,hle,rfl⟩
      · exact absurd hn hni
      · refine .inr ⟨V.ρ i,V.cap i,cur',by simp,g2,by simpa using g3,by rw [TN] at g4;simpa using g4,g5,fun j x hj=>?_⟩
        rw [List.getElem?_map,Option.map_eq_some_iff] at hj
        obtain ⟨n,hn,rfl⟩:=hj
        obtain ⟨w,hw,hcw⟩:=g7 j [.d (.v (.int .i64 n))] 0 (.d (.v (.int .i64 n))) (by simp [Ik,hn]) rfl
        have:w=.int .i64 n:=Ay.val hcw
        subst this
        exact ⟨by simpa using hw,rfl⟩
  refine ⟨v,?_⟩
  have look':∀id o,look ((a,.cells Ta 1 (R1++[.d (.v v)]::R2))::(s,.sld T (sI (l1++(v,xs)::l2)))::kill i σ) id=some o→
      (id=a∧o=.cells Ta 1 (R1++[.d (.v v)]::R2))∨(id=s∧o=.sld T (sI (l1++(v,xs)::l2)))∨(id≠a∧id≠s∧id≠i∧look σ id=some o):=fun id o ho=>by
    rw [Ar] at ho
    by_cases h1:a=id
    · rw [if_pos h1] at ho;injection ho with ho;exact .inl ⟨h1.symm,ho.symm⟩
    · rw [if_neg h1,Ar] at ho
      by_cases h2:s=id
      · rw [if_pos h2] at ho;injection ho with ho;exact .inr (.inl ⟨h2.symm,ho.symm⟩)
      · rw [if_neg h2,DB] at ho
        by_cases h3:id=i
        · rw [if_pos h3] at ho;cases ho
        · rw [if_neg h3] at ho;exact .inr (.inr ⟨Ne.symm h1,Ne.symm h2,h3,ho⟩)
  have hsb:∀b,Dn V s (.sld T (sI (l1++(v,xs)::l2))) b→Dn V s (.sld T (sI (l1++l2))) b∨(¬V.nl i∧b=V.ρ i):=by
    rintro b ⟨x,hx,hb⟩
    obtain ⟨y,hy,rfl⟩:=PK hx
    rcases List.mem_append.1 hy with hy|hy
    · exact .inl ⟨_,List.mem_map.2 ⟨y,List.mem_append_left _ hy,rfl⟩,hb⟩
    · rcases List.mem_cons.1 hy with rfl|hy
      · exact .inr (hblk b hb)
      · exact .inl ⟨_,List.mem_map.2 ⟨y,List.mem_append_right _ hy,rfl⟩,hb⟩
  have hos:=h.st.obj s _ hs
  have hdis:∀x∈sI (l1++l2),∀b,Hs x.1 b→¬Hs v b:=fun x hx b hb hb'=>by
    obtain ⟨hn,rfl⟩:=hblk b hb'
    exact h.st.inj s i _ _ hs hi (Ne.symm his) hos.1 hn _ ⟨x,hx,hb⟩ rfl
  have src:∀id o,look ((a,.cells Ta 1 (R1++[.d (.v v)]::R2))::(s,.sld T (sI (l1++(v,xs)::l2)))::kill i σ) id=some o→¬V.nl id→∀b,Dn V id o b→∃id0 o0,look σ id0=some o0∧¬V.nl id0∧Dn V id0 o0 b∧(id0=id∨id0=i∧id=s):=fun id o ho hn b hb=>by
    rcases look' id o ho with ⟨rfl,rfl⟩|⟨rfl,rfl⟩|⟨_,_,_,ho⟩
    · exact ⟨_,_,ha,hn,hb,.inl rfl⟩
    · rcases hsb b hb with hb|⟨h1,rfl⟩
      · exact ⟨_,_,hs,hn,hb,.inl rfl⟩
      · exact ⟨_,_,hi,h1,rfl,.inr ⟨rfl,rfl⟩⟩
    · exact ⟨_,_,ho,hn,hb,.inl rfl⟩
  have noi:∀id o,look ((a,.cells Ta 1 (R1++[.d (.v v)]::R2))::(s,.sld T (sI (l1++(v,xs)::l2)))::kill i σ) id=some o→id≠i:=fun id o ho=>by
    rcases look' id o ho with ⟨rfl,rfl⟩|⟨rfl,rfl⟩|⟨_,_,h3,_⟩
    · exact hai
    · exact Ne.symm his
    · exact h3
  refine ⟨h.os,h.tape,h.output,h.old,h.iLt,h.iNew,h.ext,⟨fun id o ho=>?_,fun id o ho=>?_,fun id o ho hn b hb=>?_,fun id id' o o' ho ho' hne hn hn' b hb hb'=>?_⟩,fun id o ho hn b hb=>?_,h.tabs,h.hid.same rfl (fun _ h=>h) (fun _ h=>.inl h) fun b ⟨id,o,ho,hn,hb⟩=>let ⟨id0,o0,g1,g2,g3,_⟩:=src id o ho hn b hb;⟨id0,o0,g1,g2,g3⟩⟩
  · rcases look' id o ho with ⟨rfl,rfl⟩|⟨rfl,rfl⟩|⟨_,_,_,ho⟩
    · refine .inr ⟨hna,cur,h2,h3,by simpa using h4,h5,fun r hr=>?_,fun q r j c hq hj=>?_⟩
      · rcases List.mem_append.1 hr with hr|hr
        · exact h6 r (List.mem_append_left _ hr)
        · rcases List.mem_cons.1 hr with rfl|hr
          · rfl
          · exact h6 r (List.mem_append_right _ (List.mem_cons_of_mem _ hr))
      · by_cases hq0:q=R1.length
        · subst hq0
          simp at hq
          subst hq
          have hj0:j=0:=by have:=(List.getElem?_eq_some_iff.1 hj).1;simp at this;omega
          subst hj0
          simp at hj
          subst hj
          exact ⟨v,hv,.d (.v hsl)⟩
        · refine h7 q r j c ?_ hj
          rw [←hq]
          rcases Nat.lt_or_ge q R1.length with h8|h8
          · rw [List.getElem?_append_left h8,List.getElem?_append_left h8]
          · rw [List.getElem?_append_right h8,List.getElem?_append_right h8]
            obtain ⟨k,hk⟩:∃k,q - R1.length=k+1:=⟨q - R1.length - 1,by omega⟩
            rw [hk];rfl
    · refine ⟨hos.1,?_,fun x hx=>?_⟩
      · have hp:=hos.2.1
        rw [HE,List.pairwise_append] at hp
        rw [HE,List.pairwise_append]
        refine ⟨hp.1,List.pairwise_cons.2 ⟨fun y hy b hb hb'=>hdis y (by rw [HE];exact List.mem_append_right _ hy) b hb' hb,hp.2.1⟩,fun x hx y hy=>?_⟩
        rcases List.mem_cons.1 hy with rfl|hy
        · exact fun b hb=>hdis x (by rw [HE];exact List.mem_append_left _ hx) b hb
        · exact hp.2.2 x hx y hy
      · obtain ⟨y,hy,rfl⟩:=PK hx
        rcases List.mem_append.1 hy with hy|hy
        · exact hos.2.2 _ (List.mem_map.2 ⟨y,List.mem_append_left _ hy,rfl⟩)
        · rcases List.mem_cons.1 hy with rfl|hy
          · exact hslot
          · exact hos.2.2 _ (List.mem_map.2 ⟨y,List.mem_append_right _ hy,rfl⟩)
    · exact h.st.obj id o ho
  · rcases look' id o ho with ⟨rfl,rfl⟩|⟨rfl,rfl⟩|⟨_,_,_,ho⟩
    · exact h.st.lt _ _ ha
    · exact h.st.lt _ _ hs
    · exact h.st.lt _ _ ho
  · obtain ⟨id0,o0,g1,g2,g3,_⟩:=src id o ho hn b hb
    exact h.st.free _ _ g1 g2 b g3
  · obtain ⟨id0,o0,g1,g2,g3,g4⟩:=src id o ho hn b hb
    obtain ⟨id0',o0',g1',g2',g3',g4'⟩:=src id' o' ho' hn' b hb'
    refine h.st.inj id0 id0' _ _ g1 g1' ?_ g2 g2' b g3 g3'
    have n1:=noi id o ho
    have n2:=noi id' o' ho'
    rintro rfl
    rcases g4 with rfl|⟨rfl,rfl⟩<;>rcases g4' with rfl|⟨e1,rfl⟩
    · exact hne rfl
    · exact n1 e1
    · exact n2 rfl
    · exact hne rfl
  · obtain ⟨id0,o0,g1,g2,g3,_⟩:=src id o ho hn b hb
    exact h.live _ _ g1 g2 b g3
theorem Ai.put {c:Code} {Q:Exit→Env→Ab→Nat→Prop} {f:Env} {nx:Nat} (a i s:Nat) (R1 R2:List (List C)) (xs:List Int) (l1 l2:GC) (ha:look σ a=some (.cells Ta 1 (R1++[.arr i 1 0 xs.length]::R2))) (hi:look σ i=some (.cells T 1 (Ik xs))) (hs:look σ s=some (.sld T (sI (l1++l2))))
    (h:∀v,Ai P TB Γ N c Q f ((a,.cells Ta 1 (R1++[.d (.v v)]::R2))::(s,.sld T (sI (l1++(v,xs)::l2)))::kill i σ) nx):Ai P TB Γ N c Q f σ nx:=by
  intro V ac hr
  obtain ⟨v,hi'⟩:=hr.inv.put ha hi hs
  exact h v V ac ⟨hr.env,hr.lt,hr.size,hi',hr.nx,hr.defers⟩
theorem Inv.take {v:Value} (h:Inv TB Γ V σ) (ha:look σ a=some (.cells Ta 1 (R1++[.d (.v v)]::R2))) (hs:look σ s=some (.sld T (sI (l1++(v,xs)::l2)))) :
    ∃V',V'.w=V.w∧V'.nx=V.nx+1∧Ext V V'∧Inv TB Γ V' ((a,.cells Ta 1 (R1++[.arr V.nx 1 0 xs.length]::R2))::(V.nx,.cells T 1 (Ik xs))::(s,.sld T (sI (l1++l2)))::σ):=by
  have has:a≠s:=fun e=>by rw [e,hs] at ha;cases ha
  have hos:=h.st.obj s _ hs
  have hsn:=h.st.lt _ _ hs
  have han:=h.st.lt _ _ ha
  have hmem:((v,xs.map (.int .i64)):Value×List Value)∈sI (l1++(v,xs)::l2):=List.mem_map.2 ⟨(v,xs),by simp,rfl⟩
  obtain ⟨b0,cap,nl,hb0,hcr,hob⟩:∃b0 cap nl,(¬nl→Hs v b0)∧Ay (Al V b0 cap nl V.w) (.arr V.nx 1 0 xs.length) v∧BO (Al V b0 cap nl V.w) V.nx (.cells T 1 (Ik xs)):=by
    rcases hos.2.2 _ hmem with ⟨h1,h2⟩|⟨b,cap,cur,h1,h2,h3,h4,h5,h6⟩
    · have h1:v=.slice none 0 0:=h1
      have hx0:xs=[]:=by simpa using h2
      subst h1;subst hx0
      exact ⟨0,0,True,fun h=>absurd trivial h,.nil (by simp [Al]) (by simp [Al]),.inl ⟨by simp [Al],rfl⟩⟩
    · have h1:v=.slice (some ⟨b,0,none⟩) (xs.map (Value.int .i64)).length cap:=h1
      rw [List.length_map] at h1 h4
      refine ⟨b,cap,False,fun _=>⟨_,_,_,h1⟩,?_,.inr ⟨by simp [Al],cur,by simpa [Al] using h2,by simpa [Al] using h3,by simpa [Al] using h4,by simpa [Al] using h5,fun r hr=>?_,fun q r j c hq hj=>?_⟩⟩
      · rw [h1]
        have:=@Ay.arr (Al V b cap False V.w) V.nx 1 0 xs.length (by simp [Al]) (by simp [Al]) (by simpa [Al] using h4)
        simpa [Al] using this
      · obtain ⟨n,_,rfl⟩:=List.mem_map.1 hr;rfl
      · rw [List.getElem?_map,Option.map_eq_some_iff] at hq
        obtain ⟨n,hn,rfl⟩:=hq
        have hj0:j=0:=by have:=(List.getElem?_eq_some_iff.1 hj).1;simp at this;omega
        subst hj0
        simp at hj
        subst hj
        exact ⟨.int .i64 n,by simpa using (h6 q (.int .i64 n) (by simp [hn])).1,.d (.v rfl)⟩
  have e:Ext V (Al V b0 cap nl V.w):=Dq (Nat.le_refl _) fun _ _=>rfl
  have hρ:(Al V b0 cap nl V.w).ρ V.nx=b0:=by simp [Al]
  have hnl:(Al V b0 cap nl V.w).nl V.nx↔nl:=by simp [Al]
  refine ⟨Al V b0 cap nl V.w,rfl,rfl,e,?_⟩
  have look':∀id o,look ((a,.cells Ta 1 (R1++[.arr V.nx 1 0 xs.length]::R2))::(V.nx,.cells T 1 (Ik xs))::(s,.sld T (sI (l1++l2)))::σ) id=some o→
      (id=a∧o=.cells Ta 1 (R1++[.arr V.nx 1 0 xs.length]::R2))∨(id=V.nx∧o=.cells T 1 (Ik xs))∨(id=s∧o=.sld T (sI (l1++l2)))∨(id≠a∧id≠s∧look σ id=some o):=fun id o ho=>by
    rw [Ar] at ho
    by_cases h1:a=id
    · rw [if_pos h1] at ho;injection ho with ho;exact .inl ⟨h1.symm,ho.symm⟩
    · rw [if_neg h1,Ar] at ho
      by_cases h2:V.nx=id
      · rw [if_pos h2] at ho;injection ho with ho;exact .inr (.inl ⟨h2.symm,ho.symm⟩)
      · rw [if_neg h2,Ar] at ho
        by_cases h3:s=id
        · rw [if_pos h3] at ho;injection ho with ho;exact .inr (.inr (.inl ⟨h3.symm,ho.symm⟩))
        · rw [if_neg h3] at ho;exact .inr (.inr (.inr ⟨Ne.symm h1,Ne.symm h3,ho⟩))
  have hsub:∀x∈sI (l1++l2),x∈sI (l1++(v,xs)::l2):=fun x hx=>by
    obtain ⟨y,hy,rfl⟩:=PK hx
    refine List.mem_map.2 ⟨y,?_,rfl⟩
    rcases List.mem_append.1 hy with hy|hy
    · exact List.mem_append_left _ hy
    · exact List.mem_append_right _ (List.mem_cons_of_mem _ hy)
  have hp:=hos.2.1
  rw [HE,List.pairwise_append] at hp
  have hp2:=List.pairwise_cons.1 hp.2.1
  have hdis:∀x∈sI (l1++l2),∀b,Hs x.1 b→¬Hs v b:=fun x hx b hb hb'=>by
    rw [HE] at hx
    rcases List.mem_append.1 hx with hx|hx
    · exact hp.2.2 x hx _ (List.mem_cons_self ..) b hb hb'
    · exact hp2.1 x hx b hb' hb
  have src:∀id o,look ((a,.cells Ta 1 (R1++[.arr V.nx 1 0 xs.length]::R2))::(V.nx,.cells T 1 (Ik xs))::(s,.sld T (sI (l1++l2)))::σ) id=some o→¬(Al V b0 cap nl V.w).nl id→∀b,Dn (Al V b0 cap nl V.w) id o b→
      ∃id0 o0,look σ id0=some o0∧¬V.nl id0∧Dn V id0 o0 b∧(id0=id∨id0=s∧id=V.nx∧Hs v b)∧(id=s→∃x∈sI (l1++l2),Hs x.1 b):=fun id o ho hn b hb=>by
    rcases look' id o ho with ⟨rfl,rfl⟩|⟨rfl,rfl⟩|⟨rfl,rfl⟩|⟨_,h3,ho⟩
    · exact ⟨_,_,ha,fun h=>hn ((e.nl _ han).2 h),by have:b=_:=hb;rw [e.ρ _ han] at this;exact this,.inl rfl,fun e=>absurd e has⟩
    · have hb:b=_:=hb
      rw [hρ] at hb
      subst hb
      have hv:=hb0 fun h=>hn (hnl.2 h)
      exact ⟨_,_,hs,hos.1,⟨_,hmem,hv⟩,.inr ⟨rfl,rfl,hv⟩,fun e=>by omega⟩
    · obtain ⟨x,hx,hb⟩:=hb
      exact ⟨_,_,hs,hos.1,⟨x,hsub x hx,hb⟩,.inl rfl,fun _=>⟨x,hx,hb⟩⟩
    · have hlt:=h.st.lt _ _ ho
      exact ⟨_,_,ho,fun h=>hn ((e.nl _ hlt).2 h),(Ax e hlt).1 hb,.inl rfl,fun e=>absurd e h3⟩
  refine ⟨h.os,h.tape,h.output,h.old,h.iLt,h.iNew,h.ext.trans e,⟨fun id o ho=>?_,fun id o ho=>?_,fun id o ho hn b hb=>?_,fun id id' o o' ho ho' hne hn hn' b hb hb'=>?_⟩,fun id o ho hn b hb=>?_,h.tabs,h.hid.same rfl (fun _ h=>h) (fun _ h=>.inl h) fun b ⟨id,o,ho,hn,hb⟩=>let ⟨id0,o0,g1,g2,g3,_⟩:=src id o ho hn b hb;⟨id0,o0,g1,g2,g3⟩⟩
  · rcases look' id o ho with ⟨rfl,rfl⟩|⟨rfl,rfl⟩|⟨rfl,rfl⟩|⟨_,_,ho⟩
    · rcases h.st.obj _ _ ha with ⟨_,h0⟩|⟨hna,cur,h2,h3,h4,h5,h6,h7⟩
      · simp at h0
      refine .inr ⟨fun h=>hna ((e.nl _ han).1 h),cur,by rw [e.ρ _ han];exact h2,by rw [e.cap _ han];exact h3,by rw [e.cap _ han];simpa using h4,by rw [e.cap _ han];exact h5,fun r hr=>?_,fun q r j c hq hj=>?_⟩
      · rcases List.mem_append.1 hr with hr|hr
        · exact h6 r (List.mem_append_left _ hr)
        · rcases List.mem_cons.1 hr with rfl|hr
          · rfl
          · exact h6 r (List.mem_append_right _ (List.mem_cons_of_mem _ hr))
      · by_cases hq0:q=R1.length
        · subst hq0
          simp at hq
          subst hq
          have hj0:j=0:=by have:=(List.getElem?_eq_some_iff.1 hj).1;simp at this;omega
          subst hj0
          simp at hj
          subst hj
          obtain ⟨w,hw,hc⟩:=h7 R1.length [.d (.v v)] 0 (.d (.v v)) (by simp) rfl
          have hw2:w=v:=Ay.val hc
          subst hw2
          exact ⟨w,hw,hcr⟩
        · obtain ⟨w,hw,hc⟩:=h7 q r j c (by
            rw [←hq]
            rcases Nat.lt_or_ge q R1.length with h8|h8
            · rw [List.getElem?_append_left h8,List.getElem?_append_left h8]
            · rw [List.getElem?_append_right h8,List.getElem?_append_right h8]
              obtain ⟨k,hk⟩:∃k,q - R1.length=k+1:=⟨q - R1.length - 1,by omega⟩
              rw [hk];rfl) hj
          exact ⟨w,hw,hc.ext e⟩
    · exact hob
    · refine ⟨fun h=>hos.1 ((e.nl _ hsn).1 h),?_,fun x hx=>hos.2.2 x (hsub x hx)⟩
      rw [HE,List.pairwise_append]
      exact ⟨hp.1,hp2.2,fun x hx y hy=>hp.2.2 x hx y (List.mem_cons_of_mem _ hy)⟩
    · exact (h.st.obj id o ho).A0 e (h.st.lt id o ho) fun _ _ _=>rfl
  · rcases look' id o ho with ⟨rfl,rfl⟩|⟨rfl,rfl⟩|⟨rfl,rfl⟩|⟨_,_,ho⟩
    · exact Nat.lt_succ_of_lt han
    · exact Nat.lt_succ_self _
    · exact Nat.lt_succ_of_lt hsn
    · exact Nat.lt_succ_of_lt (h.st.lt _ _ ho)
  · obtain ⟨id0,o0,g1,g2,g3,_⟩:=src id o ho hn b hb
    exact h.st.free _ _ g1 g2 b g3
  · obtain ⟨id0,o0,g1,g2,g3,g4,g5⟩:=src id o ho hn b hb
    obtain ⟨id0',o0',g1',g2',g3',g4',g5'⟩:=src id' o' ho' hn' b hb'
    by_cases hee:id0=id0'
    · rcases g4 with g4|⟨k1,k2,k3⟩<;>rcases g4' with g4'|⟨k1',k2',k3'⟩
      · exact hne (by rw [←g4,←g4',hee])
      · obtain ⟨x,hx,hxb⟩:=g5 (by rw [←g4,hee,k1'])
        exact hdis x hx b hxb k3'
      · obtain ⟨x,hx,hxb⟩:=g5' (by rw [←g4',←hee,k1])
        exact hdis x hx b hxb k3
      · exact hne (by rw [k2,k2'])
    · exact h.st.inj id0 id0' _ _ g1 g1' hee g2 g2' b g3 g3'
  · obtain ⟨id0,o0,g1,g2,g3,_⟩:=src id o ho hn b hb
    exact h.live _ _ g1 g2 b g3
theorem Ai.take {c:Code} {Q:Exit→Env→Ab→Nat→Prop} {f:Env} {nx:Nat} (a s:Nat) (R1 R2:List (List C)) (v:Value) (xs:List Int) (l1 l2:GC) (ha:look σ a=some (.cells Ta 1 (R1++[.d (.v v)]::R2))) (hs:look σ s=some (.sld T (sI (l1++(v,xs)::l2))))
    (h:Ai P TB Γ N c Q f ((a,.cells Ta 1 (R1++[.arr nx 1 0 xs.length]::R2))::(nx,.cells T 1 (Ik xs))::(s,.sld T (sI (l1++l2)))::σ) (nx+1)):Ai P TB Γ N c Q f σ nx:=by
  intro V ac hr
  obtain ⟨V',h1,h2,e,hi⟩:=hr.inv.take ha hs
  have:=h V' ac ⟨hr.env.ext e,hr.lt,hr.size,by have:=hr.nx;subst this;exact hi,by rw [h2,hr.nx],hr.defers⟩
  rw [h1] at this
  exact this
theorem Ai.VU {c:Code} {Q:Exit→Env→Ab→Nat→Prop} {f:Env} {nx:Nat} (T:TypeId) (h:Ai P TB Γ N c Q f ((nx,.sld T (sI []))::σ) (nx+1)):Ai P TB Γ N c Q f σ nx:=by
  intro V ac hr
  have hi:=hr.inv
  have e:Ext V (Al V 0 0 False V.w):=Dq (Nat.le_refl _) fun _ _=>rfl
  have hnx:=hr.nx
  subst hnx
  have look':∀id o,look ((V.nx,.sld T (sI []))::σ) id=some o→(id=V.nx∧o=.sld T (sI []))∨(id≠V.nx∧look σ id=some o):=fun id o ho=>by
    rw [Ar] at ho
    by_cases h1:V.nx=id
    · rw [if_pos h1] at ho;injection ho with ho;exact .inl ⟨h1.symm,ho.symm⟩
    · rw [if_neg h1] at ho;exact .inr ⟨Ne.symm h1,ho⟩
  have src:∀id o,look ((V.nx,.sld T (sI []))::σ) id=some o→∀b,Dn (Al V 0 0 False V.w) id o b→look σ id=some o∧Dn V id o b∧((Al V 0 0 False V.w).nl id↔V.nl id):=fun id o ho b hb=>by
    rcases look' id o ho with ⟨rfl,rfl⟩|⟨_,ho⟩
    · obtain ⟨x,hx,_⟩:=hb;cases hx
    · have hlt:=hi.st.lt _ _ ho
      exact ⟨ho,(Ax e hlt).1 hb,e.nl _ hlt⟩
  refine h (Al V 0 0 False V.w) ac ⟨hr.env.ext e,hr.lt,hr.size,?_,rfl,hr.defers⟩
  refine ⟨hi.os,hi.tape,hi.output,hi.old,hi.iLt,hi.iNew,hi.ext.trans e,⟨fun id o ho=>?_,fun id o ho=>?_,fun id o ho hn b hb=>?_,fun id id' o o' ho ho' hne hn hn' b hb hb'=>?_⟩,fun id o ho hn b hb=>?_,hi.tabs,hi.hid.same rfl (fun _ h=>h) (fun _ h=>.inl h) fun b ⟨id,o,ho,hn,hb⟩=>let ⟨h1,h2,h3⟩:=src id o ho b hb;⟨id,o,h1,fun h=>hn (h3.2 h),h2⟩⟩
  · rcases look' id o ho with ⟨rfl,rfl⟩|⟨_,ho⟩
    · exact ⟨by simp [Al],List.Pairwise.nil,fun x hx=>by cases hx⟩
    · exact (hi.st.obj id o ho).A0 e (hi.st.lt id o ho) fun _ _ _=>rfl
  · rcases look' id o ho with ⟨rfl,rfl⟩|⟨_,ho⟩
    · exact Nat.lt_succ_self _
    · exact Nat.lt_succ_of_lt (hi.st.lt _ _ ho)
  · obtain ⟨h1,h2,h3⟩:=src id o ho b hb
    exact hi.st.free _ _ h1 (fun h=>hn (h3.2 h)) b h2
  · obtain ⟨h1,h2,h3⟩:=src id o ho b hb
    obtain ⟨h1',h2',h3'⟩:=src id' o' ho' b hb'
    exact hi.st.inj _ _ _ _ h1 h1' hne (fun h=>hn (h3.2 h)) (fun h=>hn' (h3'.2 h)) b h2 h2'
  · obtain ⟨h1,h2,h3⟩:=src id o ho b hb
    exact hi.live _ _ h1 (fun h=>hn (h3.2 h)) b h2
def C.FY:C→Bool
  | .d (.v _)|.d (.l [])|.arr ..|.ptr ..|.mp _|.fn _ []=>true
  | _=>false
def O.FY:O→Prop
  | .cells _ _ rows=>∀r∈rows,∀c∈r,C.FY c=true
  | _=>True
def E.FY:E→Prop
  | .o c=>C.FY c=true
  | .a cs=>∀c∈cs,C.FY c=true
  | .t xs=>∀x∈xs,∀c∈x.2,C.FY c=true
  | .e=>True
def Ze (σ:Ab):Prop:=∀x∈σ,O.FY x.2
theorem Ze.get {σ:Ab} (h:Ze σ) {id:Nat} {o:O} (ho:look σ id=some o):O.FY o:=by
  induction σ with
  | nil=>cases ho
  | cons x r ih=>
    obtain ⟨k,y⟩:=x
    rw [Ar] at ho
    by_cases hk:k=id
    · rw [if_pos hk] at ho;injection ho with ho;subst ho;exact h _ (List.mem_cons_self ..)
    · rw [if_neg hk] at ho;exact ih (fun z hz=>h z (List.mem_cons_of_mem _ hz)) ho
structure NU (V V':View):Prop where
  ρ:V'.ρ=V.ρ
  cap:V'.cap=V.cap
  nl:V'.nl=V.nl
  nx:V'.nx=V.nx
  w:V'.w=V.w
theorem Ay.FY {V V':View} (s:NU V V') {c:C} {v:Value} (h:Ay V c v) (hc:c.FY=true):Ay V' c v:=by
  cases h with
  | @d x v h=>
    cases h with
    | v h=>exact .d (.v h)
    | nil=>exact .d .nil
    | e h=>exact .d (.e h)
    | @l rows b o k cap vs hb h1 h2 h3 h4 h5=>
      cases rows with
      | nil=>exact .d (.e h2)
      | cons=>cases hc
    | p=>cases hc
  | nil h1 h2=>exact .nil (by rw [s.nx];exact h1) (by rw [s.nl];exact h2)
  | @arr id k off len h1 h2 h3=>rw [←s.ρ,←s.cap];exact .arr (by rw [s.nx];exact h1) (by rw [s.nl];exact h2) (by rw [s.cap];exact h3)
  | ptr h1 h2=>rw [←s.ρ];exact .ptr (by rw [s.nx];exact h1) (by rw [s.nl];exact h2)
  | @fn f cap vs h1 h2=>
    cases cap with
    | nil=>exact .fn h1 fun j c v hj=>by simp at hj
    | cons=>cases hc
  | mp h1=>rw [←s.ρ];exact .mp (by rw [s.nx];exact h1)
  | mv=>cases hc
theorem A2.FY {V V':View} (s:NU V V') {e:E} {v:Value} (h:A2 V e v) (hc:e.FY):A2 V' e v:=by
  cases e with
  | o c=>exact Ay.FY s h hc
  | a cs=>obtain ⟨vs,h1,h2,h3⟩:=h;exact ⟨vs,h1,h2,fun j c v hj hv=>(h3 j c v hj hv).FY s (hc c (List.mem_of_getElem? hj))⟩
  | t xs=>
    obtain ⟨vs,h1,h2,h3⟩:=h
    refine ⟨vs,h1,h2,fun j x v hj hv=>?_⟩
    have h4:=h3 j x v hj hv
    have h5:=hc x (List.mem_of_getElem? hj)
    obtain ⟨b,cs⟩:=x
    cases b
    · obtain ⟨c,h6,h7⟩:=h4
      have h6:cs=[c]:=h6
      subst h6
      exact ⟨c,rfl,h7.FY s (h5 c (by simp))⟩
    · obtain ⟨ws,h6,h7,h8⟩:=h4
      exact ⟨ws,h6,h7,fun j c v hj hv=>(h8 j c v hj hv).FY s (h5 c (List.mem_of_getElem? hj))⟩
  | e=>exact h
theorem BO.FY {V V':View} (s:NU V V') {id:Nat} {o:O} (h:BO V id o) (hc:o.FY):BO V' id o:=by
  cases o with
  | cells T k rows=>
    rcases h with ⟨h1,h2⟩|⟨h0,cur,h2,h3,h4,h5,h6,h7⟩
    · exact .inl ⟨by rw [s.nl];exact h1,h2⟩
    · refine .inr ⟨by rw [s.nl];exact h0,cur,by rw [s.w,s.ρ];exact h2,by rw [s.cap];exact h3,by rw [s.cap];exact h4,by rw [s.cap];exact h5,h6,fun i r j c hi hj=>?_⟩
      obtain ⟨v,h8,h9⟩:=h7 i r j c hi hj
      exact ⟨v,h8,h9.FY s (hc r (List.mem_of_getElem? hi) c (List.mem_of_getElem? hj))⟩
  | mp es=>obtain ⟨h0,ents,clock,h1,h2⟩:=h;exact ⟨by rw [s.nl];exact h0,ents,clock,by rw [s.w,s.ρ];exact h1,h2⟩
  | sld T l=>exact ⟨by rw [s.nl];exact h.1,by rw [s.w];exact h.2⟩
section
variable {o:Oper} {f:Env} {nx:Nat}
theorem NX {V:View} {S:NV} (h:Inv TB Γ V σ) (hS:JE TB V σ S):Inv TB (DS (D0 V σ) (D0 V σ) [] S) (D0 V σ) []:=
  ⟨rfl,rfl,rfl,fun _ _ _=>rfl,fun b hb=>by
    rcases hb with hb|⟨id,o,hl,hn,hb⟩
    · exact h.iLt b hb
    · exact (h.st.obj id o hl).blt hn hb,fun _ h=>.inl h,Ext.refl _,De,fun id o ho=>(by cases ho),fun x hx=>⟨.inl (h.tabs x hx).1,(h.tabs x hx).2⟩,⟨S,⟨hS.r,fun b hb=>.inl (hS.ji b hb),fun b hb hi=>hi.elim (hS.bi b hb) fun ⟨id,o,hl,hn,hx⟩=>hS.ap b ⟨id,o,hl,hn,hx⟩ hb,fun b ⟨_,_,h,_⟩=>by cases h⟩,fun b hb=>.inl hb,fun b hb=>.inr (.inr hb)⟩⟩
theorem Mo {V V':View} {σ':Ab} {S:NV} (h2:Inv TB Γ V σ) (hS:JE TB V σ S) (hSJ:∀b,S.J b→Γ.J b∨Γ.V.w.heap.size≤b∨Γ.F b) (hSB:∀b,S.B b→Γ.V.w.heap.size≤b∨Γ.F b) (he:Ext (D0 V σ) V') (hi:Inv TB (DS (D0 V σ) (D0 V σ) [] S) V' σ') (ho':Ze σ') :
    ∃V3,NU V' V3∧Ext V V3∧Inv TB Γ V3 (σ'++σ):=by
  have s:NU V' { V' with I:=fun b=>V.I b∨(V'.I b∧(V.w.heap.size≤b∨S.B b)) } := ⟨rfl,rfl,rfl,rfl,rfl⟩
  have e:Ext V { V' with I:=fun b=>V.I b∨(V'.I b∧(V.w.heap.size≤b∨S.B b)) } := ⟨fun _ h=>.inl h,fun b hb=>he.heap b (.inl hb),he.size,he.ρ,he.cap,he.nl,he.nx⟩
  have bs:∀ {id:Nat} {o:O} {b:Nat},Dn { V' with I:=fun b=>V.I b∨(V'.I b∧(V.w.heap.size≤b∨S.B b)) } id o b↔Dn V' id o b:=fun {id o b} => by cases o<;>exact Iff.rfl
  have hnew:∀id o,look σ' id=some o→¬V'.nl id→∀b,Dn V' id o b→V.w.heap.size≤b∨S.B b:=fun id o ho hn b hb=>by
    rcases hi.live id o ho hn b hb with h|h|h
    · exact .inl h
    · obtain ⟨_,_,h,_⟩:=h;cases h
    · exact .inr h
  have hap:∀id o,look σ id=some o→¬V.nl id→∀b,Dn V id o b→(V.w.heap.size≤b∨S.B b)→False:=fun id o ho hn b hb h=>by
    rcases h with h|h
    · have:=(h2.st.obj _ _ ho).blt hn hb;omega
    · exact hS.ap b ⟨id,o,ho,hn,hb⟩ h
  refine ⟨_,s,e,⟨hi.os.trans h2.os,hi.tape.trans h2.tape,hi.output.trans h2.output,fun b hb hf=>(hi.old b (Nat.lt_of_lt_of_le hb h2.ext.size) (fun h=>h.elim (fun ⟨_,_,h,_⟩=>by cases h) fun h=>(hSB b h).elim (fun h=>by omega) hf)).trans (h2.old b hb hf),fun b hb=>?_,fun b hb=>?_,h2.ext.trans e,⟨fun id o ho=>?_,fun id o ho=>?_,fun id o ho hn b hb hI=>?_,fun id id' o o' ho1 ho2 hne hn hn' b hb hb'=>?_⟩,fun id o ho hn b hb=>?_,fun x hx=>⟨.inl (h2.tabs x hx).1,(hi.tabs x hx).2⟩,?_⟩⟩
  · rcases hb with hb|hb
    · exact hi.iLt b (he.i b (.inl hb))
    · exact hi.iLt b hb.1
  · rcases hb with hb|hb
    · exact h2.iNew b hb
    · rcases hb.2 with h|h
      · exact .inr (.inl (Nat.le_trans h2.ext.size h))
      · exact .inr (hSB b h)
  · rcases BM ho with ho|ho
    · exact (hi.st.obj id o ho).FY s (ho'.get ho)
    · exact (h2.st.obj id o ho).A0 e (h2.st.lt id o ho) fun hn b hb=>he.heap b (.inr ⟨id,o,ho,hn,hb⟩)
  · rcases BM ho with ho|ho
    · exact hi.st.lt id o ho
    · exact Nat.lt_of_lt_of_le (h2.st.lt id o ho) he.nx
  · rcases BM ho with ho|ho
    · have h3:=hi.st.free id o ho hn b (bs.1 hb)
      rcases hI with hI|hI
      · exact h3 (he.i b (.inl hI))
      · exact h3 hI.1
    · have hlt:=h2.st.lt id o ho
      have hb:=(Ax e hlt).1 hb
      have hn:¬V.nl id:=fun h=>hn ((e.nl id hlt).2 h)
      rcases hI with hI|hI
      · exact h2.st.free id o ho hn b hb hI
      · exact hap id o ho hn b hb hI.2
  · rcases BM ho1 with ho1|ho1<;>rcases BM ho2 with ho2|ho2
    · exact hi.st.inj _ _ _ _ ho1 ho2 hne hn hn' b (bs.1 hb) (bs.1 hb')
    · have h3:=hnew id o ho1 hn b (bs.1 hb)
      have hlt:=h2.st.lt _ _ ho2
      exact hap _ _ ho2 (fun h=>hn' ((e.nl _ hlt).2 h)) b ((Ax e hlt).1 hb') h3
    · have h3:=hnew id' o' ho2 hn' b (bs.1 hb')
      have hlt:=h2.st.lt _ _ ho1
      exact hap _ _ ho1 (fun h=>hn ((e.nl _ hlt).2 h)) b ((Ax e hlt).1 hb) h3
    · have hlt:=h2.st.lt _ _ ho1
      have hlt':=h2.st.lt _ _ ho2
      exact h2.st.inj _ _ _ _ ho1 ho2 hne (fun h=>hn ((e.nl _ hlt).2 h)) (fun h=>hn' ((e.nl _ hlt').2 h)) b ((Ax e hlt).1 hb) ((Ax e hlt').1 hb')
  · rcases BM ho with ho|ho
    · rcases hnew id o ho hn b (bs.1 hb) with h|h
      · exact .inl (Nat.le_trans h2.ext.size h)
      · exact hSB b h
    · have hlt:=h2.st.lt _ _ ho
      exact h2.live id o ho (fun h=>hn ((e.nl _ hlt).2 h)) b ((Ax e hlt).1 hb)
  · obtain ⟨S1,k1,k2,k3⟩:=hi.hid
    have hB:∀b,S1.B b→V.w.heap.size≤b∨S.B b:=fun b hb=>by
      rcases k3 b hb with h|h|h
      · exact .inl h
      · obtain ⟨_,_,h,_⟩:=h;cases h
      · exact .inr h
    refine ⟨S1,⟨k1.r,fun b hb=>?_,fun b hb hI=>k1.bi b hb (hI.elim (fun h=>he.i b (.inl h)) fun h=>h.1),fun b ⟨id,o,ho,hn,hb⟩ hB1=>?_⟩,fun b hb=>?_,fun b hb=>?_⟩
    · rcases k2 b hb with h|h|h|h
      · exact .inl (hS.ji b h)
      · exact .inr ⟨k1.ji b hb,.inl h⟩
      · obtain ⟨_,_,h,_⟩:=h;cases h
      · exact .inr ⟨k1.ji b hb,.inr h⟩
    · rcases BM ho with ho|ho
      · exact k1.ap b ⟨id,o,ho,hn,bs.1 hb⟩ hB1
      · have hlt:=h2.st.lt _ _ ho
        exact hap _ _ ho (fun h=>hn ((e.nl _ hlt).2 h)) b ((Ax e hlt).1 hb) (hB b hB1)
    · rcases k2 b hb with h|h|h|h
      · exact hSJ b h
      · exact .inr (.inl (Nat.le_trans h2.ext.size h))
      · obtain ⟨_,_,h,_⟩:=h;cases h
      · exact .inr (hSB b h)
    · rcases hB b hb with h|h
      · exact .inl (Nat.le_trans h2.ext.size h)
      · exact hSB b h
theorem Qu {V:View} {a:Act} {L:List (Nat×E)} (h2:Inv TB Γ V σ) (hE:NP σ f L) (h1:Gf V o f a):Gf (D0 V σ) o (look L) a:=fun t e ht he=>by
  obtain ⟨y,h3,h4⟩:=hE.get t e he
  exact h4.rel h2 (h1 t y ht h3)
theorem B3.Vs {K:E→Ab→Nat→Prop} (L:List (Nat×E)) (hE:NP σ f L) (h:∀Γ',B3 P TB Γ' o (look L) [] nx (fun x σ1 nx1=>(E.FY x∧Ze σ1)∧K x (σ1++σ) nx1)):B3 P TB Γ o f σ nx K:=by
  intro V a h1 h2 h3
  obtain ⟨S,hS,hSJ,hSB⟩:=h2.hid
  refine Oper.wp_mono ?_ (h (DS (D0 V σ) (D0 V σ) [] S) (D0 V σ) a (Qu h2 hE h1) (NX h2 hS) h3)
  rintro a' w' ⟨V',v,x,σ',rfl,rfl,he,hi,hx,⟨hxo,hso⟩,hk⟩
  obtain ⟨V3,s,e,hi3⟩:=Mo h2 hS hSJ hSB he hi hso
  exact ⟨V3,v,x,_,s.w,rfl,e,hi3,hx.FY s hxo,by rw [s.nx];exact hk⟩
theorem AU.Vs {x:E} (L:List (Nat×E)) (hE:NP σ f L) (h:∀Γ',AU P TB Γ' o (look L) [] nx x) (hxo:x.FY):AU P TB Γ o f σ nx x:=by
  intro V a h1 h2 h3
  obtain ⟨S,hS,hSJ,hSB⟩:=h2.hid
  refine Oper.wp_mono ?_ (h (DS (D0 V σ) (D0 V σ) [] S) (D0 V σ) a (Qu h2 hE h1) (NX h2 hS) h3)
  rintro a' w' ⟨V',v,rfl,rfl,he,hi,hn,hx⟩
  obtain ⟨V3,s,e,hi3⟩:=Mo h2 hS hSJ hSB he hi (fun x hx=>by cases hx)
  exact ⟨V3,v,s.w,rfl,e,hi3,by rw [s.nx];exact hn,hx.FY s hxo⟩
end
def Il (σ:Ab):List Nat→Ab
  | []=>[]
  | i::r=>match look σ i with
    | some o=>(i,o)::Il σ r
    | none=>Il σ r
theorem FD {σ:Ab}:∀ {ids:List Nat} {id:Nat} {o:O},look (Il σ ids) id=some o→id∈ids∧look σ id=some o
  | [],_,_,h=>by cases h
  | i :: r,id,o,h=>by
    unfold Il at h
    split at h
    · rename_i o' ho
      rw [Ar] at h
      by_cases hi:i=id
      · rw [if_pos hi] at h;injection h with h;subst h;subst hi;exact ⟨List.mem_cons_self ..,ho⟩
      · rw [if_neg hi] at h
        have:=FD h
        exact ⟨List.mem_cons_of_mem _ this.1,this.2⟩
    · have:=FD h
      exact ⟨List.mem_cons_of_mem _ this.1,this.2⟩
def Sq (σi:Ab) (f:Env):List (Nat×E)→Prop
  | []=>True
  | (t,e')::L=>(∃e,f t=some e∧(e=e'∨EZ σi e e'))∧Sq σi f L
theorem Sq.get {σi:Ab} {f:Env}:∀ {L:List (Nat×E)},Sq σi f L→∀t e',look L t=some e'→∃e,f t=some e∧(e=e'∨EZ σi e e')
  | [],_,t,e,h=>by cases h
  | (k,x)::L,hs,t,e,h=>by
    rw [Ar] at h
    by_cases hk:k=t
    · rw [if_pos hk] at h;injection h with h;subst h;subst hk;exact hs.1
    · rw [if_neg hk] at h;exact Sq.get hs.2 t e h
theorem Ai.AD {c:Code} {Q:Exit→Env→Ab→Nat→Prop} {f:Env} {nx:Nat} (ids:List Nat) (L:List (Nat×E)) (hE:Sq (Il σ ids) f L) (h:Ai P TB Γ N c Q (look L) (BU ids σ) nx):Ai P TB Γ N c Q f σ nx:=by
  intro V a hr
  have hi:=hr.inv
  have hsub:∀id o,look (Il σ ids) id=some o→look σ id=some o:=fun id o h=>(FD h).2
  have his:Inv TB Γ V (Il σ ids):=hi.sub hsub
  have e:Ext V (D0 V (Il σ ids)):=JR
  refine h (D0 V (Il σ ids)) a ⟨fun t x hx=>?_,fun t x hx=>?_,hr.size,?_,hr.nx,hr.defers⟩
  · obtain ⟨y,h1,h2⟩:=hE.get t x hx
    rcases h2 with rfl|h2
    · exact (hr.env t _ h1).ext e
    · exact h2.rel his (hr.env t y h1)
  · obtain ⟨y,h1,_⟩:=hE.get t x hx
    exact hr.lt t y h1
  · refine ⟨hi.os,hi.tape,hi.output,hi.old,?_,?_,hi.ext.trans e,⟨?_,?_,?_,?_⟩,?_,fun x hx=>⟨.inl (hi.tabs x hx).1,(hi.tabs x hx).2⟩,hi.hid.same rfl (fun _ h=>.inl h) (fun b hb=>hb.elim .inl fun ⟨id,o,hl,hn,he⟩=>.inr ⟨id,o,hsub _ _ hl,hn,he⟩) fun b ⟨id,o,hl,hn,hb⟩=>have h2:=(Ba ids σ id o hl).2;⟨id,o,h2,hn,(Ax e (hi.st.lt id o h2)).1 hb⟩⟩
    · rintro b (hb|⟨id,o,hl,hn,hb⟩)
      · exact hi.iLt b hb
      · exact (hi.st.obj id o (hsub _ _ hl)).blt hn hb
    · rintro b (hb|⟨id,o,hl,hn,hb⟩)
      · exact hi.iNew b hb
      · exact .inr (hi.live id o (hsub _ _ hl) hn b hb)
    · intro id o hl
      have:=(Ba ids σ id o hl).2
      exact (hi.st.obj id o this).A0 e (hi.st.lt id o this) fun _ _ _=>rfl
    · intro id o hl;exact hi.st.lt id o (Ba ids σ id o hl).2
    · intro id o hl hn b hb' hb
      obtain ⟨h1,h2⟩:=Ba ids σ id o hl
      have hb':=(Ax e (hi.st.lt id o h2)).1 hb'
      rcases hb with hb|⟨id',o',hl',hn',he⟩
      · exact hi.st.free id o h2 hn b hb' hb
      · have h3:=FD hl'
        exact hi.st.inj id id' o o' h2 h3.2 (fun e=>h1 (e ▸ h3.1)) hn hn' b hb' he
    · intro id id' o o' hl hl' hne hn hn' b hb hb'
      have h2:=(Ba ids σ id o hl).2
      have h2':=(Ba ids σ id' o' hl').2
      exact hi.st.inj id id' o o' h2 h2' hne hn hn' b ((Ax e (hi.st.lt id o h2)).1 hb) ((Ax e (hi.st.lt id' o' h2')).1 hb')
    · intro id o hl hn b hb
      have h2:=(Ba ids σ id o hl).2
      exact hi.live id o h2 hn b ((Ax e (hi.st.lt id o h2)).1 hb)
theorem FZ.JZ {a s:Nat} {T Ta:TypeId} {l:GC} (ha:look σ a=some (.cells Ta 1 (Aw l))) (hs:look σ s=some (.sld T (sI l))):FZ σ (.arr a 1 0 l.length) (DA (l.map (·.2))):=by
  refine .rows ha (by simp) (B1 l) fun i r' hi=>?_
  simp only [List.getElem?_map,Option.map_eq_some_iff] at hi
  obtain ⟨x,⟨y,hy,rfl⟩,rfl⟩:=hi
  refine ⟨[.d (.v y.1)],by simp [Aw,hy],.cons ?_ .nil⟩
  have h1:FZ σ (.d (.v y.1)) (.l ((y.2.map (Value.int .i64)).map fun x=>[D.v x])):=.sld hs (List.mem_map.2 ⟨y,List.mem_of_getElem? hy,rfl⟩)
  rw [List.map_map] at h1
  exact h1
theorem Ai.PF {c:Code} {Q:Exit→Env→Ab→Nat→Prop} {f:Env} {nx:Nat} (a i s:Nat) (l:GC) (xs:List Int) (ha:look σ a=some (.cells Ta 1 (Aw l++[[.arr i 1 0 xs.length]]))) (hi:look σ i=some (.cells T 1 (Ik xs))) (hs:look σ s=some (.sld T (sI l)))
    (h:∀v,Ai P TB Γ N c Q f ((a,.cells Ta 1 (Aw (l++[(v,xs)])))::(s,.sld T (sI (l++[(v,xs)])))::kill i σ) nx):Ai P TB Γ N c Q f σ nx:=
  Ai.put a i s (Aw l) [] xs l [] ha hi (by rw [List.append_nil];exact hs) fun v=>by
    have:=h v
    rw [AJ] at this
    exact this
theorem KJ {l:GC} {k:Nat} {y:Value×List Int} (h:l[k]? = some y):l=l.take k++y::l.drop (k+1)∧(l.take k).length=k:=by
  obtain ⟨hk,rfl⟩:=List.getElem?_eq_some_iff.1 h
  refine ⟨?_,by rw [List.length_take];omega⟩
  rw [←List.drop_eq_getElem_cons hk,List.take_append_drop]
theorem Ny {α:Type} {l1 l2:List α} {x y:α} {k:Nat} (h:l1.length=k):(l1++x::l2).set k y=l1++y::l2:=by
  subst h;simp
theorem Ai.XC {c:Code} {Q:Exit→Env→Ab→Nat→Prop} {f:Env} {nx:Nat} (a s:Nat) (l:GC) (k:Nat) (y:Value×List Int) (hk:l[k]? = some y) (ha:look σ a=some (.cells Ta 1 (Aw l))) (hs:look σ s=some (.sld T (sI l)))
    (h:Ai P TB Γ N c Q f ((a,.cells Ta 1 ((Aw l).set k [.arr nx 1 0 y.2.length]))::(nx,.cells T 1 (Ik y.2))::(s,.sld T (sI (l.eraseIdx k)))::σ) (nx+1)):Ai P TB Γ N c Q f σ nx:=by
  obtain ⟨h1,h2⟩:=KJ hk
  obtain ⟨v,xs⟩:=y
  have e1:Aw l=Aw (l.take k)++[.d (.v v)]::Aw (l.drop (k+1)):=by
    have:=congrArg Aw h1
    rw [AJ] at this;exact this
  refine Ai.take a s (Aw (l.take k)) (Aw (l.drop (k+1))) v xs (l.take k) (l.drop (k+1)) (by rw [←e1];exact ha) (by rw [←h1];exact hs) ?_
  have e2:(Aw l).set k [.arr nx 1 0 xs.length]=Aw (l.take k)++[.arr nx 1 0 xs.length]::Aw (l.drop (k+1)):=by
    rw [e1,Ny (by rw [B1,h2])]
  have e3:l.eraseIdx k=l.take k++l.drop (k+1):=List.eraseIdx_eq_take_drop_succ ..
  rw [e2,e3] at h
  exact h
theorem Ai.putAt {c:Code} {Q:Exit→Env→Ab→Nat→Prop} {f:Env} {nx:Nat} (a i s:Nat) (l:GC) (k:Nat) (y:Value×List Int) (hk:l[k]? = some y) (xs:List Int) (ha:look σ a=some (.cells Ta 1 ((Aw l).set k [.arr i 1 0 xs.length]))) (hi:look σ i=some (.cells T 1 (Ik xs))) (hs:look σ s=some (.sld T (sI (l.eraseIdx k))))
    (h:∀v,Ai P TB Γ N c Q f ((a,.cells Ta 1 (Aw (l.set k (v,xs))))::(s,.sld T (sI (l.set k (v,xs))))::kill i σ) nx):Ai P TB Γ N c Q f σ nx:=by
  obtain ⟨h1,h2⟩:=KJ hk
  have e1:Aw l=Aw (l.take k)++[.d (.v y.1)]::Aw (l.drop (k+1)):=by
    have:=congrArg Aw h1
    rw [AJ] at this;exact this
  rw [e1,Ny (by rw [B1,h2])] at ha
  rw [show l.eraseIdx k=l.take k++l.drop (k+1) from List.eraseIdx_eq_take_drop_succ ..] at hs
  refine Ai.put a i s (Aw (l.take k)) (Aw (l.drop (k+1))) xs (l.take k) (l.drop (k+1)) ha hi hs fun v=>?_
  have h3:l.set k (v,xs)=l.take k++(v,xs)::l.drop (k+1):=by
    have this:l.set k (v,xs)=(l.take k++y::l.drop (k+1)).set k (v,xs):=congrArg (fun m=>List.set m k (v,xs)) h1
    rw [this,Ny h2]
  have:=h v
  rw [h3,AJ] at this
  exact this
theorem AN.AP {g:FuncId} {m nx:Nat} {args:List E} {post:E→Ab→Nat→Prop}
    (h:AN P TB g m σ nx args (fun x σ1 nx1=>∃(l:List Nat) (x':E) (σ2:Ab),((∀i,i < m→l[i]? = some i)∧l.Nodup)∧x=x'.AP (nm l nx1)∧AO (nm l nx1) σ1 σ2∧post x' σ2 l.length)):AN P TB g m σ nx args post:=
  ⟨h.1, fun V vs S hg ha=>(h.2 V vs S hg ha).mono fun e w' ⟨V',v,x,σ',h1,h2,h3,h4,l,x',σ2,h5,h6,h7,h8⟩=>by
    have hr:BJ TB (DS V (IZ V m) σ S) 1 V' (look [(0,x)]) σ' V'.nx { tmps:=#[v],defers:=[] } := by
      refine ⟨fun t y hy=>?_,fun t y hy=>?_,rfl,h3,rfl,rfl⟩
      · rw [Ar] at hy
        by_cases ht:0=t
        · rw [if_pos ht] at hy;injection hy with hy;subst hy;subst ht;exact h4
        · rw [if_neg ht] at hy;cases hy
      · rw [Ar] at hy
        by_cases ht:0=t
        · subst ht;exact Nat.zero_lt_one
        · rw [if_neg ht] at hy;cases hy
    obtain ⟨V'',e1,e2⟩:=hr.AP l [(0,x')] σ2 h5.1 h5.2 ⟨by rw [←h6];rfl,trivial⟩ h7
    refine ⟨V'',v,x',σ2,h1,e1.trans h2,e2.inv,e2.env 0 x' rfl,?_⟩
    rw [e2.nx];exact h8⟩
theorem BT {m:Nat} {σ σ':Ab} (i:Nat) (hm:m=2 ^ i) (h:look σ' i=look σ i):Kept m σ σ':=fun id hb=>by
  subst hm
  rw [Nat.testBit_two_pow] at hb
  have:i=id:=of_decide_eq_true hb
  subst this;exact h
theorem Gq {m:Nat} {σ σ':Ab} (i j:Nat) (hm:m=2 ^ i ||| 2 ^ j) (h:look σ' i=look σ i) (h':look σ' j=look σ j):Kept m σ σ':=fun id hb=>by
  subst hm
  rw [Nat.testBit_or,Bool.or_eq_true,Nat.testBit_two_pow,Nat.testBit_two_pow,decide_eq_true_eq,decide_eq_true_eq] at hb
  rcases hb with hb|hb
  · subst hb;exact h
  · subst hb;exact h'
theorem Iq {l1 l2:GC} {c:C} {k:Nat} (h:l1.length=k):(Aw l1++[c]::Aw l2)[k]? = some [c]:=by
  subst h
  rw [List.getElem?_append_right (by rw [B1];exact Nat.le_refl _),B1];simp
theorem eR [hT:Cj P] {g:FuncId} {fn:Func} {c:Code} {nx:Nat} {args:List E} {post:E→Ab→Nat→Prop} (hf:P.funcs[g]? = some fn) (hb:fn.body=some c) (hname:(fn.name == "runtime.NumGoroutine")=false)
    (ha:Nat.ble args.length fn.ntmps=true) (h:∀Γ:Ctx,Γ.V.nx=nx→Ai P TB Γ fn.ntmps c (Ss hT.T fn.results (fun x σ1 nx1=>∃(l:List Nat) (x':E) (σ2:Ab),((∀i,i < nx→l[i]? = some i)∧l.Nodup)∧x=x'.AP (nm l nx1)∧AO (nm l nx1) σ1 σ2∧post x' σ2 l.length)) (look (BP 0 args)) σ nx):Spec P TB g σ nx args post:=
  AN.Ji (AN.AP (AN.NM (Nat.le_refl _) hf hb hname (Nat.le_of_ble_eq_true ha) h))
end
theorem cN:(∀(r:Nat→Nat) (l:GC),(Aw l).map (C.BG r)=Aw l)∧(∀(α:Type) (b:Bool) (x y:α),(bif b then x else y)=if b=true then x else y)∧∀a b:Nat,(Nat.beq a b=true)=(a=b):=
  ⟨OK,fun _ b _ _=>by cases b<;>rfl,fun _ _=>Nat.beq_eq⟩
end Go.Am
namespace Go.Am
open Go
set_option linter.unusedVariables false
variable {TB:Bc}
section
variable {P:Program} {Γ:Ctx} {d:Option Tmp} {ty:TypeId} {pos:String} {af:Array Edge} {g:Option (Nat×Bool)} {f:Env} {σ:Ab} {nx:Nat}
theorem KR {t:TypeId} {z:List Value} {fl:List (Nat×Nat)} {parts:Array (Nat×Operand)} {es:List E} {qs:List (Nat×List C)} [hz:Bz P t z] [hf:DG P t fl] (hes:GI f (parts.toList.map (·.2))=some es) (hq:DK fl parts.toList es=some qs)
    (hok:z.all K4=true) (hle:(qs.all fun x=>Nat.ble (x.1+x.2.length) z.length)=true):AU P TB Γ ⟨d,.build t parts,ty,pos,af,g⟩ f σ nx (.a (BK qs (z.map fun v=>C.d (.v v)))):=
  Az fun V ρ h1 _=>by
    obtain ⟨i,zv,hi,hzv,hzz⟩:=FP hz.out
    have hfo:=Cs (V:=V) (ρ:=ρ) parts.toList es qs (fun x hx e he=>h1.get (by simp only [Op.operands];simpa using hx) he) hes hq
    have hzr:Cr V (z.map fun v=>C.d (.v v)) zv.cells:=by
      refine ⟨by rw [List.length_map,←hzz];simp,fun j c v hj hv=>?_⟩
      simp only [List.getElem?_map,Option.map_eq_some_iff] at hj
      obtain ⟨u,hu,rfl⟩:=hj
      have:u=v:=by
        rw [←hzz] at hu
        simp only [Array.getElem?_toList] at hu
        rw [hu] at hv;exact Option.some.inj hv
      subst this
      exact .d (.v (List.all_eq_true.1 hok u (List.mem_of_getElem? hu)))
    obtain ⟨cells,h3,h4⟩:=Ek _ _ _ _ hfo hzr (fun x hx=>by rw [List.length_map];exact Gl _ _ hle x hx)
    have hh:=hf.out
    have hparts:(parts.map fun (i,x)=>(i,ρ x)).toList=parts.toList.map fun (i,x)=>(i,ρ x):=by simp
    refine ⟨.agg cells,?_,cells,rfl,h4⟩
    have hb : (Instr.build t (parts.map fun (i,x)=>(i,ρ x))).run P V.w=.ok (.agg cells) V.w:=by
      unfold Ym at hh
      split at hh
      · rename_i fs hu
        have hpl:∀(l:List Field) (ll:List (Nat×Nat)),(l.mapM fun f=>(P.info? f.type).map fun i=>(f.offset,i.size))=some ll→∀w,((l.mapM fun f=>do pure (f.offset,←sizeOf f.type)):Sem (List (Nat×Nat))).run P w=.ok ll w:=by
          intro l
          induction l with
          | nil=>intro ll h w;simp at h;subst h;simp [go_sem]
          | cons y l ih=>
            intro ll h w
            simp only [List.mapM_cons,Option.bind_eq_bind,Option.bind_eq_some_iff,Option.map_eq_some_iff] at h
            obtain ⟨p,⟨ii,hii,rfl⟩,ll',h5,h6⟩:=h
            simp at h6
            subst h6
            have hs:(sizeOf y.type).run P w=.ok ii.size w:=by simp [sizeOf,typeInfo,hii,go_sem]
            have ihh:=ih ll' h5 w
            simp only [bind_pure_comp] at ihh
            simp only [List.mapM_cons,Sem.run_bind,hs,Result.andThen_ok,bind_pure_comp,Sem.run_map,ihh]
        have hpl2:=hpl fs.toList fl hh V.w
        have hz0:(zeroValue t).run P V.w=.ok zv V.w:=by simp [zeroValue,typeInfo,hi,hzv,go_sem]
        have ha:((fs.mapM fun f=>do pure (f.offset,←sizeOf f.type)):Sem (Array (Nat×Nat))).run P V.w=.ok fl.toArray V.w:=by
          rw [Array.mapM_eq_mapM_toList,Sem.run_map,hpl2];rfl
        rw [←hparts] at h3
        simp only [Instr.build,Sem.run_bind,hz0,Result.andThen_ok,run_underlying hu,ha]
        simp only [List.getElem?_toArray]
        rw [h3]
        rfl
      · rename_i n e hu
        simp only [Option.map_eq_some_iff] at hh
        obtain ⟨ii,hii,rfl⟩:=hh
        have hz0:(zeroValue t).run P V.w=.ok zv V.w:=by simp [zeroValue,typeInfo,hi,hzv,go_sem]
        have hs:(sizeOf e).run P V.w=.ok ii.size V.w:=by simp [sizeOf,typeInfo,hii,go_sem]
        have hfill:∀(ps:List (Nat×Value)) (c c':Array Value),Instr.fill (fun i=>((List.range n).map fun j=>(j*ii.size,ii.size))[i]?) c ps=some c'→Instr.fill (fun i=>some (i*ii.size,ii.size)) c ps=some c':=by
          intro ps
          induction ps with
          | nil=>intro c c' h;simpa [Instr.fill] using h
          | cons p ps ih=>
            intro c c' h
            obtain ⟨i',v'⟩:=p
            unfold Instr.fill at h ⊢
            by_cases hlt:i' < n
            · simp only [List.getElem?_map,List.getElem?_range hlt,Option.map_some] at h
              simp only at h ⊢
              split at h
              · cases h
              · rename_i hno
                rw [if_neg hno];exact ih _ _ (by simpa only [List.getElem?_map] using h)
            · simp [hlt] at h
        rw [←hparts] at h3
        simp only [Instr.build,Sem.run_bind,hz0,Result.andThen_ok,run_underlying hu,hs]
        rw [hfill _ _ _ h3]
        rfl
      · cases hh
    show ((do let v ←Instr.build t (parts.map fun (i,x)=>(i,ρ x));pure (Go.Next.value v):Sem Go.Next)).run P V.w=_
    simp only [Sem.run_bind,hb,Result.andThen_ok]
    rfl
end
theorem Ow {P:Program} {Γ:Ctx} {o:Oper} {L:List (Nat×E)} {σ:Ab} {nx:Nat} {K:E→Ab→Nat→Prop} {b:Option Addr} (t:Tmp) (hx:look L t=some (.o (.d (.v (.slice b 0 0))))) (h:B3 P TB Γ o (look ((t,.e)::L)) σ nx K):B3 P TB Γ o (look L) σ nx K:=by
  intro V a h1 h2 h3
  refine h V a ?_ h2 h3
  intro t' e' ht' he'
  rw [Ar] at he'
  by_cases he:t=t'
  · subst he
    rw [if_pos rfl] at he'
    injection he' with he'
    subst he'
    exact ⟨b,Ay.val (h1 t _ ht' hx)⟩
  · rw [if_neg he] at he'
    exact h1 t' e' ht' he'
theorem Nk {P:Program} {Γ:Ctx} {ops:Array Oper} {fl:Fl} {i n:Nat} {L:List (Nat×E)} {σ:Ab} {nx:Nat} {K:Env→Ab→Nat→Prop} {op:Op} {ty:TypeId} {pos:String} {af:Array Edge} {g:Option (Nat×Bool)}
    (h:B3 P TB Γ ⟨none,op,ty,pos,af,g⟩ (look L) σ nx (fun _ σ' nx'=>Kept (fl i - 1000) σ σ'∧Lex P TB Γ ops (Aj fl (i+1) n) K (look L) σ' nx')) (hg:Bf ops ⟨none,op,ty,pos,af,g⟩ (look L)=some true) (hf:Nat.ble 10 (fl i)=true∧Nat.ble 1000 (fl i)=true):Br P TB Γ ops ⟨none,op,ty,pos,af,g⟩ fl i n K L σ nx:=
  fun ho=>QJ ho hg hf h
end Go.Am
