/-
  Tasks of systems: walked.
-/
import Derived.Test.YtdbppcildogedaaGreatDoorPart21
import Derived.Test.YtdbppcildogedaaGreatDoorPart18
set_option linter.constructorNameAsVariable false
set_option linter.unusedSimpArgs false
set_option linter.unusedVariables false
namespace Go.Am
open Go Go.Proofs
set_option maxHeartbeats 1000000
attribute [local irreducible] QOp AOp Lex LexO AWp Spec
variable {TB:Amb}
def ifcO (s:Sys) (p:Aut) (o:Sys):Int:=if sysOk s && (autOk p && sysOk o) then iAnd .i64 (iOr .i64 s.al p.al) o.al else -1
theorem interfaceOf_ok (s:Sys) (p:Aut) (o:Sys):Pure Tryz.prog TB 130 [eSys s,eAut p,eSys o] (eI .i64 (ifcO s p o)):=by
  unfold ifcO
  refine eN Tryz.func130 rfl (by kernel_rfl) rfl ?_;intro Γ hΓ
  (repeat' first|refine sN rfl ?_|((first|refine sA rfl ?_ ?_|refine s4 rfl ‹_› rfl ?_ ?_);first|exact tI|omega|simp only[oZ] at *;omega)|refine s2 rfl fun _ _hb=>?_ |(refine sC rfl (specSystemValid_ok s) ?_;intro _ _hb)|(refine sC rfl (specAutomatonValid_ok p) ?_;intro _ _hb)|(refine sC rfl (specSystemValid_ok o) ?_;intro _ _hb)|refine s3 rfl ?_ ?_<;>rintro rfl|refine aU rfl ?_|refine lexE ?_|refine rE (by kernel_rfl) ?_|(refine aC rfl ?_ ?_<;>rintro ⟨⟩)|refine aK ?_|refine aE ?_|refine aB ?_|refine AWp.ret ⟨_,rfl,?_⟩)
  all_goals first
    | (show E.o _=E.o _;simp_all;done)
    | trace_state
def rankN (m n:Nat):Nat:=(List.range n).countP (m.testBit ·)
theorem rankN_succ (m n:Nat):rankN m (n+1)=if m.testBit n then rankN m n+1 else rankN m n:=by
  unfold rankN
  rw [List.range_succ,List.countP_append]
  cases h:m.testBit n<;>simp [h]
theorem rankN_le (m n:Nat):rankN m n≤n:=by
  unfold rankN
  have:=List.countP_le_length (p:=(m.testBit ·)) (l:=List.range n)
  rwa [List.length_range] at this
theorem l2Rank_ok (m:Nat) (hm:m < 2 ^ 62) (n:Nat) (hn:n≤60):Pure Tryz.prog TB 157 [eI .i64 (m:Nat),eI .i64 (n:Nat)] (eI .i64 (rankN m n:Nat)):=by
  refine SpecK.toSpec (SpecK.ofG (Nat.le_refl _) Tryz.func157 rfl (by kernel_rfl) (Nat.le_of_ble_eq_true rfl) ?_);intro Γ hΓ
  (repeat first|refine sN rfl ?_|((first|refine sA rfl ?_ ?_|refine s4 rfl ‹_› rfl ?_ ?_);first|exact tI|omega|simp only[oZ] at *;omega)|refine s2 rfl fun _ _hb=>?_|refine s3 rfl ?_ ?_<;>rintro rfl|refine aU rfl ?_|refine lexE ?_)
  refine AWp.block ?_
  refine AWp.loopV (α:={k:Nat // k≤n}) [0,1] [] rfl rfl (fun ⟨k,hk⟩=>[(5,eI .i64 (rankN m k:Nat)),(6,eI .i64 k)]) (fun ⟨k,hk⟩=>[]) 0 (fun ⟨k,hk⟩=>n - k) (⟨0,by omega⟩) (List.range 0) (rg hΓ rfl) (by (repeat' first|exact tI|rfl|refine And.intro ?_ ?_)<;>(simp[cX,zC,hΓ]<;>rfl)) ?_;rintro ⟨k,hk⟩;(try dsimp only[List.cons_append,List.nil_append])
  by_cases hlt:k < n
  · have hr:=rankN_le m k
    have hs:=rankN_succ m k
    have hh:=l1Has_ok (TB:=TB) (m:Nat) (k:Int) (by omega) (by omega)
    rw [bitB_nat hm (by omega)] at hh
    (repeat first|refine sN rfl ?_|((first|refine sA rfl ?_ ?_|refine s4 rfl ‹_› rfl ?_ ?_);first|exact tI|omega|simp only[oZ] at *;omega)|refine s2 rfl fun _ _hb=>?_|refine s3 rfl ?_ ?_<;>rintro rfl|refine aU rfl ?_|refine lexE ?_)
    ((refine aC rfl ?_ ?_<;>rintro ⟨⟩);all_goals try(exfalso;first|omega|simp only[oZ] at *;omega))
    refine AWp.skip ?_
    refine AWp.seq (AWp.block ?_)
    (repeat first|refine sN rfl ?_|((first|refine sA rfl ?_ ?_|refine s4 rfl ‹_› rfl ?_ ?_);first|exact tI|omega|simp only[oZ] at *;omega)|refine s2 rfl fun _ _hb=>?_ |(refine sC rfl (hh) ?_;intro _ _hb)|refine s3 rfl ?_ ?_<;>rintro rfl|refine aU rfl ?_|refine lexE ?_)
    (refine aC rfl ?_ ?_<;>rintro ⟨⟩)
    · have hb:m.testBit k=true:=by simpa using _hb
      rw [if_pos hb] at hs
      (repeat first|refine sN rfl ?_|((first|refine sA rfl ?_ ?_|refine s4 rfl ‹_› rfl ?_ ?_);first|exact tI|omega|simp only[oZ] at *;omega)|refine s2 rfl fun _ _hb=>?_|refine s3 rfl ?_ ?_<;>rintro rfl|refine aU rfl ?_|refine lexE ?_)
      refine ⟨⟨k+1,by first|omega|simp only[oZ] at *;omega⟩,by dsimp only;(first|omega|simp only[oZ] at *;omega),[],?_⟩
      simp[cX,zC,hΓ,hs]
    · have hb:m.testBit k=false:=by simpa using _hb
      rw [if_neg (by simp [hb])] at hs
      refine AWp.skip ?_
      (repeat first|refine sN rfl ?_|((first|refine sA rfl ?_ ?_|refine s4 rfl ‹_› rfl ?_ ?_);first|exact tI|omega|simp only[oZ] at *;omega)|refine s2 rfl fun _ _hb=>?_|refine s3 rfl ?_ ?_<;>rintro rfl|refine aU rfl ?_|refine lexE ?_)
      refine ⟨⟨k+1,by first|omega|simp only[oZ] at *;omega⟩,by dsimp only;(first|omega|simp only[oZ] at *;omega),[],?_⟩
      simp[cX,zC,hΓ,hs]
  · obtain rfl:k=n:=by omega
    (repeat first|refine sN rfl ?_|((first|refine sA rfl ?_ ?_|refine s4 rfl ‹_› rfl ?_ ?_);first|exact tI|omega|simp only[oZ] at *;omega)|refine s2 rfl fun _ _hb=>?_|refine s3 rfl ?_ ?_<;>rintro rfl|refine aU rfl ?_|refine lexE ?_)
    ((refine aC rfl ?_ ?_<;>rintro ⟨⟩);all_goals try(exfalso;first|omega|simp only[oZ] at *;omega))
    refine AWp.exit ?_
    (repeat first|refine sN rfl ?_|((first|refine sA rfl ?_ ?_|refine s4 rfl ‹_› rfl ?_ ?_);first|exact tI|omega|simp only[oZ] at *;omega)|refine s2 rfl fun _ _hb=>?_|refine s3 rfl ?_ ?_<;>rintro rfl|refine aU rfl ?_|refine lexE ?_)
    (subst_vars;exact AWp.ret ⟨_,rfl,rfl⟩)
def kepS (al n:Int) (l:List Edg):Store:=(0,.cells 29 3 [[.d (iD 0),.d (iD 0),.d (.l [])]])::edgeS al n l
theorem l2Keep_ok {y:Sys} (hs:sysOk y=true) (hl:y.es.length≤100000) (m:Nat) (hm:m < 2 ^ 62):Spec Tryz.prog TB 131 [] 0 [eSys y,eI .i64 (m:Nat)] (AnyPost (fun r:Sys=>r.es.length≤y.es.length) eSys):=by
  have hh:=sysOk_head hs
  obtain ⟨n0,hn0,hn1⟩:∃n0:Nat,y.st=n0∧n0≤16:=⟨y.st.toNat,by omega,by omega⟩
  have hrk:=l2Rank_ok (TB:=TB) m hm n0 (by omega)
  rw [←hn0] at hrk
  refine SpecK.toSpec (SpecK.ren (SpecK.ofG (Nat.le_refl _) Tryz.func131 rfl (by kernel_rfl) (Nat.le_of_ble_eq_true rfl) ?_));intro Γ hΓ
  (repeat first|refine sN rfl ?_|((first|refine sA rfl ?_ ?_|refine s4 rfl ‹_› rfl ?_ ?_);first|exact tI|omega|simp only[oZ] at *;omega)|refine s2 rfl fun _ _hb=>?_|refine s3 rfl ?_ ?_<;>rintro rfl|refine aU rfl ?_|refine lexE ?_)
  refine rG (flX [(7,1),(8,1)]) (by kernel_rfl) ?_
  (repeat first|refine sN rfl ?_|((first|refine sX rfl ?_ ?_|refine s4 rfl ‹_› rfl ?_ ?_);first|exact tI|omega|simp only[oZ] at *;omega)|refine s2 rfl fun _ _hb=>?_ |refine sP rfl (hrk) rfl ?_|(refine popO rfl ?_;refine gA rfl ?_;first|refine gS (fun _ _=>q_buildV rfl rfl (by rfl) (by rfl)) ?_)|refine s3 rfl ?_ ?_<;>rintro rfl|refine aU rfl ?_|refine lexE ?_)
  (repeat first|refine sN rfl ?_|((first|refine sA rfl ?_ ?_|refine s4 rfl ‹_› rfl ?_ ?_);first|exact tI|omega|simp only[oZ] at *;omega)|refine s2 rfl fun _ _hb=>?_|refine s3 rfl ?_ ?_<;>rintro rfl|refine aU rfl ?_|refine lexE ?_)
  refine aB ?_
  refine AWp.loopV (α:={z:Nat×List Edg // z.1≤y.es.length∧z.2.length≤z.1}) [1,2] [] rfl rfl (fun s=>[(4,.o (.ptr 0 3 0 0)),(5,.o (.ptr 1 3 0 0)),(6,eI .i64 s.1.1)]) (fun s=>kepS y.al (rankN m n0:Nat) s.1.2) 3 (fun s=>y.es.length - s.1.1) (⟨⟨0,[]⟩,by simp⟩) (List.range 3) (rg hΓ rfl) (by (repeat' first|exact tI|rfl|refine And.intro ?_ ?_)<;>(simp[cX,zC,hΓ,kepS,edgeS,cN]<;>rfl)) ?_;rintro ⟨⟨k,l⟩,hk,hl2⟩;(try dsimp only[List.cons_append,List.nil_append])
  have hk:k≤y.es.length:=hk
  have hl2:l.length≤k:=hl2
  by_cases hlt:k < y.es.length
  · obtain ⟨e,he⟩:=get_some hlt
    have he':=get_map (g:=edRow) he
    have hee:(y.es.map edRow)[((k:Nat):Int).toNat]? = some (edRow e):=by rw [Int.toNat_natCast];exact he'
    have hb:=sysOk_edge hs (List.mem_of_getElem? he)
    unfold edgeOk at hb
    simp only [Bool.and_eq_true,decide_eq_true_eq] at hb
    obtain ⟨f0,hf0⟩:∃f0:Nat,e.f=f0:=⟨e.f.toNat,by omega⟩
    obtain ⟨t0,ht0⟩:∃t0:Nat,e.t=t0:=⟨e.t.toNat,by omega⟩
    have hh1:=l1Has_ok (TB:=TB) (m:Nat) e.f (by omega) (by omega)
    have hh2:=l1Has_ok (TB:=TB) (m:Nat) e.t (by omega) (by omega)
    have hr1:=l2Rank_ok (TB:=TB) m hm f0 (by omega)
    have hr2:=l2Rank_ok (TB:=TB) m hm t0 (by omega)
    rw [←hf0] at hr1
    rw [←ht0] at hr2
    (repeat first|refine sN rfl ?_|((first|refine sA rfl ?_ ?_|refine s4 rfl ‹_› rfl ?_ ?_);first|exact tI|omega|simp only[oZ] at *;omega)|refine s2 rfl fun _ _hb=>?_|refine s3 rfl ?_ ?_<;>rintro rfl|refine aU rfl ?_|refine lexE ?_)
    ((refine aC rfl ?_ ?_<;>rintro ⟨⟩);all_goals try(exfalso;first|omega|simp only[oZ] at *;omega))
    refine AWp.skip ?_
    refine AWp.seq (AWp.block ?_)
    (repeat' first|refine sN rfl ?_|((first|refine sA rfl ?_ ?_|refine s4 rfl ‹_› rfl ?_ ?_);first|exact tI|omega|simp only[oZ] at *;omega)|refine s2 rfl fun _ _hb=>?_ |(refine sC rfl (hh1) ?_;intro _ _hb)|(refine sC rfl (hh2) ?_;intro _ _hb)|refine s3 rfl ?_ ?_<;>rintro rfl|refine aU rfl ?_|refine lexE ?_|(refine aC rfl ?_ ?_<;>rintro ⟨⟩));all_goals try contradiction
    · obtain ⟨eN,heN⟩:∃eN:Edg,eN=⟨(rankN m f0:Nat),e.l,(rankN m t0:Nat)⟩:=⟨_,rfl⟩
      cases l with
      | nil=>
        refine rG (flX [(1,11),(4,13),(7,13),(10,13),(14,1),(16,1)]) (by kernel_rfl) ?_
        (repeat first|refine sN rfl ?_|((first|refine sA rfl ?_ ?_|refine s4 rfl ‹_› rfl ?_ ?_);first|exact tI|omega|simp only[oZ] at *;omega)|refine s2 rfl fun _ _hb=>?_ |refine sP rfl (hr1) rfl ?_|refine sP rfl (hr2) rfl ?_|(refine popO rfl ?_;refine gA rfl ?_;first|refine gS (fun _ _=>q_build rfl rfl (by rfl) (by rfl)) ?_)|refine s3 rfl ?_ ?_<;>rintro rfl|refine aU rfl ?_|refine lexE ?_)
        (refine pW rfl ?_ rfl (by rfl);refine n_asE 38 rfl ?_;refine n_appendE rfl rfl rfl (by intro r hr;simp at hr;subst hr;rfl) (by rfl) (Nat.le_of_ble_eq_true rfl) (by simp) (fun h=>?_) (fun _=>?_))
        · exact absurd h (by simp)
        (repeat first|refine sN rfl ?_|((first|refine sX rfl ?_ ?_|refine s4 rfl ‹_› rfl ?_ ?_);first|exact tI|omega|simp only[oZ] at *;omega)|refine s2 rfl fun _ _hb=>?_|refine s3 rfl ?_ ?_<;>rintro rfl|refine aU rfl ?_|refine lexE ?_)
        refine ⟨⟨⟨k+1,[eN]⟩,by dsimp only;omega,by simp⟩,by dsimp only;(first|omega|simp only[oZ] at *;omega),[0,1,4],?_⟩
        (simp[cX,zC,hΓ,cN,kepS,edgeS,spliceC,eC,heN]<;>rfl)
      | cons r0 l=>
        refine rG (flX [(1,11),(4,13),(7,13),(10,13),(14,1),(16,1)]) (by kernel_rfl) ?_
        (repeat first|refine sN rfl ?_|((first|refine sA rfl ?_ ?_|refine s4 rfl ‹_› rfl ?_ ?_);first|exact tI|omega|simp only[oZ] at *;omega)|refine s2 rfl fun _ _hb=>?_ |refine sP rfl (hr1) rfl ?_|refine sP rfl (hr2) rfl ?_|(refine popO rfl ?_;refine gA rfl ?_;first|refine gS (fun _ _=>q_build rfl rfl (by rfl) (by rfl)) ?_)|refine s3 rfl ?_ ?_<;>rintro rfl|refine aU rfl ?_|refine lexE ?_)
        (refine pW rfl ?_ rfl (by rfl);refine n_append rfl rfl rfl (by first|(simp;done)|(simp;(first|omega|simp only[oZ] at *;omega))) rfl (by intro r hr;simp at hr;subst hr;rfl) (by rfl) (Nat.le_of_ble_eq_true rfl) (by simp at hl2 ⊢;omega) ?_)
        (repeat first|refine sN rfl ?_|((first|refine sX rfl ?_ ?_|refine s4 rfl ‹_› rfl ?_ ?_);first|exact tI|omega|simp only[oZ] at *;omega)|refine s2 rfl fun _ _hb=>?_|refine s3 rfl ?_ ?_<;>rintro rfl|refine aU rfl ?_|refine lexE ?_)
        refine ⟨⟨⟨k+1,r0::(l++[eN])⟩,by dsimp only;omega,by simp at hl2 ⊢;omega⟩,by dsimp only;(first|omega|simp only[oZ] at *;omega),[0,1,4],?_⟩
        (simp[cX,zC,hΓ,cN,kepS,edgeS,spliceC,eC,heN]<;>rfl)
    all_goals
      refine AWp.skip ?_
      (repeat first|refine sN rfl ?_|((first|refine sA rfl ?_ ?_|refine s4 rfl ‹_› rfl ?_ ?_);first|exact tI|omega|simp only[oZ] at *;omega)|refine s2 rfl fun _ _hb=>?_|refine s3 rfl ?_ ?_<;>rintro rfl|refine aU rfl ?_|refine lexE ?_)
      refine ⟨⟨⟨k+1,l⟩,by dsimp only;omega,by dsimp only;omega⟩,by dsimp only;(first|omega|simp only[oZ] at *;omega),[0,1,2],?_⟩
      cases l<;>(simp[cX,zC,hΓ,cN,kepS,edgeS]<;>rfl)
  · have hke:k=y.es.length:=by omega
    (repeat first|refine sN rfl ?_|((first|refine sA rfl ?_ ?_|refine s4 rfl ‹_› rfl ?_ ?_);first|exact tI|omega|simp only[oZ] at *;omega)|refine s2 rfl fun _ _hb=>?_|refine s3 rfl ?_ ?_<;>rintro rfl|refine aU rfl ?_|refine lexE ?_)
    ((refine aC rfl ?_ ?_<;>rintro ⟨⟩);all_goals try(exfalso;first|omega|simp only[oZ] at *;omega))
    refine AWp.exit ?_
    cases l with
    | nil=>
      refine AWp.freezeZ [1] [(4,.o (.ptr 0 3 0 0)),(5,.o (.ip (syRow ⟨y.al,(rankN m n0:Nat),[]⟩)))] ⟨⟨_,rfl,.inl rfl⟩,⟨_,rfl,.inr (.o (.box rfl (.cons .d (.cons .d (.cons .nl .nil)))))⟩,trivial⟩ ?_
      (repeat first|refine sN rfl ?_|((first|refine sA rfl ?_ ?_|refine s4 rfl ‹_› rfl ?_ ?_);first|exact tI|omega|simp only[oZ] at *;omega)|refine s2 rfl fun _ _hb=>?_|refine s3 rfl ?_ ?_<;>rintro rfl|refine aU rfl ?_|refine lexE ?_)
      exact AWp.ret ⟨_,rfl,[],eSys ⟨y.al,(rankN m n0:Nat),[]⟩,[],⟨fun i hi=>absurd hi (Nat.not_lt_zero i),List.nodup_nil⟩,rfl,trivial,⟨y.al,(rankN m n0:Nat),[]⟩,Nat.zero_le _,rfl,rfl,rfl⟩
    | cons r0 l=>
      refine AWp.freezeZ [1,2] [(4,.o (.ptr 0 3 0 0)),(5,.o (.ip (syRow ⟨y.al,(rankN m n0:Nat),r0::l⟩)))] ⟨⟨_,rfl,.inl rfl⟩,⟨_,rfl,.inr (.o (.box rfl (.cons .d (.cons .d (.cons (.full rfl (by simp [Function.comp_def]) (by simp)) .nil)))))⟩,trivial⟩ ?_
      (repeat first|refine sN rfl ?_|((first|refine sA rfl ?_ ?_|refine s4 rfl ‹_› rfl ?_ ?_);first|exact tI|omega|simp only[oZ] at *;omega)|refine s2 rfl fun _ _hb=>?_|refine s3 rfl ?_ ?_<;>rintro rfl|refine aU rfl ?_|refine lexE ?_)
      exact AWp.ret ⟨_,rfl,[],eSys ⟨y.al,(rankN m n0:Nat),r0::l⟩,[],⟨fun i hi=>absurd hi (Nat.not_lt_zero i),List.nodup_nil⟩,rfl,trivial,⟨y.al,(rankN m n0:Nat),r0::l⟩,by show (r0::l).length≤_;omega,rfl,rfl,rfl⟩
theorem l1Bit16_ok (n:Int) (h0:0≤n) (h1:n≤16):Pure Tryz.prog TB 132 [eI .i64 n] (eI .i64 ((2 ^ n.toNat:Nat):Int)):=by
  have hsh:IntKind.i64.wrap (1*2 ^ (min n.toNat IntKind.i64.bits))=((2 ^ n.toNat:Nat):Int):=by
    have e:min n.toNat IntKind.i64.bits=n.toNat:=by
      have:IntKind.i64.bits=64:=rfl
      omega
    rw [e,Int.one_mul]
    have h2:2 ^ n.toNat < 2 ^ 17:=Nat.pow_lt_pow_right (by omega) (by omega)
    have h3:(2:Int) ^ n.toNat=((2 ^ n.toNat:Nat):Int):=by push_cast;rfl
    rw [h3]
    generalize 2 ^ n.toNat=p at *
    exact IntWalk.i64_in _ (by omega)
  refine eN Tryz.func132 rfl (by kernel_rfl) rfl ?_;intro Γ hΓ
  (repeat' first|refine sN rfl ?_|((first|refine sA rfl ?_ ?_|refine s4 rfl ‹_› rfl ?_ ?_);first|exact tI|omega|simp only[oZ] at *;omega)|refine s2 rfl fun _ _hb=>?_|(refine popO rfl ?_;refine gA rfl ?_;first|refine gS (fun _ _=>q_shl rfl rfl h0 hsh) ?_)|refine s3 rfl ?_ ?_<;>rintro rfl|refine aU rfl ?_|refine lexE ?_|refine rE (by kernel_rfl) ?_|(refine aC rfl ?_ ?_<;>rintro ⟨⟩)|refine aK ?_|refine aE ?_|refine aB ?_|refine AWp.ret ⟨_,rfl,?_⟩)
  rfl
abbrev eTB (r:Tsk×Bool):E:=.t [(true,(tkRow r.1).map .d),(false,[.d (bD r.2)])]
theorem aut0_bd (m:Nat) (al:Int):ABd m ⟨al,[],[]⟩:=⟨Nat.zero_le _,Nat.zero_le _,fun r hr=>by cases hr⟩
theorem TaskOf_ok (x:Sys) (p:Aut) (o:Sys) (hx:x.es.length≤100000) (hp:ABd 1000000 p):Spec Tryz.prog TB 103 [] 0 [eSys x,eAut p,eSys o] (AnyPost (fun r:Tsk×Bool=>r.1.s.es.length≤x.es.length∧∀m,ABd m p→ABd m r.1.q) eTB):=by
  have hif:=interfaceOf_ok (TB:=TB) x p o
  have hif0:ifcO x p o < 0∨(0≤ifcO x p o∧sysOk x=true):=by
    unfold ifcO
    cases h:sysOk x
    · left;simp
    · rcases Int.lt_or_le (ifcO x p o) 0 with h1|h1
      · left;unfold ifcO at h1;rw [h] at h1;exact h1
      · right;refine ⟨?_,rfl⟩;unfold ifcO at h1;rw [h] at h1;exact h1
  generalize ifcO x p o=ai at *
  refine SpecK.toSpec (SpecK.ren (SpecK.ofG (Nat.le_refl _) Tryz.func103 rfl (by kernel_rfl) (Nat.le_of_ble_eq_true rfl) ?_));intro Γ hΓ
  (repeat first|refine sN rfl ?_|((first|refine sA rfl ?_ ?_|refine s4 rfl ‹_› rfl ?_ ?_);first|exact tI|omega|simp only[oZ] at *;omega)|refine s2 rfl fun _ _hb=>?_ |refine sP rfl (hif) rfl ?_|refine s3 rfl ?_ ?_<;>rintro rfl|refine aU rfl ?_|refine lexE ?_)
  rcases hif0 with h0|⟨h0,hs⟩
  · ((refine aC rfl ?_ ?_<;>rintro ⟨⟩);all_goals try(exfalso;first|omega|simp only[oZ] at *;omega))
    (repeat first|refine sN rfl ?_|((first|refine sA rfl ?_ ?_|refine s4 rfl ‹_› rfl ?_ ?_);first|exact tI|omega|simp only[oZ] at *;omega)|refine s2 rfl fun _ _hb=>?_|(refine popO rfl ?_;refine gA rfl ?_;first|refine gS (fun _ _=>q_build rfl rfl (by rfl) (by rfl)) ?_)|refine s3 rfl ?_ ?_<;>rintro rfl|refine aU rfl ?_|refine lexE ?_)
    exact AWp.ret ⟨_,rfl,[],eTB (⟨⟨0,0,[]⟩,⟨0,[],[]⟩,0⟩,false),[],⟨fun i hi=>absurd hi (Nat.not_lt_zero i),List.nodup_nil⟩,rfl,trivial,(⟨⟨0,0,[]⟩,⟨0,[],[]⟩,0⟩,false),⟨Nat.zero_le _,fun m _=>aut0_bd m 0⟩,rfl,rfl,rfl⟩
  have hh:=sysOk_head hs
  have hbt:=l1Bit16_ok (TB:=TB) x.st (by omega) (by omega)
  have hpw:2 ^ x.st.toNat≤2 ^ 16:=Nat.pow_le_pow_right (by omega) (by omega)
  have hpp:0 < 2 ^ x.st.toNat:=Nat.two_pow_pos _
  have hm1:((2 ^ x.st.toNat:Nat):Int) - 1=((2 ^ x.st.toNat - 1:Nat):Int):=by omega
  have hkp:=l2Keep_ok (TB:=TB) hs hx (2 ^ x.st.toNat - 1) (by omega)
  rw [←hm1] at hkp
  generalize 2 ^ x.st.toNat=pw at *
  ((refine aC rfl ?_ ?_<;>rintro ⟨⟩);all_goals try(exfalso;first|omega|simp only[oZ] at *;omega))
  refine AWp.skip ?_
  (repeat first|refine sN rfl ?_|((first|refine sA rfl ?_ ?_|refine s4 rfl ‹_› rfl ?_ ?_);first|exact tI|omega|simp only[oZ] at *;omega)|refine s2 rfl fun _ _hb=>?_|refine s3 rfl ?_ ?_<;>rintro rfl|refine aU rfl ?_|refine lexE ?_)
  refine rG ⟨flagOf [(5,1),(7,1),(10,1)],at0 [0,1,2,3,4,6,8,5,7,9,10,11]⟩ (by kernel_rfl) ?_
  (repeat first|refine sN rfl ?_|((first|refine sX rfl ?_ ?_|refine s4 rfl ‹_› rfl ?_ ?_);first|exact tI|omega|simp only[oZ] at *;omega)|refine s2 rfl fun _ _hb=>?_ |refine sP rfl (hbt) rfl ?_|refine s3 rfl ?_ ?_<;>rintro rfl|refine aU rfl ?_|refine lexE ?_)
  (refine pW rfl ?_ rfl (by rfl);refine n_call [] rfl rfl (hkp) ⟨rfl,by decide,by decide⟩ rfl trivial ?_;rintro x0 σ1 nx1 ⟨s1,hs1,rfl,rfl,rfl⟩ _)
  (repeat first|refine sN rfl ?_|((first|refine sX rfl ?_ ?_|refine s4 rfl ‹_› rfl ?_ ?_);first|exact tI|omega|simp only[oZ] at *;omega)|refine s2 rfl fun _ _hb=>?_|refine s3 rfl ?_ ?_<;>rintro rfl|refine aU rfl ?_|refine lexE ?_)
  (refine pW rfl ?_ rfl (by rfl);refine n_callK [] rfl rfl 0 (l3Copy_ok p hp) (by decide) ⟨rfl,by decide,by decide⟩ rfl (by simp[cX,zC,hΓ,cN]) ?_;rintro x0 σ1 nx1 ⟨l,hl,rfl,rfl,rfl⟩ _)
  (repeat first|refine sN rfl ?_|((first|refine sX rfl ?_ ?_|refine s4 rfl ‹_› rfl ?_ ?_);first|exact tI|omega|simp only[oZ] at *;omega)|refine s2 rfl fun _ _hb=>?_|(refine popO rfl ?_;refine gA rfl ?_;first|refine gS (fun _ _=>q_build rfl rfl (by rfl) (by rfl)) ?_)|refine s3 rfl ?_ ?_<;>rintro rfl|refine aU rfl ?_|refine lexE ?_)
  refine AWp.namesV [] [] rfl rfl [(6,.o (.ptr 0 7 0 0)),(7,eB true)] [(0,.cells 31 7 [[.d (iD s1.al),.d (iD s1.st),.d (edList s1.es),.d (iD p.al),.arr 1 1 0 l.length,.arr 2 1 0 p.ac.length,.d (iD ai)]]),(1,.cells 93 1 (rawR l)),(2,.cells 4 1 (p.ac.map bRowC)),(3,.sld 3 (sI l))] [0,1,2,3] (rl hΓ rfl) (by (repeat' first|exact tI|rfl|refine And.intro ?_ ?_)<;>(simp[cX,zC,hΓ,cN,fillC,spliceC,eC]<;>rfl)) ?_;(try dsimp only[List.cons_append,List.nil_append])
  refine AWp.freezeZ [0,1,2,3] [(6,.o (.ip (tkRow ⟨s1,⟨p.al,l.map (·.2),p.ac⟩,ai⟩))),(7,eB true)] ⟨⟨_,rfl,.inr (.o (.box rfl (.cons .d (.cons .d (.cons .d (.cons .d (.cons (.nst (s:=3) rfl rfl) (.cons (.full rfl (by simp [Function.comp_def]) (by simp)) (.cons .d .nil)))))))))⟩,⟨_,rfl,.inl rfl⟩,trivial⟩ ?_
  exact AWp.ret ⟨_,rfl,[],eTB (⟨s1,⟨p.al,l.map (·.2),p.ac⟩,ai⟩,true),[],⟨fun i hi=>absurd hi (Nat.not_lt_zero i),List.nodup_nil⟩,rfl,trivial,(⟨s1,⟨p.al,l.map (·.2),p.ac⟩,ai⟩,true),⟨hs1,fun m hm=>by rw [hl];exact hm⟩,rfl,rfl,rfl⟩
theorem l1Wrong_ok (b:List UInt8) (hb:b.length≤2000) (p:Int) (h0:0≤p∧p < 800000000) (al:Int):∃(n q:Int),(p≤q∧q≤p+2)∧Spec Tryz.prog TB 136 [(0,rdO b p)] 1 [.o (.ptr 0 2 0 0),eI .i64 al] (fun x σ nx=>x=eI .i64 n∧σ=[(0,rdO b q)]∧nx=1):=by
  obtain ⟨c,c1,c2,hp⟩:=pick_ok (TB:=TB) b hb p 12 (by omega)
  obtain ⟨n1,m1,k1⟩:=num_ok (TB:=TB) b hb (p+1) (by omega) [64,-1,63,0] (by decide) (by decide)
  by_cases hc:c=0
  · subst hc
    refine ⟨n1,p+1+1,by omega,?_⟩
    refine SpecK.toSpec (SpecK.ren (SpecK.ofG (Nat.le_refl _) Tryz.func136 rfl (by kernel_rfl) (Nat.le_of_ble_eq_true rfl) ?_));intro Γ hΓ
    (repeat first|refine sN rfl ?_|((first|refine sA rfl ?_ ?_|refine s4 rfl ‹_› rfl ?_ ?_);first|exact tI|omega|simp only[oZ] at *;omega)|refine s2 rfl fun _ _hb=>?_|refine s3 rfl ?_ ?_<;>rintro rfl|refine aU rfl ?_|refine lexE ?_)
    (refine pW rfl ?_ rfl (by rfl);refine n_call [0] rfl rfl (hp) ⟨rfl,by decide,by decide⟩ rfl (by simp[cX,zC,hΓ]) ?_;rintro x0 σ1 nx1 ⟨rfl,rfl,rfl⟩ _)
    (repeat first|refine sN rfl ?_|((first|refine sA rfl ?_ ?_|refine s4 rfl ‹_› rfl ?_ ?_);first|exact tI|omega|simp only[oZ] at *;omega)|refine s2 rfl fun _ _hb=>?_|refine s3 rfl ?_ ?_<;>rintro rfl|refine aU rfl ?_|refine lexE ?_)
    ((refine aC rfl ?_ ?_<;>rintro ⟨⟩);all_goals try (simp at _hb;done))
    (repeat first|refine sN rfl ?_|((first|refine sA rfl ?_ ?_|refine s4 rfl ‹_› rfl ?_ ?_);first|exact tI|omega|simp only[oZ] at *;omega)|refine s2 rfl fun _ _hb=>?_|refine s3 rfl ?_ ?_<;>rintro rfl|refine aU rfl ?_|refine lexE ?_)
    (refine pW rfl ?_ rfl (by rfl);refine n_call [0] rfl rfl (k1) ⟨rfl,by decide,by decide⟩ rfl (by simp[cX,zC,hΓ]) ?_;rintro x0 σ1 nx1 ⟨rfl,rfl,rfl⟩ _)
    (repeat first|refine sN rfl ?_|((first|refine sA rfl ?_ ?_|refine s4 rfl ‹_› rfl ?_ ?_);first|exact tI|omega|simp only[oZ] at *;omega)|refine s2 rfl fun _ _hb=>?_|refine s3 rfl ?_ ?_<;>rintro rfl|refine aU rfl ?_|refine lexE ?_)
    refine AWp.ret ⟨_,rfl,?_⟩
    refine ⟨[0],_,[(0,rdO b (p+1+1))],⟨by first|(simp;done)|decide|(intro i hi;match i with|0=>rfl),by decide⟩,rfl,by (repeat' first|exact tI|rfl|refine And.intro ?_ ?_)<;>(simp[cX,zC,hΓ]<;>rfl),rfl,rfl,rfl⟩
  · refine ⟨al,p+1,by omega,?_⟩
    refine SpecK.toSpec (SpecK.ren (SpecK.ofG (Nat.le_refl _) Tryz.func136 rfl (by kernel_rfl) (Nat.le_of_ble_eq_true rfl) ?_));intro Γ hΓ
    (repeat first|refine sN rfl ?_|((first|refine sA rfl ?_ ?_|refine s4 rfl ‹_› rfl ?_ ?_);first|exact tI|omega|simp only[oZ] at *;omega)|refine s2 rfl fun _ _hb=>?_|refine s3 rfl ?_ ?_<;>rintro rfl|refine aU rfl ?_|refine lexE ?_)
    (refine pW rfl ?_ rfl (by rfl);refine n_call [0] rfl rfl (hp) ⟨rfl,by decide,by decide⟩ rfl (by simp[cX,zC,hΓ]) ?_;rintro x0 σ1 nx1 ⟨rfl,rfl,rfl⟩ _)
    (repeat first|refine sN rfl ?_|((first|refine sA rfl ?_ ?_|refine s4 rfl ‹_› rfl ?_ ?_);first|exact tI|omega|simp only[oZ] at *;omega)|refine s2 rfl fun _ _hb=>?_|refine s3 rfl ?_ ?_<;>rintro rfl|refine aU rfl ?_|refine lexE ?_)
    ((refine aC rfl ?_ ?_<;>rintro ⟨⟩);all_goals try(exfalso;first|omega|simp only[oZ] at *;omega))
    refine AWp.skip ?_
    (repeat first|refine sN rfl ?_|((first|refine sA rfl ?_ ?_|refine s4 rfl ‹_› rfl ?_ ?_);first|exact tI|omega|simp only[oZ] at *;omega)|refine s2 rfl fun _ _hb=>?_|refine s3 rfl ?_ ?_<;>rintro rfl|refine aU rfl ?_|refine lexE ?_)
    refine AWp.ret ⟨_,rfl,?_⟩
    refine ⟨[0],_,[(0,rdO b (p+1))],⟨by first|(simp;done)|decide|(intro i hi;match i with|0=>rfl),by decide⟩,rfl,by (repeat' first|exact tI|rfl|refine And.intro ?_ ?_)<;>(simp[cX,zC,hΓ]<;>rfl),rfl,rfl,rfl⟩
theorem l2Wrong_ok (b:List UInt8) (hb:b.length≤2000) (p:Int) (h0:0≤p∧p < 800000000) (y:Sys) (hy:y.es.length≤100000):Spec Tryz.prog TB 138 [(0,rdO b p)] 1 [.o (.ptr 0 2 0 0),eSys y] (SysPost b p 5 (fun s=>s.es.length≤y.es.length+1)):=by
  obtain ⟨k,k0,k1,hk⟩:=pick_ok (TB:=TB) b hb p y.es.length (by omega)
  obtain ⟨c,c0,c1,hc⟩:=pick_ok (TB:=TB) b hb (p+1) 30 (by omega)
  refine SpecK.toSpec (SpecK.ren (SpecK.ofG (Nat.le_refl _) Tryz.func138 rfl (by kernel_rfl) (Nat.le_of_ble_eq_true rfl) ?_));intro Γ hΓ
  (repeat first|refine sN rfl ?_|((first|refine sA rfl ?_ ?_|refine s4 rfl ‹_› rfl ?_ ?_);first|exact tI|omega|simp only[oZ] at *;omega)|refine s2 rfl fun _ _hb=>?_|refine s3 rfl ?_ ?_<;>rintro rfl|refine aU rfl ?_|refine lexE ?_)
  refine R.regR [(0,2),(1,2),(2,2),(3,2),(5,2),(6,2),(9,3),(4,1),(7,1),(8,0),(10,5)] mixed (by kernel_rfl) rfl (by kernel_rfl) ?_
  (repeat (first|(refine R.popO rfl ?_;first|(refine R.yQ (md:=false) rfl rfl rfl ?_ ?_;(first|exact True.intro|omega|(simp only [oZ] at *;omega)))|(refine R.yB rfl rfl rfl ?_;intro _ _hb)|refine R.yS rfl rfl rfl ?_|refine R.yP rfl rfl rfl rfl ?_|refine R.yA rfl rfl rfl rfl ?_|refine R.yW rfl rfl rfl ?_|refine R.popN rfl rfl ?_|(refine R.yG rfl rfl ?_ ?_<;>intro hb<;>subst hb))))
  (refine R.popO rfl ?_;refine R.popW (fun _=>?_) rfl rfl;refine n_sliceB rfl rfl rfl rfl (by simp) (by rfl) (by rfl) (by rfl) (by rfl) ?_)
  (refine R.popO rfl ?_;refine R.popW (fun _=>?_) rfl rfl;refine n_append rfl rfl rfl (by simp) rfl (by intro r hr;simp only [List.map_map,List.mem_map] at hr;obtain ⟨_,_,rfl⟩:=hr;rfl) (by rfl) (Nat.le_of_ble_eq_true rfl) (by simp;omega) ?_)
  (repeat (first|(refine R.popO rfl ?_;first|(refine R.yQ (md:=false) rfl rfl rfl ?_ ?_;(first|exact True.intro|omega|(simp only [oZ] at *;omega)))|(refine R.yB rfl rfl rfl ?_;intro _ _hb)|refine R.yS rfl rfl rfl ?_|refine R.yP rfl rfl rfl rfl ?_|refine R.yA rfl rfl rfl rfl ?_|refine R.yW rfl rfl rfl ?_|refine R.popS (fun _ _ _=>q_build rfl rfl (by rfl) (by rfl)) rfl rfl ?_|refine R.popN rfl rfl ?_|(refine R.yG rfl rfl ?_ ?_<;>intro hb<;>subst hb))))
  refine R.lexQ ?_
  refine AWp.namesV [0] [] rfl rfl [(4,.o (.ptr 1 3 0 0)),(5,.o (.ptr 3 3 0 0))] [(0,rdO b p),(1,.cells 29 3 [[.d (iD 0),.d (iD 0),.d (.l [])]]),(2,.cells 138 3 (y.es.map edRowC)),(3,.cells 29 3 [[.d (iD y.al),.d (iD y.st),.arr 2 3 0 y.es.length]])] [0,1,3,4] (rl hΓ rfl) (by (repeat' first|exact tI|rfl|refine And.intro ?_ ?_)<;>(simp[cX,zC,hΓ,cN,spliceC,fillC,eC]<;>rfl)) ?_;(try dsimp only[List.cons_append,List.nil_append])
  (repeat first|refine sN rfl ?_|((first|refine sA rfl ?_ ?_|refine s4 rfl ‹_› rfl ?_ ?_);first|exact tI|omega|simp only[oZ] at *;omega)|refine s2 rfl fun _ _hb=>?_|refine s3 rfl ?_ ?_<;>rintro rfl|refine aU rfl ?_|refine lexE ?_)
  (refine pW rfl ?_ rfl (by rfl);refine n_call [0] rfl rfl (hk) ⟨rfl,by decide,by decide⟩ rfl (by simp[cX,zC,hΓ,cN]) ?_;rintro x0 σ1 nx1 ⟨rfl,rfl,rfl⟩ _)
  (repeat first|refine sN rfl ?_|((first|refine sA rfl ?_ ?_|refine s4 rfl ‹_› rfl ?_ ?_);first|exact tI|omega|simp only[oZ] at *;omega)|refine s2 rfl fun _ _hb=>?_|refine s3 rfl ?_ ?_<;>rintro rfl|refine aU rfl ?_|refine lexE ?_)
  (refine pW rfl ?_ rfl (by rfl);refine n_call [0] rfl rfl (hc) ⟨rfl,by decide,by decide⟩ rfl (by simp[cX,zC,hΓ,cN]) ?_;rintro x0 σ1 nx1 ⟨rfl,rfl,rfl⟩ _)
  (repeat first|refine sN rfl ?_|((first|refine sA rfl ?_ ?_|refine s4 rfl ‹_› rfl ?_ ?_);first|exact tI|omega|simp only[oZ] at *;omega)|refine s2 rfl fun _ _hb=>?_|refine s3 rfl ?_ ?_<;>rintro rfl)
  refine lexE ?_
  refine AWp.namesV [0] [] rfl rfl [(4,.o (.ptr 1 3 0 0)),(5,.o (.ptr 3 3 0 0)),(6,eI .i64 y.es.length),(7,eI .i64 k),(24,eI .i64 c)] [(0,rdO b (p+1+1)),(1,.cells 29 3 [[.d (iD 0),.d (iD 0),.d (.l [])]]),(2,.cells 138 3 (y.es.map edRowC)),(3,.cells 29 3 [[.d (iD y.al),.d (iD y.st),.arr 2 3 0 y.es.length]])] [0,1,2,3] (rl hΓ rfl) (by (repeat' first|exact tI|rfl|refine And.intro ?_ ?_)<;>(simp[cX,zC,hΓ,cN]<;>rfl)) ?_;(try dsimp only[List.cons_append,List.nil_append])
  refine AWp.block ?_
  (repeat first|refine sN rfl ?_|((first|refine sA rfl ?_ ?_|refine s4 rfl ‹_› rfl ?_ ?_);first|exact tI|omega|simp only[oZ] at *;omega)|refine s2 rfl fun _ _hb=>?_|refine s3 rfl ?_ ?_<;>rintro rfl|refine aU rfl ?_|refine lexE ?_)
  (refine aC rfl ?_ ?_<;>rintro ⟨⟩)
  · obtain ⟨z,z1,hz⟩:=num_ok (TB:=TB) b hb (p+1+1) (by omega) [64,-1,1,63] (by decide) (by decide)
    (repeat first|refine sN rfl ?_|((first|refine sA rfl ?_ ?_|refine s4 rfl ‹_› rfl ?_ ?_);first|exact tI|omega|simp only[oZ] at *;omega)|refine s2 rfl fun _ _hb=>?_|refine s3 rfl ?_ ?_<;>rintro rfl|refine aU rfl ?_|refine lexE ?_)
    (refine pW rfl ?_ rfl (by rfl);refine n_call [0] rfl rfl (hz) ⟨rfl,by decide,by decide⟩ rfl (by simp[cX,zC,hΓ,cN]) ?_;rintro x0 σ1 nx1 ⟨rfl,rfl,rfl⟩ _)
    (repeat first|refine sN rfl ?_|((first|refine sA rfl ?_ ?_|refine s4 rfl ‹_› rfl ?_ ?_);first|exact tI|omega|simp only[oZ] at *;omega)|refine s2 rfl fun _ _hb=>?_|refine s3 rfl ?_ ?_<;>rintro rfl|refine aU rfl ?_|refine lexE ?_)
    refine AWp.namesV [] [] rfl rfl [(4,.o (.ptr 1 3 0 0))] [(0,rdO b (p+1+1+1)),(1,.cells 29 3 [[.d (iD (z)),.d (iD (y.st)),.arr 2 3 0 (y.es).length]]),(2,.cells 138 3 ((y.es).map edRowC))] [0,1,2] (rl hΓ rfl) (by (repeat' first|exact tI|rfl|refine And.intro ?_ ?_)<;>(simp[cX,zC,hΓ,cN,spliceC,eC]<;>rfl)) ?_;(try dsimp only[List.cons_append,List.nil_append]);refine AWp.freezeZ [1,2] [(4,.o (.ip (syRow ⟨z,y.st,y.es⟩)))] ⟨⟨_,rfl,.inr (.o (.box rfl (.cons .d (.cons .d (.cons (.full rfl (by simp [Function.comp_def]) (by simp)) .nil)))))⟩,trivial⟩ ?_;refine AWp.ret ⟨_,rfl,[0],eSys ⟨z,y.st,y.es⟩,[(0,rdO b (p+1+1+1))],⟨by intro i hi;match i with|0=>rfl,by decide⟩,rfl,by (repeat' first|exact tI|rfl|refine And.intro ?_ ?_)<;>(simp[cX,zC,hΓ,cN]<;>rfl),p+1+1+1,⟨z,y.st,y.es⟩,by omega,by first|(simp;done)|(simp;omega),rfl,rfl,rfl⟩
  (repeat first|refine sN rfl ?_|((first|refine sA rfl ?_ ?_|refine s4 rfl ‹_› rfl ?_ ?_);first|exact tI|omega|simp only[oZ] at *;omega)|refine s2 rfl fun _ _hb=>?_|refine s3 rfl ?_ ?_<;>rintro rfl|refine aU rfl ?_|refine lexE ?_)
  (refine aC rfl ?_ ?_<;>rintro ⟨⟩)
  · obtain ⟨z,z1,hz⟩:=num_ok (TB:=TB) b hb (p+1+1) (by omega) [0,17,-1,16,1] (by decide) (by decide)
    (repeat first|refine sN rfl ?_|((first|refine sA rfl ?_ ?_|refine s4 rfl ‹_› rfl ?_ ?_);first|exact tI|omega|simp only[oZ] at *;omega)|refine s2 rfl fun _ _hb=>?_|refine s3 rfl ?_ ?_<;>rintro rfl|refine aU rfl ?_|refine lexE ?_)
    (refine pW rfl ?_ rfl (by rfl);refine n_call [0] rfl rfl (hz) ⟨rfl,by decide,by decide⟩ rfl (by simp[cX,zC,hΓ,cN]) ?_;rintro x0 σ1 nx1 ⟨rfl,rfl,rfl⟩ _)
    (repeat first|refine sN rfl ?_|((first|refine sA rfl ?_ ?_|refine s4 rfl ‹_› rfl ?_ ?_);first|exact tI|omega|simp only[oZ] at *;omega)|refine s2 rfl fun _ _hb=>?_|refine s3 rfl ?_ ?_<;>rintro rfl|refine aU rfl ?_|refine lexE ?_)
    refine AWp.namesV [] [] rfl rfl [(4,.o (.ptr 1 3 0 0))] [(0,rdO b (p+1+1+1)),(1,.cells 29 3 [[.d (iD (y.al)),.d (iD (z)),.arr 2 3 0 (y.es).length]]),(2,.cells 138 3 ((y.es).map edRowC))] [0,1,2] (rl hΓ rfl) (by (repeat' first|exact tI|rfl|refine And.intro ?_ ?_)<;>(simp[cX,zC,hΓ,cN,spliceC,eC]<;>rfl)) ?_;(try dsimp only[List.cons_append,List.nil_append]);refine AWp.freezeZ [1,2] [(4,.o (.ip (syRow ⟨y.al,z,y.es⟩)))] ⟨⟨_,rfl,.inr (.o (.box rfl (.cons .d (.cons .d (.cons (.full rfl (by simp [Function.comp_def]) (by simp)) .nil)))))⟩,trivial⟩ ?_;refine AWp.ret ⟨_,rfl,[0],eSys ⟨y.al,z,y.es⟩,[(0,rdO b (p+1+1+1))],⟨by intro i hi;match i with|0=>rfl,by decide⟩,rfl,by (repeat' first|exact tI|rfl|refine And.intro ?_ ?_)<;>(simp[cX,zC,hΓ,cN]<;>rfl),p+1+1+1,⟨y.al,z,y.es⟩,by omega,by first|(simp;done)|(simp;omega),rfl,rfl,rfl⟩
  (repeat first|refine sN rfl ?_|((first|refine sA rfl ?_ ?_|refine s4 rfl ‹_› rfl ?_ ?_);first|exact tI|omega|simp only[oZ] at *;omega)|refine s2 rfl fun _ _hb=>?_|refine s3 rfl ?_ ?_<;>rintro rfl|refine aU rfl ?_|refine lexE ?_)
  (refine aC rfl ?_ ?_<;>rintro ⟨⟩)
  · by_cases hz:y.es.length=0
    · (repeat' first|refine sN rfl ?_|((first|refine sA rfl ?_ ?_|refine s4 rfl ‹_› rfl ?_ ?_);first|exact tI|omega|simp only[oZ] at *;omega)|refine s2 rfl fun _ _hb=>?_|refine s3 rfl ?_ ?_<;>rintro rfl|refine aU rfl ?_|refine lexE ?_|(refine aC rfl ?_ ?_<;>rintro ⟨⟩));all_goals try contradiction
      all_goals first
        | (exfalso;first|omega|simp only[oZ] at *;omega;done)
        | (refine AWp.skip ?_;(repeat first|refine sN rfl ?_|((first|refine sA rfl ?_ ?_|refine s4 rfl ‹_› rfl ?_ ?_);first|exact tI|omega|simp only[oZ] at *;omega)|refine s2 rfl fun _ _hb=>?_|refine s3 rfl ?_ ?_<;>rintro rfl|refine aU rfl ?_|refine lexE ?_);refine AWp.namesV [] [] rfl rfl [(4,.o (.ptr 1 3 0 0))] [(0,rdO b (p+1+1)),(1,.cells 29 3 [[.d (iD (y.al)),.d (iD (y.st)),.arr 2 3 0 (y.es).length]]),(2,.cells 138 3 ((y.es).map edRowC))] [0,1,2] (rl hΓ rfl) (by (repeat' first|exact tI|rfl|refine And.intro ?_ ?_)<;>(simp[cX,zC,hΓ,cN,spliceC,eC]<;>rfl)) ?_;(try dsimp only[List.cons_append,List.nil_append]);refine AWp.freezeZ [1,2] [(4,.o (.ip (syRow ⟨y.al,y.st,y.es⟩)))] ⟨⟨_,rfl,.inr (.o (.box rfl (.cons .d (.cons .d (.cons (.full rfl (by simp [Function.comp_def]) (by simp)) .nil)))))⟩,trivial⟩ ?_;refine AWp.ret ⟨_,rfl,[0],eSys ⟨y.al,y.st,y.es⟩,[(0,rdO b (p+1+1))],⟨by intro i hi;match i with|0=>rfl,by decide⟩,rfl,by (repeat' first|exact tI|rfl|refine And.intro ?_ ?_)<;>(simp[cX,zC,hΓ,cN]<;>rfl),p+1+1,⟨y.al,y.st,y.es⟩,by omega,by first|(simp;done)|(simp;omega),rfl,rfl,rfl⟩)
    obtain ⟨⟨e1,e2,e3⟩,he⟩:=get_some (l:=y.es) (k:=k.toNat) (by omega)
    have he':(y.es.map edRowC)[0+k.toNat]? = some (edRowC ⟨e1,e2,e3⟩):=by rw [Nat.zero_add];simp [he]
    obtain ⟨z,z1,hz2⟩:=num_ok (TB:=TB) b hb (p+1+1) (by omega) [-1,16,0,2] (by decide) (by decide)
    have hset:(y.es.map edRowC).set (0+k.toNat) (edRowC ⟨z,e2,e3⟩)=(y.es.set k.toNat ⟨z,e2,e3⟩).map edRowC:=by rw [Nat.zero_add,List.map_set]
    (repeat first|refine sN rfl ?_|((first|refine sA rfl ?_ ?_|refine s4 rfl ‹_› rfl ?_ ?_);first|exact tI|omega|simp only[oZ] at *;omega)|refine s2 rfl fun _ _hb=>?_|refine s3 rfl ?_ ?_<;>rintro rfl|refine aU rfl ?_|refine lexE ?_)
    ((refine aC rfl ?_ ?_<;>rintro ⟨⟩);all_goals try(exfalso;first|omega|simp only[oZ] at *;omega))
    refine rG (flX [(1,13),(5,1008),(6,2),(7,2),(8,1)]) (by kernel_rfl) ?_
    (repeat first|refine sN rfl ?_|((first|refine sA rfl ?_ ?_|refine s4 rfl ‹_› rfl ?_ ?_);first|exact tI|omega|simp only[oZ] at *;omega)|refine s2 rfl fun _ _hb=>?_|refine s3 rfl ?_ ?_<;>rintro rfl|refine aU rfl ?_|refine lexE ?_)
    (refine popO rfl ?_;refine popWK ?_ rfl ⟨rfl,rfl⟩;refine n_call [0] rfl rfl (hz2) ⟨rfl,by decide,by decide⟩ rfl (by simp[cX,zC,hΓ,cN]) ?_;rintro x0 σ1 nx1 ⟨rfl,rfl,rfl⟩ _;refine ⟨kept1 3 rfl rfl,?_⟩)
    (repeat first|refine sN rfl ?_|((first|refine sA rfl ?_ ?_|refine s4 rfl ‹_› rfl ?_ ?_);first|exact tI|omega|simp only[oZ] at *;omega)|refine s2 rfl fun _ _hb=>?_|refine s3 rfl ?_ ?_<;>rintro rfl|refine aU rfl ?_|refine lexE ?_)
    refine AWp.namesV [] [] rfl rfl [(4,.o (.ptr 1 3 0 0))] [(0,rdO b (p+1+1+1)),(1,.cells 29 3 [[.d (iD (y.al)),.d (iD (y.st)),.arr 2 3 0 (y.es.set k.toNat ⟨z,e2,e3⟩).length]]),(2,.cells 138 3 ((y.es.set k.toNat ⟨z,e2,e3⟩).map edRowC))] [0,1,2] (rl hΓ rfl) (by (repeat' first|exact tI|rfl|refine And.intro ?_ ?_)<;>(simp[cX,zC,hΓ,cN,spliceC,eC,hset]<;>rfl)) ?_;(try dsimp only[List.cons_append,List.nil_append]);refine AWp.freezeZ [1,2] [(4,.o (.ip (syRow ⟨y.al,y.st,y.es.set k.toNat ⟨z,e2,e3⟩⟩)))] ⟨⟨_,rfl,.inr (.o (.box rfl (.cons .d (.cons .d (.cons (.full rfl (by simp [Function.comp_def]) (by simp)) .nil)))))⟩,trivial⟩ ?_;refine AWp.ret ⟨_,rfl,[0],eSys ⟨y.al,y.st,y.es.set k.toNat ⟨z,e2,e3⟩⟩,[(0,rdO b (p+1+1+1))],⟨by intro i hi;match i with|0=>rfl,by decide⟩,rfl,by (repeat' first|exact tI|rfl|refine And.intro ?_ ?_)<;>(simp[cX,zC,hΓ,cN]<;>rfl),p+1+1+1,⟨y.al,y.st,y.es.set k.toNat ⟨z,e2,e3⟩⟩,by omega,by first|(simp;done)|(simp;omega),rfl,rfl,rfl⟩
  (repeat first|refine sN rfl ?_|((first|refine sA rfl ?_ ?_|refine s4 rfl ‹_› rfl ?_ ?_);first|exact tI|omega|simp only[oZ] at *;omega)|refine s2 rfl fun _ _hb=>?_|refine s3 rfl ?_ ?_<;>rintro rfl|refine aU rfl ?_|refine lexE ?_)
  (refine aC rfl ?_ ?_<;>rintro ⟨⟩)
  · by_cases hz:y.es.length=0
    · (repeat' first|refine sN rfl ?_|((first|refine sA rfl ?_ ?_|refine s4 rfl ‹_› rfl ?_ ?_);first|exact tI|omega|simp only[oZ] at *;omega)|refine s2 rfl fun _ _hb=>?_|refine s3 rfl ?_ ?_<;>rintro rfl|refine aU rfl ?_|refine lexE ?_|(refine aC rfl ?_ ?_<;>rintro ⟨⟩));all_goals try contradiction
      all_goals first
        | (exfalso;first|omega|simp only[oZ] at *;omega;done)
        | (refine AWp.skip ?_;(repeat first|refine sN rfl ?_|((first|refine sA rfl ?_ ?_|refine s4 rfl ‹_› rfl ?_ ?_);first|exact tI|omega|simp only[oZ] at *;omega)|refine s2 rfl fun _ _hb=>?_|refine s3 rfl ?_ ?_<;>rintro rfl|refine aU rfl ?_|refine lexE ?_);refine AWp.namesV [] [] rfl rfl [(4,.o (.ptr 1 3 0 0))] [(0,rdO b (p+1+1)),(1,.cells 29 3 [[.d (iD (y.al)),.d (iD (y.st)),.arr 2 3 0 (y.es).length]]),(2,.cells 138 3 ((y.es).map edRowC))] [0,1,2] (rl hΓ rfl) (by (repeat' first|exact tI|rfl|refine And.intro ?_ ?_)<;>(simp[cX,zC,hΓ,cN,spliceC,eC]<;>rfl)) ?_;(try dsimp only[List.cons_append,List.nil_append]);refine AWp.freezeZ [1,2] [(4,.o (.ip (syRow ⟨y.al,y.st,y.es⟩)))] ⟨⟨_,rfl,.inr (.o (.box rfl (.cons .d (.cons .d (.cons (.full rfl (by simp [Function.comp_def]) (by simp)) .nil)))))⟩,trivial⟩ ?_;refine AWp.ret ⟨_,rfl,[0],eSys ⟨y.al,y.st,y.es⟩,[(0,rdO b (p+1+1))],⟨by intro i hi;match i with|0=>rfl,by decide⟩,rfl,by (repeat' first|exact tI|rfl|refine And.intro ?_ ?_)<;>(simp[cX,zC,hΓ,cN]<;>rfl),p+1+1,⟨y.al,y.st,y.es⟩,by omega,by first|(simp;done)|(simp;omega),rfl,rfl,rfl⟩)
    obtain ⟨⟨e1,e2,e3⟩,he⟩:=get_some (l:=y.es) (k:=k.toNat) (by omega)
    have he':(y.es.map edRowC)[0+k.toNat]? = some (edRowC ⟨e1,e2,e3⟩):=by rw [Nat.zero_add];simp [he]
    obtain ⟨z,z1,hz2⟩:=num_ok (TB:=TB) b hb (p+1+1) (by omega) [-1,16,0,3] (by decide) (by decide)
    have hset:(y.es.map edRowC).set (0+k.toNat) (edRowC ⟨e1,e2,z⟩)=(y.es.set k.toNat ⟨e1,e2,z⟩).map edRowC:=by rw [Nat.zero_add,List.map_set]
    (repeat first|refine sN rfl ?_|((first|refine sA rfl ?_ ?_|refine s4 rfl ‹_› rfl ?_ ?_);first|exact tI|omega|simp only[oZ] at *;omega)|refine s2 rfl fun _ _hb=>?_|refine s3 rfl ?_ ?_<;>rintro rfl|refine aU rfl ?_|refine lexE ?_)
    ((refine aC rfl ?_ ?_<;>rintro ⟨⟩);all_goals try(exfalso;first|omega|simp only[oZ] at *;omega))
    refine rG (flX [(1,13),(5,1008),(6,2),(7,2),(8,1)]) (by kernel_rfl) ?_
    (repeat first|refine sN rfl ?_|((first|refine sA rfl ?_ ?_|refine s4 rfl ‹_› rfl ?_ ?_);first|exact tI|omega|simp only[oZ] at *;omega)|refine s2 rfl fun _ _hb=>?_|refine s3 rfl ?_ ?_<;>rintro rfl|refine aU rfl ?_|refine lexE ?_)
    (refine popO rfl ?_;refine popWK ?_ rfl ⟨rfl,rfl⟩;refine n_call [0] rfl rfl (hz2) ⟨rfl,by decide,by decide⟩ rfl (by simp[cX,zC,hΓ,cN]) ?_;rintro x0 σ1 nx1 ⟨rfl,rfl,rfl⟩ _;refine ⟨kept1 3 rfl rfl,?_⟩)
    (repeat first|refine sN rfl ?_|((first|refine sA rfl ?_ ?_|refine s4 rfl ‹_› rfl ?_ ?_);first|exact tI|omega|simp only[oZ] at *;omega)|refine s2 rfl fun _ _hb=>?_|refine s3 rfl ?_ ?_<;>rintro rfl|refine aU rfl ?_|refine lexE ?_)
    refine AWp.namesV [] [] rfl rfl [(4,.o (.ptr 1 3 0 0))] [(0,rdO b (p+1+1+1)),(1,.cells 29 3 [[.d (iD (y.al)),.d (iD (y.st)),.arr 2 3 0 (y.es.set k.toNat ⟨e1,e2,z⟩).length]]),(2,.cells 138 3 ((y.es.set k.toNat ⟨e1,e2,z⟩).map edRowC))] [0,1,2] (rl hΓ rfl) (by (repeat' first|exact tI|rfl|refine And.intro ?_ ?_)<;>(simp[cX,zC,hΓ,cN,spliceC,eC,hset]<;>rfl)) ?_;(try dsimp only[List.cons_append,List.nil_append]);refine AWp.freezeZ [1,2] [(4,.o (.ip (syRow ⟨y.al,y.st,y.es.set k.toNat ⟨e1,e2,z⟩⟩)))] ⟨⟨_,rfl,.inr (.o (.box rfl (.cons .d (.cons .d (.cons (.full rfl (by simp [Function.comp_def]) (by simp)) .nil)))))⟩,trivial⟩ ?_;refine AWp.ret ⟨_,rfl,[0],eSys ⟨y.al,y.st,y.es.set k.toNat ⟨e1,e2,z⟩⟩,[(0,rdO b (p+1+1+1))],⟨by intro i hi;match i with|0=>rfl,by decide⟩,rfl,by (repeat' first|exact tI|rfl|refine And.intro ?_ ?_)<;>(simp[cX,zC,hΓ,cN]<;>rfl),p+1+1+1,⟨y.al,y.st,y.es.set k.toNat ⟨e1,e2,z⟩⟩,by omega,by first|(simp;done)|(simp;omega),rfl,rfl,rfl⟩
  (repeat first|refine sN rfl ?_|((first|refine sA rfl ?_ ?_|refine s4 rfl ‹_› rfl ?_ ?_);first|exact tI|omega|simp only[oZ] at *;omega)|refine s2 rfl fun _ _hb=>?_|refine s3 rfl ?_ ?_<;>rintro rfl|refine aU rfl ?_|refine lexE ?_)
  (refine aC rfl ?_ ?_<;>rintro ⟨⟩)
  · by_cases hz:y.es.length=0
    · (repeat' first|refine sN rfl ?_|((first|refine sA rfl ?_ ?_|refine s4 rfl ‹_› rfl ?_ ?_);first|exact tI|omega|simp only[oZ] at *;omega)|refine s2 rfl fun _ _hb=>?_|refine s3 rfl ?_ ?_<;>rintro rfl|refine aU rfl ?_|refine lexE ?_|(refine aC rfl ?_ ?_<;>rintro ⟨⟩));all_goals try contradiction
      all_goals first
        | (exfalso;first|omega|simp only[oZ] at *;omega;done)
        | (refine AWp.skip ?_;(repeat first|refine sN rfl ?_|((first|refine sA rfl ?_ ?_|refine s4 rfl ‹_› rfl ?_ ?_);first|exact tI|omega|simp only[oZ] at *;omega)|refine s2 rfl fun _ _hb=>?_|refine s3 rfl ?_ ?_<;>rintro rfl|refine aU rfl ?_|refine lexE ?_);refine AWp.namesV [] [] rfl rfl [(4,.o (.ptr 1 3 0 0))] [(0,rdO b (p+1+1)),(1,.cells 29 3 [[.d (iD (y.al)),.d (iD (y.st)),.arr 2 3 0 (y.es).length]]),(2,.cells 138 3 ((y.es).map edRowC))] [0,1,2] (rl hΓ rfl) (by (repeat' first|exact tI|rfl|refine And.intro ?_ ?_)<;>(simp[cX,zC,hΓ,cN,spliceC,eC]<;>rfl)) ?_;(try dsimp only[List.cons_append,List.nil_append]);refine AWp.freezeZ [1,2] [(4,.o (.ip (syRow ⟨y.al,y.st,y.es⟩)))] ⟨⟨_,rfl,.inr (.o (.box rfl (.cons .d (.cons .d (.cons (.full rfl (by simp [Function.comp_def]) (by simp)) .nil)))))⟩,trivial⟩ ?_;refine AWp.ret ⟨_,rfl,[0],eSys ⟨y.al,y.st,y.es⟩,[(0,rdO b (p+1+1))],⟨by intro i hi;match i with|0=>rfl,by decide⟩,rfl,by (repeat' first|exact tI|rfl|refine And.intro ?_ ?_)<;>(simp[cX,zC,hΓ,cN]<;>rfl),p+1+1,⟨y.al,y.st,y.es⟩,by omega,by first|(simp;done)|(simp;omega),rfl,rfl,rfl⟩)
    obtain ⟨⟨e1,e2,e3⟩,he⟩:=get_some (l:=y.es) (k:=k.toNat) (by omega)
    have he':(y.es.map edRowC)[0+k.toNat]? = some (edRowC ⟨e1,e2,e3⟩):=by rw [Nat.zero_add];simp [he]
    obtain ⟨z,z1,hz2⟩:=num_ok (TB:=TB) b hb (p+1+1) (by omega) [-1,6,70,5,0] (by decide) (by decide)
    have hset:(y.es.map edRowC).set (0+k.toNat) (edRowC ⟨e1,z,e3⟩)=(y.es.set k.toNat ⟨e1,z,e3⟩).map edRowC:=by rw [Nat.zero_add,List.map_set]
    (repeat first|refine sN rfl ?_|((first|refine sA rfl ?_ ?_|refine s4 rfl ‹_› rfl ?_ ?_);first|exact tI|omega|simp only[oZ] at *;omega)|refine s2 rfl fun _ _hb=>?_|refine s3 rfl ?_ ?_<;>rintro rfl|refine aU rfl ?_|refine lexE ?_)
    ((refine aC rfl ?_ ?_<;>rintro ⟨⟩);all_goals try(exfalso;first|omega|simp only[oZ] at *;omega))
    refine rG (flX [(1,13),(5,1008),(6,2),(7,2),(8,1)]) (by kernel_rfl) ?_
    (repeat first|refine sN rfl ?_|((first|refine sA rfl ?_ ?_|refine s4 rfl ‹_› rfl ?_ ?_);first|exact tI|omega|simp only[oZ] at *;omega)|refine s2 rfl fun _ _hb=>?_|refine s3 rfl ?_ ?_<;>rintro rfl|refine aU rfl ?_|refine lexE ?_)
    (refine popO rfl ?_;refine popWK ?_ rfl ⟨rfl,rfl⟩;refine n_call [0] rfl rfl (hz2) ⟨rfl,by decide,by decide⟩ rfl (by simp[cX,zC,hΓ,cN]) ?_;rintro x0 σ1 nx1 ⟨rfl,rfl,rfl⟩ _;refine ⟨kept1 3 rfl rfl,?_⟩)
    (repeat first|refine sN rfl ?_|((first|refine sA rfl ?_ ?_|refine s4 rfl ‹_› rfl ?_ ?_);first|exact tI|omega|simp only[oZ] at *;omega)|refine s2 rfl fun _ _hb=>?_|refine s3 rfl ?_ ?_<;>rintro rfl|refine aU rfl ?_|refine lexE ?_)
    refine AWp.namesV [] [] rfl rfl [(4,.o (.ptr 1 3 0 0))] [(0,rdO b (p+1+1+1)),(1,.cells 29 3 [[.d (iD (y.al)),.d (iD (y.st)),.arr 2 3 0 (y.es.set k.toNat ⟨e1,z,e3⟩).length]]),(2,.cells 138 3 ((y.es.set k.toNat ⟨e1,z,e3⟩).map edRowC))] [0,1,2] (rl hΓ rfl) (by (repeat' first|exact tI|rfl|refine And.intro ?_ ?_)<;>(simp[cX,zC,hΓ,cN,spliceC,eC,hset]<;>rfl)) ?_;(try dsimp only[List.cons_append,List.nil_append]);refine AWp.freezeZ [1,2] [(4,.o (.ip (syRow ⟨y.al,y.st,y.es.set k.toNat ⟨e1,z,e3⟩⟩)))] ⟨⟨_,rfl,.inr (.o (.box rfl (.cons .d (.cons .d (.cons (.full rfl (by simp [Function.comp_def]) (by simp)) .nil)))))⟩,trivial⟩ ?_;refine AWp.ret ⟨_,rfl,[0],eSys ⟨y.al,y.st,y.es.set k.toNat ⟨e1,z,e3⟩⟩,[(0,rdO b (p+1+1+1))],⟨by intro i hi;match i with|0=>rfl,by decide⟩,rfl,by (repeat' first|exact tI|rfl|refine And.intro ?_ ?_)<;>(simp[cX,zC,hΓ,cN]<;>rfl),p+1+1+1,⟨y.al,y.st,y.es.set k.toNat ⟨e1,z,e3⟩⟩,by omega,by first|(simp;done)|(simp;omega),rfl,rfl,rfl⟩
  (repeat first|refine sN rfl ?_|((first|refine sA rfl ?_ ?_|refine s4 rfl ‹_› rfl ?_ ?_);first|exact tI|omega|simp only[oZ] at *;omega)|refine s2 rfl fun _ _hb=>?_|refine s3 rfl ?_ ?_<;>rintro rfl|refine aU rfl ?_|refine lexE ?_)
  (refine aC rfl ?_ ?_<;>rintro ⟨⟩)
  · by_cases hz:y.es.length=0
    · (repeat' first|refine sN rfl ?_|((first|refine sA rfl ?_ ?_|refine s4 rfl ‹_› rfl ?_ ?_);first|exact tI|omega|simp only[oZ] at *;omega)|refine s2 rfl fun _ _hb=>?_|refine s3 rfl ?_ ?_<;>rintro rfl|refine aU rfl ?_|refine lexE ?_|(refine aC rfl ?_ ?_<;>rintro ⟨⟩));all_goals try contradiction
      all_goals first
        | (exfalso;first|omega|simp only[oZ] at *;omega;done)
        | (refine AWp.skip ?_;(repeat first|refine sN rfl ?_|((first|refine sA rfl ?_ ?_|refine s4 rfl ‹_› rfl ?_ ?_);first|exact tI|omega|simp only[oZ] at *;omega)|refine s2 rfl fun _ _hb=>?_|refine s3 rfl ?_ ?_<;>rintro rfl|refine aU rfl ?_|refine lexE ?_);refine AWp.namesV [] [] rfl rfl [(4,.o (.ptr 1 3 0 0))] [(0,rdO b (p+1+1)),(1,.cells 29 3 [[.d (iD (y.al)),.d (iD (y.st)),.arr 2 3 0 (y.es).length]]),(2,.cells 138 3 ((y.es).map edRowC))] [0,1,2] (rl hΓ rfl) (by (repeat' first|exact tI|rfl|refine And.intro ?_ ?_)<;>(simp[cX,zC,hΓ,cN,spliceC,eC]<;>rfl)) ?_;(try dsimp only[List.cons_append,List.nil_append]);refine AWp.freezeZ [1,2] [(4,.o (.ip (syRow ⟨y.al,y.st,y.es⟩)))] ⟨⟨_,rfl,.inr (.o (.box rfl (.cons .d (.cons .d (.cons (.full rfl (by simp [Function.comp_def]) (by simp)) .nil)))))⟩,trivial⟩ ?_;refine AWp.ret ⟨_,rfl,[0],eSys ⟨y.al,y.st,y.es⟩,[(0,rdO b (p+1+1))],⟨by intro i hi;match i with|0=>rfl,by decide⟩,rfl,by (repeat' first|exact tI|rfl|refine And.intro ?_ ?_)<;>(simp[cX,zC,hΓ,cN]<;>rfl),p+1+1,⟨y.al,y.st,y.es⟩,by omega,by first|(simp;done)|(simp;omega),rfl,rfl,rfl⟩)
    obtain ⟨⟨e1,e2,e3⟩,he⟩:=get_some (l:=y.es) (k:=k.toNat) (by omega)
    have he':(y.es.map edRowC)[0+k.toNat]? = some (edRowC ⟨e1,e2,e3⟩):=by rw [Nat.zero_add];simp [he]
    (repeat first|refine sN rfl ?_|((first|refine sA rfl ?_ ?_|refine s4 rfl ‹_› rfl ?_ ?_);first|exact tI|omega|simp only[oZ] at *;omega)|refine s2 rfl fun _ _hb=>?_|refine s3 rfl ?_ ?_<;>rintro rfl|refine aU rfl ?_|refine lexE ?_)
    ((refine aC rfl ?_ ?_<;>rintro ⟨⟩);all_goals try(exfalso;first|omega|simp only[oZ] at *;omega))
    refine rG (flX [(1,13),(3,13),(6,12),(8,1),(10,1)]) (by kernel_rfl) ?_
    (repeat first|refine sN rfl ?_|((first|refine sA rfl ?_ ?_|refine s4 rfl ‹_› rfl ?_ ?_);first|exact tI|omega|simp only[oZ] at *;omega)|refine s2 rfl fun _ _hb=>?_|refine s3 rfl ?_ ?_<;>rintro rfl|refine aU rfl ?_|refine lexE ?_)
    (refine pW rfl ?_ rfl (by rfl);refine n_append rfl rfl rfl (by first|(simp;done)|(simp;(first|omega|simp only[oZ] at *;omega))) rfl (by intro r hr;simp at hr;subst hr;rfl) (by rfl) (Nat.le_of_ble_eq_true rfl) (by simp;omega) ?_)
    (repeat first|refine sN rfl ?_|((first|refine sA rfl ?_ ?_|refine s4 rfl ‹_› rfl ?_ ?_);first|exact tI|omega|simp only[oZ] at *;omega)|refine s2 rfl fun _ _hb=>?_|refine s3 rfl ?_ ?_<;>rintro rfl|refine aU rfl ?_|refine lexE ?_)
    refine AWp.namesV [] [] rfl rfl [(4,.o (.ptr 1 3 0 0))] [(0,rdO b (p+1+1)),(1,.cells 29 3 [[.d (iD (y.al)),.d (iD (y.st)),.arr 2 3 0 (y.es++[(⟨e1,e2,e3⟩:Edg)]).length]]),(2,.cells 138 3 ((y.es++[(⟨e1,e2,e3⟩:Edg)]).map edRowC))] [0,1,4] (rl hΓ rfl) (by (repeat' first|exact tI|rfl|refine And.intro ?_ ?_)<;>(simp[cX,zC,hΓ,cN,spliceC,eC]<;>rfl)) ?_;(try dsimp only[List.cons_append,List.nil_append]);refine AWp.freezeZ [1,2] [(4,.o (.ip (syRow ⟨y.al,y.st,y.es++[(⟨e1,e2,e3⟩:Edg)]⟩)))] ⟨⟨_,rfl,.inr (.o (.box rfl (.cons .d (.cons .d (.cons (.full rfl (by simp [Function.comp_def]) (by simp)) .nil)))))⟩,trivial⟩ ?_;refine AWp.ret ⟨_,rfl,[0],eSys ⟨y.al,y.st,y.es++[(⟨e1,e2,e3⟩:Edg)]⟩,[(0,rdO b (p+1+1))],⟨by intro i hi;match i with|0=>rfl,by decide⟩,rfl,by (repeat' first|exact tI|rfl|refine And.intro ?_ ?_)<;>(simp[cX,zC,hΓ,cN]<;>rfl),p+1+1,⟨y.al,y.st,y.es++[(⟨e1,e2,e3⟩:Edg)]⟩,by omega,by first|(simp;done)|(simp;omega),rfl,rfl,rfl⟩
  (repeat first|refine sN rfl ?_|((first|refine sA rfl ?_ ?_|refine s4 rfl ‹_› rfl ?_ ?_);first|exact tI|omega|simp only[oZ] at *;omega)|refine s2 rfl fun _ _hb=>?_|refine s3 rfl ?_ ?_<;>rintro rfl|refine aU rfl ?_|refine lexE ?_)
  (refine aC rfl ?_ ?_<;>rintro ⟨⟩)
  · obtain ⟨d1,_,_,hd1⟩:=pick_ok (TB:=TB) b hb (p+1+1) 4 (by omega)
    obtain ⟨d2,_,_,hd2⟩:=pick_ok (TB:=TB) b hb (p+1+1+1) 3 (by omega)
    obtain ⟨d3,_,_,hd3⟩:=pick_ok (TB:=TB) b hb (p+1+1+1+1) 4 (by omega)
    (repeat first|refine sN rfl ?_|((first|refine sA rfl ?_ ?_|refine s4 rfl ‹_› rfl ?_ ?_);first|exact tI|omega|simp only[oZ] at *;omega)|refine s2 rfl fun _ _hb=>?_|refine s3 rfl ?_ ?_<;>rintro rfl|refine aU rfl ?_|refine lexE ?_)
    refine rG ⟨flagOf [(1,13),(3,1008),(5,1008),(7,1008),(10,1),(12,1)],at0 [0,1,2,4,6,3,5,7,8,9,10,11,12]⟩ (by kernel_rfl) ?_
    (repeat first|refine sN rfl ?_|((first|refine sA rfl ?_ ?_|refine s4 rfl ‹_› rfl ?_ ?_);first|exact tI|omega|simp only[oZ] at *;omega)|refine s2 rfl fun _ _hb=>?_|refine s3 rfl ?_ ?_<;>rintro rfl|refine aU rfl ?_|refine lexE ?_)
    (refine popO rfl ?_;refine popWK ?_ rfl ⟨rfl,rfl⟩;refine n_call [0] rfl rfl (hd1) ⟨rfl,by decide,by decide⟩ rfl (by simp[cX,zC,hΓ,cN]) ?_;rintro x0 σ1 nx1 ⟨rfl,rfl,rfl⟩ _;refine ⟨kept1 3 rfl rfl,?_⟩)
    (repeat first|refine sN rfl ?_|((first|refine sA rfl ?_ ?_|refine s4 rfl ‹_› rfl ?_ ?_);first|exact tI|omega|simp only[oZ] at *;omega)|refine s2 rfl fun _ _hb=>?_|refine s3 rfl ?_ ?_<;>rintro rfl|refine aU rfl ?_|refine lexE ?_)
    (refine popO rfl ?_;refine popWK ?_ rfl ⟨rfl,rfl⟩;refine n_call [0] rfl rfl (hd2) ⟨rfl,by decide,by decide⟩ rfl (by simp[cX,zC,hΓ,cN]) ?_;rintro x0 σ1 nx1 ⟨rfl,rfl,rfl⟩ _;refine ⟨kept1 3 rfl rfl,?_⟩)
    (repeat first|refine sN rfl ?_|((first|refine sA rfl ?_ ?_|refine s4 rfl ‹_› rfl ?_ ?_);first|exact tI|omega|simp only[oZ] at *;omega)|refine s2 rfl fun _ _hb=>?_|refine s3 rfl ?_ ?_<;>rintro rfl|refine aU rfl ?_|refine lexE ?_)
    (refine popO rfl ?_;refine popWK ?_ rfl ⟨rfl,rfl⟩;refine n_call [0] rfl rfl (hd3) ⟨rfl,by decide,by decide⟩ rfl (by simp[cX,zC,hΓ,cN]) ?_;rintro x0 σ1 nx1 ⟨rfl,rfl,rfl⟩ _;refine ⟨kept1 3 rfl rfl,?_⟩)
    (repeat first|refine sN rfl ?_|((first|refine sA rfl ?_ ?_|refine s4 rfl ‹_› rfl ?_ ?_);first|exact tI|omega|simp only[oZ] at *;omega)|refine s2 rfl fun _ _hb=>?_|(refine popO rfl ?_;refine gA rfl ?_;first|refine gS (fun _ _=>q_build rfl rfl (by rfl) (by rfl)) ?_)|refine s3 rfl ?_ ?_<;>rintro rfl|refine aU rfl ?_|refine lexE ?_)
    (refine pW rfl ?_ rfl (by rfl);refine n_append rfl rfl rfl (by first|(simp;done)|(simp;(first|omega|simp only[oZ] at *;omega))) rfl (by intro r hr;simp at hr;subst hr;rfl) (by rfl) (Nat.le_of_ble_eq_true rfl) (by simp;omega) ?_)
    (repeat first|refine sN rfl ?_|((first|refine sA rfl ?_ ?_|refine s4 rfl ‹_› rfl ?_ ?_);first|exact tI|omega|simp only[oZ] at *;omega)|refine s2 rfl fun _ _hb=>?_|refine s3 rfl ?_ ?_<;>rintro rfl|refine aU rfl ?_|refine lexE ?_)
    refine AWp.namesV [] [] rfl rfl [(4,.o (.ptr 1 3 0 0))] [(0,rdO b (p+1+1+1+1+1)),(1,.cells 29 3 [[.d (iD (y.al)),.d (iD (y.st)),.arr 2 3 0 (y.es++[(⟨d1,d2,d3⟩:Edg)]).length]]),(2,.cells 138 3 ((y.es++[(⟨d1,d2,d3⟩:Edg)]).map edRowC))] [0,1,4] (rl hΓ rfl) (by (repeat' first|exact tI|rfl|refine And.intro ?_ ?_)<;>(simp[cX,zC,hΓ,cN,spliceC,eC]<;>rfl)) ?_;(try dsimp only[List.cons_append,List.nil_append]);refine AWp.freezeZ [1,2] [(4,.o (.ip (syRow ⟨y.al,y.st,y.es++[(⟨d1,d2,d3⟩:Edg)]⟩)))] ⟨⟨_,rfl,.inr (.o (.box rfl (.cons .d (.cons .d (.cons (.full rfl (by simp [Function.comp_def]) (by simp)) .nil)))))⟩,trivial⟩ ?_;refine AWp.ret ⟨_,rfl,[0],eSys ⟨y.al,y.st,y.es++[(⟨d1,d2,d3⟩:Edg)]⟩,[(0,rdO b (p+1+1+1+1+1))],⟨by intro i hi;match i with|0=>rfl,by decide⟩,rfl,by (repeat' first|exact tI|rfl|refine And.intro ?_ ?_)<;>(simp[cX,zC,hΓ,cN]<;>rfl),p+1+1+1+1+1,⟨y.al,y.st,y.es++[(⟨d1,d2,d3⟩:Edg)]⟩,by omega,by first|(simp;done)|(simp;omega),rfl,rfl,rfl⟩
  refine AWp.skip ?_
  (repeat first|refine sN rfl ?_|((first|refine sA rfl ?_ ?_|refine s4 rfl ‹_› rfl ?_ ?_);first|exact tI|omega|simp only[oZ] at *;omega)|refine s2 rfl fun _ _hb=>?_|refine s3 rfl ?_ ?_<;>rintro rfl|refine aU rfl ?_|refine lexE ?_)
  refine AWp.namesV [] [] rfl rfl [(4,.o (.ptr 1 3 0 0))] [(0,rdO b (p+1+1)),(1,.cells 29 3 [[.d (iD (y.al)),.d (iD (y.st)),.arr 2 3 0 (y.es).length]]),(2,.cells 138 3 ((y.es).map edRowC))] [0,1,2] (rl hΓ rfl) (by (repeat' first|exact tI|rfl|refine And.intro ?_ ?_)<;>(simp[cX,zC,hΓ,cN,spliceC,eC]<;>rfl)) ?_;(try dsimp only[List.cons_append,List.nil_append]);refine AWp.freezeZ [1,2] [(4,.o (.ip (syRow ⟨y.al,y.st,y.es⟩)))] ⟨⟨_,rfl,.inr (.o (.box rfl (.cons .d (.cons .d (.cons (.full rfl (by simp [Function.comp_def]) (by simp)) .nil)))))⟩,trivial⟩ ?_;refine AWp.ret ⟨_,rfl,[0],eSys ⟨y.al,y.st,y.es⟩,[(0,rdO b (p+1+1))],⟨by intro i hi;match i with|0=>rfl,by decide⟩,rfl,by (repeat' first|exact tI|rfl|refine And.intro ?_ ?_)<;>(simp[cX,zC,hΓ,cN]<;>rfl),p+1+1,⟨y.al,y.st,y.es⟩,by omega,by first|(simp;done)|(simp;omega),rfl,rfl,rfl⟩
def texts2:List W:=[[97,98,32,50,32,48,97,49,32,49,98,48],[97,98,99,32,51,32,48,97,49,32,49,98,50,32,50,99,48],[97,98,32,51,32,48,97,48,32,48,97,49,32,48,98,48,32,49,98,50,32,50,97,50],[98,99,32,50,32,48,98,49,32,49,99,48],[98,99,32,51,32,48,98,49,32,48,99,48,32,49,99,50,32,50,98,50,32,50,99,50],[45,32,49],[97,32,49,32,48,97,48],[97,99,32,52,32,48,97,49,32,48,97,50,32,49,99,51,32,50,97,50,32,51,97,48,32,51,99,51],[97,98,99,32,52,32,48,97,48,32,48,98,49,32,49,98,50,32,49,99,48,32,50,99,51,32,51,97,49],[97,98,32,53,32,48,97,48,32,48,97,49,32,48,98,48,32,49,97,50,32,49,98,50,32,50,97,51,32,50,98,51,32,51,97,52,32,51,98,52],[97,98,100,32,51,32,48,97,49,32,48,100,48,32,49,98,48,32,49,100,50]]
theorem texts2_bd:∀w∈texts2,w.length≤60:=by decide
theorem l2Texts_ok:Pure Tryz.prog TB 155 [] (eTexts texts2):=by
  refine eN Tryz.func155 rfl (by kernel_rfl) rfl ?_;intro Γ hΓ
  (repeat first|refine sN rfl ?_|((first|refine sA rfl ?_ ?_|refine s4 rfl ‹_› rfl ?_ ?_);first|exact tI|omega|simp only[oZ] at *;omega)|refine s2 rfl fun _ _hb=>?_|refine s3 rfl ?_ ?_<;>rintro rfl|refine aU rfl ?_|refine lexE ?_)
  refine AWp.ret ⟨_,rfl,rfl⟩
theorem l2Draw_ok (b:List UInt8) (hb:b.length≤2000) (p:Int) (h0:0≤p∧p < 700000000):Spec Tryz.prog TB 128 [(0,rdO b p)] 1 [.o (.ptr 0 2 0 0)] (SysPost b p 410 (fun s=>s.es.length≤400)):=by
  obtain ⟨c,c1,c2,hp⟩:=pick_ok (TB:=TB) b hb p 3 (by omega)
  obtain ⟨w,hw,ho⟩:=of_ok (TB:=TB) b hb (p+1) (by omega) texts2 (by decide) (by decide)
  have hwl:=texts2_bd w hw
  have hpa:=ParseSystem_ok (TB:=TB) w (by omega)
  have hrand:∀q:Int,p≤q∧q≤p+2→∃(n1 n2 n3:Int),(0≤n2∧n2≤8)∧Spec Tryz.prog TB 77 [(0,rdO b q)] 1 [.o (.ptr 0 2 0 0),eInts [3,6,7,5,1,0,12]] (fun x σ nx=>x=eI .i64 n1∧σ=[(0,rdO b (q+1))]∧nx=1)∧
      Spec Tryz.prog TB 77 [(0,rdO b (q+1))] 1 [.o (.ptr 0 2 0 0),eInts [3,2,4,1,5]] (fun x σ nx=>x=eI .i64 n2∧σ=[(0,rdO b (q+1+1))]∧nx=1)∧
      Spec Tryz.prog TB 77 [(0,rdO b (q+1+1))] 1 [.o (.ptr 0 2 0 0),eInts [3,2,4,6]] (fun x σ nx=>x=eI .i64 n3∧σ=[(0,rdO b (q+1+1+1))]∧nx=1):=fun q hq=>by
    obtain ⟨n1,m1,k1⟩:=num_ok (TB:=TB) b hb q (by omega) [3,6,7,5,1,0,12] (by decide) (by decide)
    obtain ⟨n2,m2,k2⟩:=num_ok (TB:=TB) b hb (q+1) (by omega) [3,2,4,1,5] (by decide) (by decide)
    obtain ⟨n3,m3,k3⟩:=num_ok (TB:=TB) b hb (q+1+1) (by omega) [3,2,4,6] (by decide) (by decide)
    exact ⟨n1,n2,n3,by simp at m2;omega,k1,k2,k3⟩
  refine SpecK.toSpec (SpecK.ren (SpecK.ofG (Nat.le_refl _) Tryz.func128 rfl (by kernel_rfl) (Nat.le_of_ble_eq_true rfl) ?_));intro Γ hΓ
  (repeat first|refine sN rfl ?_|((first|refine sA rfl ?_ ?_|refine s4 rfl ‹_› rfl ?_ ?_);first|exact tI|omega|simp only[oZ] at *;omega)|refine s2 rfl fun _ _hb=>?_|refine s3 rfl ?_ ?_<;>rintro rfl|refine aU rfl ?_|refine lexE ?_)
  (refine pW rfl ?_ rfl (by rfl);refine n_call [0] rfl rfl (hp) ⟨rfl,by decide,by decide⟩ rfl (by simp[cX,zC,hΓ,cN]) ?_;rintro x0 σ1 nx1 ⟨rfl,rfl,rfl⟩ _)
  (repeat first|refine sN rfl ?_|((first|refine sA rfl ?_ ?_|refine s4 rfl ‹_› rfl ?_ ?_);first|exact tI|omega|simp only[oZ] at *;omega)|refine s2 rfl fun _ _hb=>?_|refine s3 rfl ?_ ?_<;>rintro rfl|refine aU rfl ?_|refine lexE ?_)
  (refine aC rfl ?_ ?_<;>rintro ⟨⟩)
  · (repeat first|refine sN rfl ?_|((first|refine sA rfl ?_ ?_|refine s4 rfl ‹_› rfl ?_ ?_);first|exact tI|omega|simp only[oZ] at *;omega)|refine s2 rfl fun _ _hb=>?_ |refine sP rfl (l2Texts_ok) rfl ?_|refine s3 rfl ?_ ?_<;>rintro rfl|refine aU rfl ?_|refine lexE ?_)
    (refine pW rfl ?_ rfl (by rfl);refine n_call [0] rfl rfl (ho) ⟨rfl,by decide,by decide⟩ rfl (by simp[cX,zC,hΓ,cN]) ?_;rintro x0 σ1 nx1 ⟨rfl,rfl,rfl⟩ _)
    (repeat first|refine sN rfl ?_|((first|refine sA rfl ?_ ?_|refine s4 rfl ‹_› rfl ?_ ?_);first|exact tI|omega|simp only[oZ] at *;omega)|refine s2 rfl fun _ _hb=>?_|refine s3 rfl ?_ ?_<;>rintro rfl|refine aU rfl ?_|refine lexE ?_)
    (refine pW rfl ?_ rfl (by rfl);refine n_call [] rfl rfl (hpa) ⟨rfl,by decide,by decide⟩ rfl trivial ?_;rintro x0 σ1 nx1 ⟨⟨y,ok⟩,hy,rfl,rfl,rfl⟩ _)
    have hy1:y.es.length≤w.length+1:=hy
    (repeat first|refine sN rfl ?_|((first|refine sA rfl ?_ ?_|refine s4 rfl ‹_› rfl ?_ ?_);first|exact tI|omega|simp only[oZ] at *;omega)|refine s2 rfl fun _ _hb=>?_|refine s3 rfl ?_ ?_<;>rintro rfl|refine aU rfl ?_|refine lexE ?_)
    (refine aC rfl ?_ ?_<;>rintro ⟨⟩)
    · (repeat first|refine sN rfl ?_|((first|refine sA rfl ?_ ?_|refine s4 rfl ‹_› rfl ?_ ?_);first|exact tI|omega|simp only[oZ] at *;omega)|refine s2 rfl fun _ _hb=>?_|refine s3 rfl ?_ ?_<;>rintro rfl|refine aU rfl ?_|refine lexE ?_)
      exact AWp.ret ⟨_,rfl,[0],eSys y,[(0,rdO b (p+1+1))],⟨by intro i hi;match i with|0=>rfl,by decide⟩,rfl,by (repeat' first|exact tI|rfl|refine And.intro ?_ ?_)<;>(simp[cX,zC,hΓ,cN]<;>rfl),p+1+1,y,by omega,by show y.es.length≤400;omega,rfl,rfl,rfl⟩
    refine AWp.skip ?_
    obtain ⟨n1,n2,n3,m2,k1,k2,k3⟩:=hrand (p+1+1) (by omega)
    have f:=l2Random_ok (TB:=TB) b hb (p+1+1+1+1+1) (by omega) n1 n2 n3 (by omega)
    (repeat first|refine sN rfl ?_|((first|refine sA rfl ?_ ?_|refine s4 rfl ‹_› rfl ?_ ?_);first|exact tI|omega|simp only[oZ] at *;omega)|refine s2 rfl fun _ _hb=>?_|refine s3 rfl ?_ ?_<;>rintro rfl|refine aU rfl ?_|refine lexE ?_)
    (refine pW rfl ?_ rfl (by rfl);refine n_call [0] rfl rfl (k1) ⟨rfl,by decide,by decide⟩ rfl (by simp[cX,zC,hΓ,cN]) ?_;rintro x0 σ1 nx1 ⟨rfl,rfl,rfl⟩ _)
    (repeat first|refine sN rfl ?_|((first|refine sA rfl ?_ ?_|refine s4 rfl ‹_› rfl ?_ ?_);first|exact tI|omega|simp only[oZ] at *;omega)|refine s2 rfl fun _ _hb=>?_|refine s3 rfl ?_ ?_<;>rintro rfl|refine aU rfl ?_|refine lexE ?_)
    (refine pW rfl ?_ rfl (by rfl);refine n_call [0] rfl rfl (k2) ⟨rfl,by decide,by decide⟩ rfl (by simp[cX,zC,hΓ,cN]) ?_;rintro x0 σ1 nx1 ⟨rfl,rfl,rfl⟩ _)
    (repeat first|refine sN rfl ?_|((first|refine sA rfl ?_ ?_|refine s4 rfl ‹_› rfl ?_ ?_);first|exact tI|omega|simp only[oZ] at *;omega)|refine s2 rfl fun _ _hb=>?_|refine s3 rfl ?_ ?_<;>rintro rfl|refine aU rfl ?_|refine lexE ?_)
    (refine pW rfl ?_ rfl (by rfl);refine n_call [0] rfl rfl (k3) ⟨rfl,by decide,by decide⟩ rfl (by simp[cX,zC,hΓ,cN]) ?_;rintro x0 σ1 nx1 ⟨rfl,rfl,rfl⟩ _)
    (repeat first|refine sN rfl ?_|((first|refine sA rfl ?_ ?_|refine s4 rfl ‹_› rfl ?_ ?_);first|exact tI|omega|simp only[oZ] at *;omega)|refine s2 rfl fun _ _hb=>?_|refine s3 rfl ?_ ?_<;>rintro rfl|refine aU rfl ?_|refine lexE ?_)
    (refine pW rfl ?_ rfl (by rfl);refine n_callK [0] rfl rfl 1 (f) (by decide) ⟨rfl,by decide,by decide⟩ rfl (by simp[cX,zC,hΓ,cN]) ?_;rintro x0 σ1 nx1 ⟨q,y2,hq,hy2,rfl,rfl,rfl⟩ _)
    (repeat first|refine sN rfl ?_|((first|refine sA rfl ?_ ?_|refine s4 rfl ‹_› rfl ?_ ?_);first|exact tI|omega|simp only[oZ] at *;omega)|refine s2 rfl fun _ _hb=>?_|refine s3 rfl ?_ ?_<;>rintro rfl|refine aU rfl ?_|refine lexE ?_)
    exact AWp.ret ⟨_,rfl,[0],eSys y2,[(0,rdO b q)],⟨by intro i hi;match i with|0=>rfl,by decide⟩,rfl,by (repeat' first|exact tI|rfl|refine And.intro ?_ ?_)<;>(simp[cX,zC,hΓ,cN]<;>rfl),q,y2,by omega,hy2.2.2,rfl,rfl,rfl⟩
  refine AWp.skip ?_
  obtain ⟨n1,n2,n3,m2,k1,k2,k3⟩:=hrand (p+1) (by omega)
  have f:=l2Random_ok (TB:=TB) b hb (p+1+1+1+1) (by omega) n1 n2 n3 (by omega)
  (repeat first|refine sN rfl ?_|((first|refine sA rfl ?_ ?_|refine s4 rfl ‹_› rfl ?_ ?_);first|exact tI|omega|simp only[oZ] at *;omega)|refine s2 rfl fun _ _hb=>?_|refine s3 rfl ?_ ?_<;>rintro rfl|refine aU rfl ?_|refine lexE ?_)
  (refine pW rfl ?_ rfl (by rfl);refine n_call [0] rfl rfl (k1) ⟨rfl,by decide,by decide⟩ rfl (by simp[cX,zC,hΓ,cN]) ?_;rintro x0 σ1 nx1 ⟨rfl,rfl,rfl⟩ _)
  (repeat first|refine sN rfl ?_|((first|refine sA rfl ?_ ?_|refine s4 rfl ‹_› rfl ?_ ?_);first|exact tI|omega|simp only[oZ] at *;omega)|refine s2 rfl fun _ _hb=>?_|refine s3 rfl ?_ ?_<;>rintro rfl|refine aU rfl ?_|refine lexE ?_)
  (refine pW rfl ?_ rfl (by rfl);refine n_call [0] rfl rfl (k2) ⟨rfl,by decide,by decide⟩ rfl (by simp[cX,zC,hΓ,cN]) ?_;rintro x0 σ1 nx1 ⟨rfl,rfl,rfl⟩ _)
  (repeat first|refine sN rfl ?_|((first|refine sA rfl ?_ ?_|refine s4 rfl ‹_› rfl ?_ ?_);first|exact tI|omega|simp only[oZ] at *;omega)|refine s2 rfl fun _ _hb=>?_|refine s3 rfl ?_ ?_<;>rintro rfl|refine aU rfl ?_|refine lexE ?_)
  (refine pW rfl ?_ rfl (by rfl);refine n_call [0] rfl rfl (k3) ⟨rfl,by decide,by decide⟩ rfl (by simp[cX,zC,hΓ,cN]) ?_;rintro x0 σ1 nx1 ⟨rfl,rfl,rfl⟩ _)
  (repeat first|refine sN rfl ?_|((first|refine sA rfl ?_ ?_|refine s4 rfl ‹_› rfl ?_ ?_);first|exact tI|omega|simp only[oZ] at *;omega)|refine s2 rfl fun _ _hb=>?_|refine s3 rfl ?_ ?_<;>rintro rfl|refine aU rfl ?_|refine lexE ?_)
  (refine pW rfl ?_ rfl (by rfl);refine n_callK [0] rfl rfl 1 (f) (by decide) ⟨rfl,by decide,by decide⟩ rfl (by simp[cX,zC,hΓ,cN]) ?_;rintro x0 σ1 nx1 ⟨q,y2,hq,hy2,rfl,rfl,rfl⟩ _)
  (repeat first|refine sN rfl ?_|((first|refine sA rfl ?_ ?_|refine s4 rfl ‹_› rfl ?_ ?_);first|exact tI|omega|simp only[oZ] at *;omega)|refine s2 rfl fun _ _hb=>?_|refine s3 rfl ?_ ?_<;>rintro rfl|refine aU rfl ?_|refine lexE ?_)
  exact AWp.ret ⟨_,rfl,[0],eSys y2,[(0,rdO b q)],⟨by intro i hi;match i with|0=>rfl,by decide⟩,rfl,by (repeat' first|exact tI|rfl|refine And.intro ?_ ?_)<;>(simp[cX,zC,hΓ,cN]<;>rfl),q,y2,by omega,hy2.2.2,rfl,rfl,rfl⟩
abbrev eThree (r:Sys×Aut×Sys):E:=.t [(true,(syRow r.1).map .d),(true,(auRow r.2.1).map .d),(true,(syRow r.2.2).map .d)]
structure ThrBd (r:Sys×Aut×Sys):Prop where
  a:r.1.es.length≤400
  b:ABd 41 r.2.1
  c:r.2.2.es.length≤400
def ThrPost (b:List UInt8) (p m:Int) (x:E) (σ:Store) (nx:Nat):Prop:=∃(p':Int) (r:Sys×Aut×Sys),(p≤p'∧p'≤p+m)∧ThrBd r∧x=eThree r∧σ=[(0,rdO b p')]∧nx=1
theorem ABd.upto {m n:Nat} {a:Aut} (h:ABd m a) (hm:m≤n):ABd n a:=⟨by have:=h.nx;omega,by have:=h.ac;omega,fun r hr=>by have:=h.row r hr;omega⟩
theorem fork2 {C X:Int→Sys→Prop} {Y:Prop} (h:∀q s,C q s→X q s) (hk:(∀q s,C q s→X q s)→Y):Y:=hk h
theorem l9Three_ok (b:List UInt8) (hb:b.length≤2000) (p:Int) (h0:0≤p∧p < 600000000):Spec Tryz.prog TB 102 [(0,rdO b p)] 1 [.o (.ptr 0 2 0 0)] (ThrPost b p 2000):=by
  have f1:=l2Small_ok (TB:=TB) b hb p (by omega)
  refine SpecK.toSpec (SpecK.ren (SpecK.ofG (Nat.le_refl _) Tryz.func102 rfl (by kernel_rfl) (Nat.le_of_ble_eq_true rfl) ?_));intro Γ hΓ
  (repeat first|refine sN rfl ?_|((first|refine sA rfl ?_ ?_|refine s4 rfl ‹_› rfl ?_ ?_);first|exact tI|omega|simp only[oZ] at *;omega)|refine s2 rfl fun _ _hb=>?_|refine s3 rfl ?_ ?_<;>rintro rfl|refine aU rfl ?_|refine lexE ?_)
  (refine pW rfl ?_ rfl (by rfl);refine n_call [0] rfl rfl (f1) ⟨rfl,by decide,by decide⟩ rfl (by simp[cX,zC,hΓ,cN]) ?_;rintro x0 σ1 nx1 ⟨p1,y1,hp1,hs1,rfl,rfl,rfl⟩ _)
  (repeat first|refine sN rfl ?_|((first|refine sA rfl ?_ ?_|refine s4 rfl ‹_› rfl ?_ ?_);first|exact tI|omega|simp only[oZ] at *;omega)|refine s2 rfl fun _ _hb=>?_|refine s3 rfl ?_ ?_<;>rintro rfl|refine aU rfl ?_|refine lexE ?_)
  have f2:=l2Small_ok (TB:=TB) b hb p1 (by omega)
  (refine pW rfl ?_ rfl (by rfl);refine n_call [0] rfl rfl (f2) ⟨rfl,by decide,by decide⟩ rfl (by simp[cX,zC,hΓ,cN]) ?_;rintro x0 σ1 nx1 ⟨p2,y2,hp2,hs2,rfl,rfl,rfl⟩ _)
  (repeat first|refine sN rfl ?_|((first|refine sA rfl ?_ ?_|refine s4 rfl ‹_› rfl ?_ ?_);first|exact tI|omega|simp only[oZ] at *;omega)|refine s2 rfl fun _ _hb=>?_|refine s3 rfl ?_ ?_<;>rintro rfl|refine aU rfl ?_|refine lexE ?_)
  obtain ⟨c,c1,c2,hc⟩:=pick_ok (TB:=TB) b hb p2 4 (by omega)
  (refine pW rfl ?_ rfl (by rfl);refine n_call [0] rfl rfl (hc) ⟨rfl,by decide,by decide⟩ rfl (by simp[cX,zC,hΓ,cN]) ?_;rintro x0 σ1 nx1 ⟨rfl,rfl,rfl⟩ _)
  apply fork2 (C:=fun q s=>(p≤q∧q≤p+1300)∧s.es.length≤400)
  case hk=>
    intro hk
    (repeat first|refine sN rfl ?_|((first|refine sA rfl ?_ ?_|refine s4 rfl ‹_› rfl ?_ ?_);first|exact tI|omega|simp only[oZ] at *;omega)|refine s2 rfl fun _ _hb=>?_|refine s3 rfl ?_ ?_<;>rintro rfl|refine aU rfl ?_|refine lexE ?_)
    (refine aC rfl ?_ ?_<;>rintro ⟨⟩)
    · (repeat first|refine sN rfl ?_|((first|refine sA rfl ?_ ?_|refine s4 rfl ‹_› rfl ?_ ?_);first|exact tI|omega|simp only[oZ] at *;omega)|refine s2 rfl fun _ _hb=>?_|refine s3 rfl ?_ ?_<;>rintro rfl|refine aU rfl ?_|refine lexE ?_)
      have f3:=l2Draw_ok (TB:=TB) b hb (p2+1) (by omega)
      (refine pW rfl ?_ rfl (by rfl);refine n_call [0] rfl rfl (f3) ⟨rfl,by decide,by decide⟩ rfl (by simp[cX,zC,hΓ,cN]) ?_;rintro x0 σ1 nx1 ⟨p3,y3,hp3,hs3,rfl,rfl,rfl⟩ _)
      (repeat first|refine sN rfl ?_|((first|refine sA rfl ?_ ?_|refine s4 rfl ‹_› rfl ?_ ?_);first|exact tI|omega|simp only[oZ] at *;omega)|refine s2 rfl fun _ _hb=>?_|refine s3 rfl ?_ ?_<;>rintro rfl)
      refine lexE ?_
      refine AWp.namesV [0] [] rfl rfl [(2,.o (.ptr 1 3 0 0)),(3,.o (.ptr 2 3 0 0)),(4,.o (.ptr 3 3 0 0)),(5,.o (.ptr 4 3 0 0)),(6,.o (.ptr 5 3 0 0))] [(0,rdO b p3),(1,.cells 29 3 [[.d (iD 0),.d (iD 0),.d (.l [])]]),(2,.cells 26 3 [[.d (iD 0),.d (.l []),.d (.l [])]]),(3,.cells 29 3 [[.d (iD 0),.d (iD 0),.d (.l [])]]),(4,.cells 29 3 [(syRow y3).map .d]),(5,.cells 29 3 [(syRow y2).map .d])] [0,1,2,3,4,5] (rl hΓ rfl) (by (repeat' first|exact tI|rfl|refine And.intro ?_ ?_)<;>(simp[cX,zC,hΓ,cN,spliceC,eC]<;>rfl)) ?_;(try dsimp only[List.cons_append,List.nil_append])
      exact hk p3 y3 ⟨by omega,hs3⟩
    · refine AWp.skip ?_
      generalize hp3:p2+1=p3 at *
      refine AWp.namesV [0] [] rfl rfl [(2,.o (.ptr 1 3 0 0)),(3,.o (.ptr 2 3 0 0)),(4,.o (.ptr 3 3 0 0)),(5,.o (.ptr 4 3 0 0)),(6,.o (.ptr 5 3 0 0))] [(0,rdO b p3),(1,.cells 29 3 [[.d (iD 0),.d (iD 0),.d (.l [])]]),(2,.cells 26 3 [[.d (iD 0),.d (.l []),.d (.l [])]]),(3,.cells 29 3 [[.d (iD 0),.d (iD 0),.d (.l [])]]),(4,.cells 29 3 [(syRow y1).map .d]),(5,.cells 29 3 [(syRow y2).map .d])] [0,1,2,3,4,5] (rl hΓ rfl) (by (repeat' first|exact tI|rfl|refine And.intro ?_ ?_)<;>(simp[cX,zC,hΓ,cN,spliceC,eC]<;>rfl)) ?_;(try dsimp only[List.cons_append,List.nil_append])
      exact hk p3 y1 ⟨by omega,hs1.2⟩
  case h =>
    intro p3 y3 ⟨hp3,hs3⟩
    (repeat first|refine sN rfl ?_|((first|refine sA rfl ?_ ?_|refine s4 rfl ‹_› rfl ?_ ?_);first|exact tI|omega|simp only[oZ] at *;omega)|refine s2 rfl fun _ _hb=>?_|refine s3 rfl ?_ ?_<;>rintro rfl|refine aU rfl ?_|refine lexE ?_)
    obtain ⟨c3,c4,c5,hc2⟩:=pick_ok (TB:=TB) b hb p3 4 (by omega)
    (refine pW rfl ?_ rfl (by rfl);refine n_call [0] rfl rfl (hc2) ⟨rfl,by decide,by decide⟩ rfl (by simp[cX,zC,hΓ,cN]) ?_;rintro x0 σ1 nx1 ⟨rfl,rfl,rfl⟩ _)
    apply fork2 (C:=fun q s=>(p≤q∧q≤p+1800)∧s.es.length≤400)
    case hk=>
      intro hk
      (repeat first|refine sN rfl ?_|((first|refine sA rfl ?_ ?_|refine s4 rfl ‹_› rfl ?_ ?_);first|exact tI|omega|simp only[oZ] at *;omega)|refine s2 rfl fun _ _hb=>?_|refine s3 rfl ?_ ?_<;>rintro rfl|refine aU rfl ?_|refine lexE ?_)
      (refine aC rfl ?_ ?_<;>rintro ⟨⟩)
      · (repeat first|refine sN rfl ?_|((first|refine sA rfl ?_ ?_|refine s4 rfl ‹_› rfl ?_ ?_);first|exact tI|omega|simp only[oZ] at *;omega)|refine s2 rfl fun _ _hb=>?_|refine s3 rfl ?_ ?_<;>rintro rfl|refine aU rfl ?_|refine lexE ?_)
        have f3:=l2Draw_ok (TB:=TB) b hb (p3+1) (by omega)
        (refine pW rfl ?_ rfl (by rfl);refine n_call [0] rfl rfl (f3) ⟨rfl,by decide,by decide⟩ rfl (by simp[cX,zC,hΓ,cN]) ?_;rintro x0 σ1 nx1 ⟨p4,y4,hp4,hs4,rfl,rfl,rfl⟩ _)
        (repeat first|refine sN rfl ?_|((first|refine sA rfl ?_ ?_|refine s4 rfl ‹_› rfl ?_ ?_);first|exact tI|omega|simp only[oZ] at *;omega)|refine s2 rfl fun _ _hb=>?_|refine s3 rfl ?_ ?_<;>rintro rfl)
        refine lexE ?_
        refine AWp.namesV [0] [] rfl rfl [(2,.o (.ptr 1 3 0 0)),(3,.o (.ptr 2 3 0 0)),(4,.o (.ptr 3 3 0 0)),(5,.o (.ptr 4 3 0 0)),(6,.o (.ptr 5 3 0 0))] [(0,rdO b p4),(1,.cells 29 3 [[.d (iD 0),.d (iD 0),.d (.l [])]]),(2,.cells 26 3 [[.d (iD 0),.d (.l []),.d (.l [])]]),(3,.cells 29 3 [[.d (iD 0),.d (iD 0),.d (.l [])]]),(4,.cells 29 3 [(syRow y3).map .d]),(5,.cells 29 3 [(syRow y4).map .d])] [0,1,2,3,4,5] (rl hΓ rfl) (by (repeat' first|exact tI|rfl|refine And.intro ?_ ?_)<;>(simp[cX,zC,hΓ,cN,spliceC,eC]<;>rfl)) ?_;(try dsimp only[List.cons_append,List.nil_append])
        exact hk p4 y4 ⟨by omega,hs4⟩
      · refine AWp.skip ?_
        generalize hp4:p3+1=p4 at *
        refine AWp.namesV [0] [] rfl rfl [(2,.o (.ptr 1 3 0 0)),(3,.o (.ptr 2 3 0 0)),(4,.o (.ptr 3 3 0 0)),(5,.o (.ptr 4 3 0 0)),(6,.o (.ptr 5 3 0 0))] [(0,rdO b p4),(1,.cells 29 3 [[.d (iD 0),.d (iD 0),.d (.l [])]]),(2,.cells 26 3 [[.d (iD 0),.d (.l []),.d (.l [])]]),(3,.cells 29 3 [[.d (iD 0),.d (iD 0),.d (.l [])]]),(4,.cells 29 3 [(syRow y3).map .d]),(5,.cells 29 3 [(syRow y2).map .d])] [0,1,2,3,4,5] (rl hΓ rfl) (by (repeat' first|exact tI|rfl|refine And.intro ?_ ?_)<;>(simp[cX,zC,hΓ,cN,spliceC,eC]<;>rfl)) ?_;(try dsimp only[List.cons_append,List.nil_append])
        exact hk p4 y2 ⟨by omega,hs2.2⟩
    case h=>
      intro p4 y4 ⟨hp4,hs4⟩
      have f8:=l8Property_ok (TB:=TB) b hb p4 (by omega) (iOr .i64 y3.al y4.al)
      (repeat first|refine sN rfl ?_|((first|refine sA rfl ?_ ?_|refine s4 rfl ‹_› rfl ?_ ?_);first|exact tI|omega|simp only[oZ] at *;omega)|refine s2 rfl fun _ _hb=>?_|refine s3 rfl ?_ ?_<;>rintro rfl|refine aU rfl ?_|refine lexE ?_)
      refine rG ⟨flagOf [(0,14),(3,14),(5,15),(7,1048),(8,15),(9,1032),(10,1032),(11,1)],at0 [0,1,2,3,4,5,6,8,7,9,10,11]⟩ (by kernel_rfl) ?_
      (repeat first|refine sN rfl ?_|((first|refine sA rfl ?_ ?_|refine s4 rfl ‹_› rfl ?_ ?_);first|exact tI|omega|simp only[oZ] at *;omega)|refine s2 rfl fun _ _hb=>?_|refine s3 rfl ?_ ?_<;>rintro rfl|refine aU rfl ?_|refine lexE ?_)
      (refine popO rfl ?_;refine popWK ?_ rfl ⟨rfl,rfl⟩;refine n_call [0] rfl rfl (f8) ⟨rfl,by decide,by decide⟩ rfl (by simp[cX,zC,hΓ,cN]) ?_;rintro x0 σ1 nx1 ⟨p5,a5,hp5,ha5,rfl,rfl,rfl⟩ _;refine ⟨kept2 4 5 rfl rfl rfl,?_⟩)
      (repeat first|refine sN rfl ?_|((first|refine sA rfl ?_ ?_|refine s4 rfl ‹_› rfl ?_ ?_);first|exact tI|omega|simp only[oZ] at *;omega)|refine s2 rfl fun _ _hb=>?_|refine s3 rfl ?_ ?_<;>rintro rfl|refine aU rfl ?_|refine lexE ?_)
      (refine popO rfl ?_;refine popWK0 ?_ rfl ⟨rfl,rfl⟩;refine n_store rfl rfl rfl rfl (by rfl) rfl (Nat.le_of_ble_eq_true rfl) ?_;refine ⟨kept1 5 rfl rfl,?_⟩)
      (repeat first|refine sN rfl ?_|((first|refine sA rfl ?_ ?_|refine s4 rfl ‹_› rfl ?_ ?_);first|exact tI|omega|simp only[oZ] at *;omega)|refine s2 rfl fun _ _hb=>?_|refine s3 rfl ?_ ?_<;>rintro rfl|refine aU rfl ?_|refine lexE ?_)
      (refine popO rfl ?_;refine popWK0 ?_ rfl ⟨rfl,rfl⟩;refine n_store rfl rfl rfl rfl (by rfl) rfl (Nat.le_of_ble_eq_true rfl) ?_;refine ⟨kept1 5 rfl rfl,?_⟩)
      (repeat first|refine sN rfl ?_|((first|refine sA rfl ?_ ?_|refine s4 rfl ‹_› rfl ?_ ?_);first|exact tI|omega|simp only[oZ] at *;omega)|refine s2 rfl fun _ _hb=>?_|refine s3 rfl ?_ ?_<;>rintro rfl|refine aU rfl ?_|refine lexE ?_)
      exact AWp.ret ⟨_,rfl,[0],eThree (y3,a5,y4),[(0,rdO b p5)],⟨by intro i hi;match i with|0=>rfl,by decide⟩,rfl,by (repeat' first|exact tI|rfl|refine And.intro ?_ ?_)<;>(simp[cX,zC,hΓ,cN]<;>rfl),p5,(y3,a5,y4),by omega,⟨hs3,ha5.upto (by omega),hs4⟩,rfl,rfl,rfl⟩
end Go.Am
