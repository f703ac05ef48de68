/-
  Numbers as texts and back, walked: any that fit will do.
-/
import Derived.Test.YtkdilmleinnfiaaGreatDoorPart20
import Derived.Test.YtkdilmleinnfiaaGreatDoorPart10
import Derived.Test.YtkdilmleinnfiaaGreatDoorPart19
import Derived.Test.YtkdilmleinnfiaaGreatDoorPart18
import Derived.Test.YtkdilmleinnfiaaGreatDoorPart17
set_option linter.constructorNameAsVariable false
set_option linter.unusedSectionVars false
set_option linter.unusedSimpArgs false
set_option linter.unusedVariables false
namespace Go.Am
open Go Go.Proofs
set_option maxHeartbeats 1000000
set_option maxRecDepth 4000
attribute [local irreducible] AY B2 Lex Br Ak Spec
variable {TB:Bw}
abbrev TA(r:Int×Bool):E:=.t [(false,[.d (iD r.1)]),(false,[.d (bD r.2)])]
theorem T7{z:Int}(h:0≤z∧z < 256):[[D.v (.int .u8 z)]]=[UInt8.ofNat z.toNat].map ZH:=by
 have h2:z.toNat % 256=z.toNat:=Nat.mod_eq_of_lt (by omega)
 have h3:((z.toNat:Nat):Int)=z:=by omega
 simp [ZH,h2,h3]
theorem MA(n:Int)(hn:0≤n∧n < 100):Spec Tryz.prog TB 291 [] 0 [eI .i64 n] (DO (fun r:W=>r.length≤3) eT):=by
 refine eR Tryz.func291 rfl (by kernel_rfl) rfl ?_;intro Γ hΓ
 (repeat first|refine tA rfl ?_ |refine s2 rfl fun _ _hb=>?_ |refine aU rfl ?_ |refine Aa ?_)
 ((refine aC rfl ?_ ?_<;>rintro⟨⟩);all_goals try (simp at _hb;done))
 ·exfalso;(simp only[oZ] at *;omega)
 refine aK ?_
 (repeat first|refine tA rfl ?_ |refine s2 rfl fun _ _hb=>?_ |refine aU rfl ?_ |refine Aa ?_)
 ((refine aC rfl ?_ ?_<;>rintro⟨⟩);all_goals try (simp at _hb;done))
 ·exfalso;(simp only[oZ] at *;omega)
 refine aK ?_
 (repeat first|refine tA rfl ?_ |refine aU rfl ?_ |refine Aa ?_)
 refine aB ?_
 refine aL (α:={s:Int×W // (0≤s.1∧s.1 < 100)∧s.2.length≤2∧(9 < s.1→s.2.length≤1)}) [] [] rfl rfl (fun s=>[(0,eI .i64 s.1.1),(3,eT s.1.2)]) (fun s=>[]) 0 (fun s=>s.1.1.toNat) (⟨⟨n,[]⟩,by simp;omega⟩) hΓ rfl (by (simp[cX,zC,hΓ])) ?_;rintro⟨⟨q,w⟩,hq,hw,hw2⟩;(try dsimp only[cA,cB])
 have hq:0≤q∧q < 100:=hq
 have hw:w.length≤2:=hw
 have hw2:9 < q→w.length≤1:=hw2
 (repeat first|refine tA rfl ?_ |refine s2 rfl fun _ _hb=>?_ |refine aU rfl ?_ |refine Aa ?_)
 ((refine aC rfl ?_ ?_<;>rintro⟨⟩);all_goals try (simp at _hb;done))
 ·have hlt:9 < q:=by (simp only[oZ] at *;omega)
  have hw3:=hw2 hlt
  refine aK ?_
  refine aB ?_
  (repeat first|(refine sA rfl ?_ ?_;first|exact tI|omega|simp only[oZ] at *;omega)|(refine Ag rfl ?_;refine gA rfl ?_;first| refine gS (fun _ _=>NH _ rfl (T7 (by omega))) ?_) |refine aU rfl ?_ |refine Aa ?_)
  refine⟨⟨⟨q / 10,[UInt8.ofNat (48+q % 10).toNat]++w⟩,⟨by dsimp only;omega,by dsimp only;omega⟩,by simp;omega,fun h9=>by exfalso;dsimp only at h9;omega⟩,by dsimp only;(omega),[],?_⟩
  (simp[cX,zC,hΓ,cN]<;>rfl)
 ·refine aE ?_
  (repeat first|(refine sA rfl ?_ ?_;first|exact tI|omega|simp only[oZ] at *;omega)|(refine Ag rfl ?_;refine gA rfl ?_;first| refine gS (fun _ _=>NH _ rfl (T7 (by omega))) ?_) |refine aU rfl ?_ |refine Aa ?_)
  refine aR ⟨_,rfl,[],eT ([UInt8.ofNat (48+q).toNat]++w),[],⟨by intro i hi;omega,by decide⟩,rfl,trivial,[UInt8.ofNat (48+q).toNat]++w,by simp;omega,rfl,rfl,rfl⟩
theorem IQ(k:Nat)(hk:k < 17):(10 ^ (k+1):Nat)=10 ^ k*10∧(10 ^ k:Nat)≤100000000000000000:=⟨Nat.pow_succ ..,Nat.le_trans (Nat.pow_le_pow_right (by omega) (Nat.le_of_lt hk)) (by decide)⟩
theorem SG(s0:W)(hs:s0.length≤1000000):Spec Tryz.prog TB 264 [] 0 [eT s0] (DO (fun _:Int×Bool=>True) TA):=by
  by_cases z0:s0.length=0
  · refine eR Tryz.func264 rfl (by kernel_rfl) rfl ?_;intro Γ hΓ
    (repeat' first|refine tA rfl ?_ |refine s2 rfl fun _ _hb=>?_|(refine Ag rfl ?_;refine gA rfl ?_;first| refine gS (fun _ _=>Dd rfl rfl (by omega) (by omega)) ?_) |refine s3 rfl ?_ ?_<;>rintro rfl |refine aU rfl ?_ |refine Aa ?_|(refine aC rfl ?_ ?_<;>rintro⟨⟩)|refine aK ?_)
    all_goals first
      | (exfalso;(simp only[oZ] at *;omega);done)
      | refine aR ⟨_,rfl,[],TA (0,false),[],⟨by intro i hi;omega,by decide⟩,rfl,trivial,(0,false),trivial,rfl,rfl,rfl⟩
  obtain⟨c,h0⟩:=get_some (l:=s0) (k:=(0:Int).toNat) (by simp;omega)
  have h1:1 < s0.length→∃d,(s0.drop (Int.toNat 1))[(0:Int).toNat]? = some d:=fun h=>get_some (by simp;omega)
  have hlen:∀m:Nat,(s0.drop m).length=s0.length - m:=fun m=>List.length_drop
  by_cases z1:s0.length=1
  · refine eR Tryz.func264 rfl (by kernel_rfl) rfl ?_;intro Γ hΓ
    (repeat' first|refine tA rfl ?_ |(refine s4 rfl ‹_› rfl ?_ ?_;omega) |refine s2 rfl fun _ _hb=>?_|(refine Ag rfl ?_;refine gA rfl ?_;first| refine gS (fun _ _=>Dd rfl rfl (by omega) (by omega)) ?_) |refine s3 rfl ?_ ?_<;>rintro rfl |refine aU rfl ?_ |refine Aa ?_|(refine aC rfl ?_ ?_<;>rintro⟨⟩)|refine aK ?_)
    all_goals first
      | (exfalso;(simp only[oZ] at *;omega);done)
      | refine aR ⟨_,rfl,[],TA (0,false),[],⟨by intro i hi;omega,by decide⟩,rfl,trivial,(0,false),trivial,rfl,rfl,rfl⟩
      | (exfalso;simp only [oZ,hlen] at *;omega)
      | skip
    · have h17:(s0).length≤17:=by omega
      refine aB ?_
      refine aL (α:={s:Nat×Int // s.1≤(s0).length∧0≤s.2∧s.2 < ((10 ^ s.1:Nat):Int)}) [0,4] [] rfl rfl (fun s=>[(5,eI .i64 s.1.2),(6,eI .i64 s.1.1)]) (fun s=>[]) 0 (fun s=>(s0).length - s.1.1) (⟨⟨0,0⟩,by simp⟩) hΓ rfl (by (simp[cX,zC,hΓ])) ?_;rintro⟨⟨k,n⟩,hk,hn0,hn⟩;(try dsimp only[cA,cB])
      have hk:k≤(s0).length:=hk
      have hn0:0≤n:=hn0
      have hn:n < ((10 ^ k:Nat):Int):=hn
      (repeat first|refine tA rfl ?_ |refine s2 rfl fun _ _hb=>?_ |refine aU rfl ?_ |refine Aa ?_)
      ((refine aC rfl ?_ ?_<;>rintro⟨⟩);all_goals try (simp at _hb;done))
      · have hlt:k < (s0).length:=by (simp only[oZ] at *;omega)
        obtain⟨e,he⟩:=get_some (l:=s0) (k:=(k:Int).toNat) (by omega)
        have hel:=e.toNat_lt
        obtain⟨t1,t2⟩:=IQ k (by omega)
        refine aK ?_
        refine aS (aB ?_)
        (repeat' first|(refine sA rfl ?_ ?_;first|exact tI|omega|simp only[oZ] at *;omega) |(refine s4 rfl ‹_› rfl ?_ ?_;omega) |refine s2 rfl fun _ _hb=>?_|(refine Ag rfl ?_;refine gA rfl ?_;first| refine gS (fun _ _=>Dd rfl rfl (by omega) (by omega)) ?_) |refine s3 rfl ?_ ?_<;>rintro rfl |refine aU rfl ?_ |refine Aa ?_|(refine aC rfl ?_ ?_<;>rintro⟨⟩)|refine aK ?_)
        all_goals first
          | (exfalso;omega;done)
          | refine aR ⟨_,rfl,[],TA (0,false),[],⟨by intro i hi;omega,by decide⟩,rfl,trivial,(0,false),trivial,rfl,rfl,rfl⟩
          | (refine⟨⟨⟨k+1,n*10+((e.toNat:Int) - 48)⟩,by dsimp only;omega,by dsimp only;(simp only[oZ] at *;omega),by dsimp only;rw [t1];(simp only[oZ] at *;omega)⟩,by dsimp only;(omega),[],?_⟩
             (simp[cX,zC,hΓ,cN]<;>rfl))
      · refine aE ?_
        have hP:(10 ^ k:Nat)≤100000000000000000:=Nat.le_trans (Nat.pow_le_pow_right (by omega) (Nat.le_trans hk h17)) (by decide)
        (repeat' first|refine tA rfl ?_|(refine Ag rfl ?_;refine gA rfl ?_;first| refine gS (fun _ _=>RK rfl (IntWalk.i64_in _ (by omega))) ?_) |refine aU rfl ?_ |refine Aa ?_|(refine aC rfl ?_ ?_<;>rintro⟨⟩)|refine aK ?_)
        exact aR ⟨_,rfl,[],TA (n,true),[],⟨fun i hi=>absurd hi (Nat.not_lt_zero i),List.nodup_nil⟩,rfl,trivial,(n,true),trivial,rfl,rfl,rfl⟩
    · have h17:(s0).length≤17:=by omega
      refine aB ?_
      refine aL (α:={s:Nat×Int // s.1≤(s0).length∧0≤s.2∧s.2 < ((10 ^ s.1:Nat):Int)}) [0,4] [] rfl rfl (fun s=>[(5,eI .i64 s.1.2),(6,eI .i64 s.1.1)]) (fun s=>[]) 0 (fun s=>(s0).length - s.1.1) (⟨⟨0,0⟩,by simp⟩) hΓ rfl (by (simp[cX,zC,hΓ])) ?_;rintro⟨⟨k,n⟩,hk,hn0,hn⟩;(try dsimp only[cA,cB])
      have hk:k≤(s0).length:=hk
      have hn0:0≤n:=hn0
      have hn:n < ((10 ^ k:Nat):Int):=hn
      (repeat first|refine tA rfl ?_ |refine s2 rfl fun _ _hb=>?_ |refine aU rfl ?_ |refine Aa ?_)
      ((refine aC rfl ?_ ?_<;>rintro⟨⟩);all_goals try (simp at _hb;done))
      · have hlt:k < (s0).length:=by (simp only[oZ] at *;omega)
        obtain⟨e,he⟩:=get_some (l:=s0) (k:=(k:Int).toNat) (by omega)
        have hel:=e.toNat_lt
        obtain⟨t1,t2⟩:=IQ k (by omega)
        refine aK ?_
        refine aS (aB ?_)
        (repeat' first|(refine sA rfl ?_ ?_;first|exact tI|omega|simp only[oZ] at *;omega) |(refine s4 rfl ‹_› rfl ?_ ?_;omega) |refine s2 rfl fun _ _hb=>?_|(refine Ag rfl ?_;refine gA rfl ?_;first| refine gS (fun _ _=>Dd rfl rfl (by omega) (by omega)) ?_) |refine s3 rfl ?_ ?_<;>rintro rfl |refine aU rfl ?_ |refine Aa ?_|(refine aC rfl ?_ ?_<;>rintro⟨⟩)|refine aK ?_)
        all_goals first
          | (exfalso;omega;done)
          | refine aR ⟨_,rfl,[],TA (0,false),[],⟨by intro i hi;omega,by decide⟩,rfl,trivial,(0,false),trivial,rfl,rfl,rfl⟩
          | (refine⟨⟨⟨k+1,n*10+((e.toNat:Int) - 48)⟩,by dsimp only;omega,by dsimp only;(simp only[oZ] at *;omega),by dsimp only;rw [t1];(simp only[oZ] at *;omega)⟩,by dsimp only;(omega),[],?_⟩
             (simp[cX,zC,hΓ,cN]<;>rfl))
      · refine aE ?_
        have hP:(10 ^ k:Nat)≤100000000000000000:=Nat.le_trans (Nat.pow_le_pow_right (by omega) (Nat.le_trans hk h17)) (by decide)
        (repeat' first|refine tA rfl ?_|(refine Ag rfl ?_;refine gA rfl ?_;first| refine gS (fun _ _=>RK rfl (IntWalk.i64_in _ (by omega))) ?_) |refine aU rfl ?_ |refine Aa ?_|(refine aC rfl ?_ ?_<;>rintro⟨⟩)|refine aK ?_)
        exact aR ⟨_,rfl,[],TA (n,true),[],⟨fun i hi=>absurd hi (Nat.not_lt_zero i),List.nodup_nil⟩,rfl,trivial,(n,true),trivial,rfl,rfl,rfl⟩
  obtain⟨d,h1⟩:=h1 (by omega)
  refine eR Tryz.func264 rfl (by kernel_rfl) rfl ?_;intro Γ hΓ
  (repeat' first|refine tA rfl ?_ |(refine s4 rfl ‹_› rfl ?_ ?_;omega) |refine s2 rfl fun _ _hb=>?_|(refine Ag rfl ?_;refine gA rfl ?_;first| refine gS (fun _ _=>Dd rfl rfl (by omega) (by omega)) ?_) |refine s3 rfl ?_ ?_<;>rintro rfl |refine aU rfl ?_ |refine Aa ?_|(refine aC rfl ?_ ?_<;>rintro⟨⟩)|refine aK ?_)
  all_goals first
    | (exfalso;(simp only[oZ] at *;omega);done)
    | refine aR ⟨_,rfl,[],TA (0,false),[],⟨by intro i hi;omega,by decide⟩,rfl,trivial,(0,false),trivial,rfl,rfl,rfl⟩
    | (exfalso;simp only [oZ,hlen] at *;omega)
    | skip
  · have h17:(List.drop (Int.toNat 1) s0).length≤17:=by (simp only[oZ] at *;omega)
    refine aB ?_
    refine aL (α:={s:Nat×Int // s.1≤(List.drop (Int.toNat 1) s0).length∧0≤s.2∧s.2 < ((10 ^ s.1:Nat):Int)}) [0,4] [] rfl rfl (fun s=>[(5,eI .i64 s.1.2),(6,eI .i64 s.1.1)]) (fun s=>[]) 0 (fun s=>(List.drop (Int.toNat 1) s0).length - s.1.1) (⟨⟨0,0⟩,by simp⟩) hΓ rfl (by (simp[cX,zC,hΓ])) ?_;rintro⟨⟨k,n⟩,hk,hn0,hn⟩;(try dsimp only[cA,cB])
    have hk:k≤(List.drop (Int.toNat 1) s0).length:=hk
    have hn0:0≤n:=hn0
    have hn:n < ((10 ^ k:Nat):Int):=hn
    (repeat first|refine tA rfl ?_ |refine s2 rfl fun _ _hb=>?_ |refine aU rfl ?_ |refine Aa ?_)
    ((refine aC rfl ?_ ?_<;>rintro⟨⟩);all_goals try (simp at _hb;done))
    · have hlt:k < (List.drop (Int.toNat 1) s0).length:=by (simp only[oZ] at *;omega)
      obtain⟨e,he⟩:=get_some (l:=List.drop (Int.toNat 1) s0) (k:=(k:Int).toNat) (by omega)
      have hel:=e.toNat_lt
      obtain⟨t1,t2⟩:=IQ k (by omega)
      refine aK ?_
      refine aS (aB ?_)
      (repeat' first|(refine sA rfl ?_ ?_;first|exact tI|omega|simp only[oZ] at *;omega) |(refine s4 rfl ‹_› rfl ?_ ?_;omega) |refine s2 rfl fun _ _hb=>?_|(refine Ag rfl ?_;refine gA rfl ?_;first| refine gS (fun _ _=>Dd rfl rfl (by omega) (by omega)) ?_) |refine s3 rfl ?_ ?_<;>rintro rfl |refine aU rfl ?_ |refine Aa ?_|(refine aC rfl ?_ ?_<;>rintro⟨⟩)|refine aK ?_)
      all_goals first
        | (exfalso;omega;done)
        | refine aR ⟨_,rfl,[],TA (0,false),[],⟨by intro i hi;omega,by decide⟩,rfl,trivial,(0,false),trivial,rfl,rfl,rfl⟩
        | (refine⟨⟨⟨k+1,n*10+((e.toNat:Int) - 48)⟩,by dsimp only;omega,by dsimp only;(simp only[oZ] at *;omega),by dsimp only;rw [t1];(simp only[oZ] at *;omega)⟩,by dsimp only;(omega),[],?_⟩
           (simp[cX,zC,hΓ,cN]<;>rfl))
    · refine aE ?_
      have hP:(10 ^ k:Nat)≤100000000000000000:=Nat.le_trans (Nat.pow_le_pow_right (by omega) (Nat.le_trans hk h17)) (by decide)
      (repeat' first|refine tA rfl ?_|(refine Ag rfl ?_;refine gA rfl ?_;first| refine gS (fun _ _=>RK rfl (IntWalk.i64_in _ (by omega))) ?_) |refine aU rfl ?_ |refine Aa ?_|(refine aC rfl ?_ ?_<;>rintro⟨⟩)|refine aK ?_)
      exact aR ⟨_,rfl,[],TA (-n,true),[],⟨fun i hi=>absurd hi (Nat.not_lt_zero i),List.nodup_nil⟩,rfl,trivial,(-n,true),trivial,rfl,rfl,rfl⟩
  · have h17:(s0).length≤17:=by (simp only[oZ] at *;omega)
    refine aB ?_
    refine aL (α:={s:Nat×Int // s.1≤(s0).length∧0≤s.2∧s.2 < ((10 ^ s.1:Nat):Int)}) [0,4] [] rfl rfl (fun s=>[(5,eI .i64 s.1.2),(6,eI .i64 s.1.1)]) (fun s=>[]) 0 (fun s=>(s0).length - s.1.1) (⟨⟨0,0⟩,by simp⟩) hΓ rfl (by (simp[cX,zC,hΓ])) ?_;rintro⟨⟨k,n⟩,hk,hn0,hn⟩;(try dsimp only[cA,cB])
    have hk:k≤(s0).length:=hk
    have hn0:0≤n:=hn0
    have hn:n < ((10 ^ k:Nat):Int):=hn
    (repeat first|refine tA rfl ?_ |refine s2 rfl fun _ _hb=>?_ |refine aU rfl ?_ |refine Aa ?_)
    ((refine aC rfl ?_ ?_<;>rintro⟨⟩);all_goals try (simp at _hb;done))
    · have hlt:k < (s0).length:=by (simp only[oZ] at *;omega)
      obtain⟨e,he⟩:=get_some (l:=s0) (k:=(k:Int).toNat) (by omega)
      have hel:=e.toNat_lt
      obtain⟨t1,t2⟩:=IQ k (by omega)
      refine aK ?_
      refine aS (aB ?_)
      (repeat' first|(refine sA rfl ?_ ?_;first|exact tI|omega|simp only[oZ] at *;omega) |(refine s4 rfl ‹_› rfl ?_ ?_;omega) |refine s2 rfl fun _ _hb=>?_|(refine Ag rfl ?_;refine gA rfl ?_;first| refine gS (fun _ _=>Dd rfl rfl (by omega) (by omega)) ?_) |refine s3 rfl ?_ ?_<;>rintro rfl |refine aU rfl ?_ |refine Aa ?_|(refine aC rfl ?_ ?_<;>rintro⟨⟩)|refine aK ?_)
      all_goals first
        | (exfalso;omega;done)
        | refine aR ⟨_,rfl,[],TA (0,false),[],⟨by intro i hi;omega,by decide⟩,rfl,trivial,(0,false),trivial,rfl,rfl,rfl⟩
        | (refine⟨⟨⟨k+1,n*10+((e.toNat:Int) - 48)⟩,by dsimp only;omega,by dsimp only;(simp only[oZ] at *;omega),by dsimp only;rw [t1];(simp only[oZ] at *;omega)⟩,by dsimp only;(omega),[],?_⟩
           (simp[cX,zC,hΓ,cN]<;>rfl))
    · refine aE ?_
      have hP:(10 ^ k:Nat)≤100000000000000000:=Nat.le_trans (Nat.pow_le_pow_right (by omega) (Nat.le_trans hk h17)) (by decide)
      (repeat' first|refine tA rfl ?_|(refine Ag rfl ?_;refine gA rfl ?_;first| refine gS (fun _ _=>RK rfl (IntWalk.i64_in _ (by omega))) ?_) |refine aU rfl ?_ |refine Aa ?_|(refine aC rfl ?_ ?_<;>rintro⟨⟩)|refine aK ?_)
      exact aR ⟨_,rfl,[],TA (n,true),[],⟨fun i hi=>absurd hi (Nat.not_lt_zero i),List.nodup_nil⟩,rfl,trivial,(n,true),trivial,rfl,rfl,rfl⟩
abbrev bz(r:List Int×Bool):E:=.t [(false,[.d (CO r.1)]),(false,[.d (bD r.2)])]
theorem P0(w0:W)(hs:w0.length≤1000000):Spec Tryz.prog TB 249 [] 0 [eT w0] (DO (fun r:List Int×Bool=>r.1.length≤w0.length+1) bz):=by
 refine eR Tryz.func249 rfl (by kernel_rfl) rfl ?_;intro Γ hΓ
 (repeat first|refine tX rfl ?_ |refine aU rfl ?_ |refine Aa ?_)
 (refine pW rfl ?_ rfl (by rfl);refine A1 rfl rfl rfl rfl (by simp) (by rfl) (by rfl) (by rfl) (by rfl) ?_)
 (repeat first|refine tX rfl ?_ |refine s2 rfl fun _ _hb=>?_ |refine aU rfl ?_ |refine Aa ?_)
 (refine aC rfl ?_ ?_<;>rintro⟨⟩)
 ·(repeat first|refine tX rfl ?_ |refine aU rfl ?_ |refine Aa ?_)
  refine Ak.settle [(2,Aj []),(3,eB true)] ⟨⟨_,rfl,.o (.full rfl (by simp) (by simp))⟩,⟨_,rfl,.o .d⟩,trivial⟩ ?_
  exact aR ⟨_,rfl,[],bz ([],true),[],⟨fun i hi=>absurd hi (Nat.not_lt_zero i),List.nodup_nil⟩,rfl,trivial,([],true),Nat.zero_le _,rfl,rfl,rfl⟩
 refine aK ?_
 (repeat first|refine tA rfl ?_ |refine aU rfl ?_)
 (refine pW rfl ?_ rfl (by rfl);refine AD [] rfl rfl (Mz (TB:=TB) w0 hs 44) ⟨rfl,by decide,by decide⟩ rfl trivial ?_;rintro x0 σ1 nx1 ⟨ps,⟨hp1,hp2,hp3⟩,rfl,rfl,rfl⟩ _)
 (repeat first|refine tA rfl ?_ |refine aU rfl ?_ |refine Aa ?_)
 refine aB ?_
 refine aL (α:={z:Nat×List Int // z.1≤ps.length∧z.2.length=z.1}) [5] [] rfl rfl (fun s=>[(4,.o (.arr 0 1 0 s.1.2.length)),(6,eI .i64 s.1.1)]) (fun s=>[(0,.cells 3 1 (s.1.2.map AB))]) 1 (fun s=>ps.length - s.1.1) (⟨⟨0,[]⟩,by simp⟩) hΓ rfl (by (simp[cX,zC,hΓ])) ?_;rintro⟨⟨k,r⟩,hk,hr⟩;(try dsimp only[cA,cB])
 have hk:k≤ps.length:=hk
 have hr:r.length=k:=hr
 (repeat first|refine sN rfl ?_ |refine tA rfl ?_ |refine s2 rfl fun _ _hb=>?_ |refine aU rfl ?_ |refine Aa ?_)
 ((refine aC rfl ?_ ?_<;>rintro⟨⟩);all_goals try (simp at _hb;done))
 ·have hlt:k < ps.length:=by (simp only[oZ] at *;omega)
  obtain⟨w,hw⟩:=get_some (l:=ps) (k:=k) hlt
  have hw':=get_map (g:=BC) hw
  have hwl:=hp3 w (List.mem_of_getElem? hw)
  refine aK ?_
  refine aS (aB ?_)
  (repeat first|refine tA rfl ?_ |(refine s4 rfl ‹_› rfl ?_ ?_;omega) |refine aU rfl ?_)
  (refine pW rfl ?_ rfl (by rfl);refine AD [] rfl rfl (SG (TB:=TB) w (by omega)) ⟨rfl,by decide,by decide⟩ rfl trivial ?_;rintro x0 σ1 nx1 ⟨⟨n,ok⟩,_,rfl,rfl,rfl⟩ _)
  (repeat first|refine tA rfl ?_ |refine s2 rfl fun _ _hb=>?_ |refine aU rfl ?_ |refine Aa ?_)
  (refine aC rfl ?_ ?_<;>rintro⟨⟩)
  ·(repeat first|refine tA rfl ?_ |refine aU rfl ?_ |refine Aa ?_)
   exact aR ⟨_,rfl,[],bz ([],false),[],⟨fun i hi=>absurd hi (Nat.not_lt_zero i),List.nodup_nil⟩,rfl,trivial,([],false),Nat.zero_le _,rfl,rfl,rfl⟩
  refine aK ?_
  (repeat first|refine tA rfl ?_ |refine aU rfl ?_)
  (refine pW rfl ?_ rfl (by rfl);refine Aw rfl rfl rfl (by first| (simp;done)|(simp;(omega))) rfl (by intro r hr;simp at hr;subst hr;rfl) (by rfl) (Nat.le_of_ble_eq_true rfl) (by simp;omega) ?_)
  (repeat first|(refine sA rfl ?_ ?_;first|exact tI|omega) |refine aU rfl ?_ |refine Aa ?_)
  refine⟨⟨⟨k+1,r++[n]⟩,by dsimp only;omega,by simp;omega⟩,by dsimp only;(omega),[1],?_⟩
  (simp[cX,zC,hΓ,cN]<;>rfl)
 ·refine aE ?_
  (repeat first|refine tA rfl ?_ |refine aU rfl ?_ |refine Aa ?_)
  refine Ak.settle [(2,Aj r),(3,eB true)] ⟨⟨_,rfl,.o (.full rfl (by simp [Function.comp_def]) (by simp))⟩,⟨_,rfl,.o .d⟩,trivial⟩ ?_
  exact aR ⟨_,rfl,[],bz (r,true),[],⟨fun i hi=>absurd hi (Nat.not_lt_zero i),List.nodup_nil⟩,rfl,trivial,(r,true),by show r.length≤_;omega,rfl,rfl,rfl⟩
theorem Ee(a:AP):Spec Tryz.prog TB 250 [] 0 [A2 a] (DO (fun r:W=>r.length≤1000) eT):=by
 refine eR Tryz.func250 rfl (by kernel_rfl) rfl ?_;intro Γ hΓ
 (repeat first|refine tA rfl ?_ |refine s2 rfl fun _ _hb=>?_ |(refine sC rfl (Bk a) ?_;intro _ _hb) |refine aU rfl ?_ |refine Aa ?_)
 (refine aC rfl ?_ ?_<;>rintro⟨⟩)
 ·(repeat first|refine tA rfl ?_ |refine aU rfl ?_ |refine Aa ?_)
  exact aR ⟨_,rfl,[],eT [],[],⟨fun i hi=>absurd hi (Nat.not_lt_zero i),List.nodup_nil⟩,rfl,trivial,[],Nat.zero_le _,rfl,rfl,rfl⟩
 have hok:AF a=true:=by (simp at _hb;subst _hb;assumption)
 obtain⟨_,hn1,hn2,hac⟩:=Al hok
 have hla:(Ac a.al).length≤6:=AL a.al 6
 refine aK ?_
 (repeat first|refine tA rfl ?_ |refine aU rfl ?_)
 (refine pW rfl ?_ rfl (by rfl);refine AD [] rfl rfl (Ex (TB:=TB) a.al) ⟨rfl,by decide,by decide⟩ rfl trivial ?_;rintro x0 σ1 nx1 ⟨w0,hw0,rfl,rfl,rfl⟩ _)
 (repeat first|refine tA rfl ?_ |refine aU rfl ?_ |refine Aa ?_)
 refine aB ?_
 refine aL (α:={z:Nat×W // z.1≤a.nx.length∧z.2.length≤6+30*z.1}) [1] [] rfl rfl (fun s=>[(3,eT s.1.2),(4,eI .i64 s.1.1)]) (fun s=>[]) 0 (fun s=>a.nx.length - s.1.1) (⟨⟨0,w0⟩,by simp;omega⟩) hΓ rfl (by (simp[cX,zC,hΓ])) ?_;rintro⟨⟨k,w⟩,hk,hw⟩;(try dsimp only[cA,cB])
 have hk:k≤a.nx.length:=hk
 have hw:w.length≤6+30*k:=hw
 (repeat first|refine sN rfl ?_ |refine tA rfl ?_ |refine s2 rfl fun _ _hb=>?_ |refine aU rfl ?_ |refine Aa ?_)
 ((refine aC rfl ?_ ?_<;>rintro⟨⟩);all_goals try (simp at _hb;done))
 ·have hlt:k < a.nx.length:=by (simp only[oZ] at *;omega)
  obtain⟨row,hrow,hrl,hrv⟩:=GW hok hlt
  have hrow':=get_map (g:=fun r:List Int=>[CO r]) hrow
  obtain⟨b,hb⟩:=get_some (l:=a.ac) (k:=k) (by omega)
  have hb':=get_map (g:=Gq) hb
  refine aK ?_
  refine aS (aB ?_)
  (repeat first|refine tA rfl ?_ |(refine s4 rfl ‹_› rfl ?_ ?_;omega) |refine aU rfl ?_ |refine Aa ?_)
  (refine aC rfl ?_ ?_<;>rintro⟨⟩)
  ·(repeat first|(refine sA rfl ?_ ?_;first|exact tI|simp only[oZ] at *;omega) |refine aU rfl ?_ |refine Aa ?_)
   refine aB ?_
   refine aL (α:={z:Nat×W // z.1≤row.length∧z.2.length≤8+30*k+4*z.1}) [1,4] [] rfl rfl (fun s=>[(3,eT s.1.2),(6,eI .i64 s.1.1)]) (fun s=>[]) 0 (fun s=>row.length - s.1.1) (⟨⟨0,w++[32,43]⟩,by dsimp only;omega,by simp;omega⟩) hΓ rfl (by (simp[cX,zC,hΓ])) ?_;rintro⟨⟨j,v⟩,hj,hv⟩;(try dsimp only[cA,cB])
   have hj:j≤row.length:=hj
   have hv:v.length≤8+30*k+4*j:=hv
   (repeat first|refine sN rfl ?_ |refine tA rfl ?_ |(refine s4 rfl ‹_› rfl ?_ ?_;omega) |refine s2 rfl fun _ _hb=>?_ |refine aU rfl ?_ |refine Aa ?_)
   ((refine aC rfl ?_ ?_<;>rintro⟨⟩);all_goals try (simp at _hb;done))
   ·have hjl:j < row.length:=by (simp only[oZ] at *;omega)
    obtain⟨x,hx⟩:=get_some (l:=row) (k:=j) hjl
    have hx':=get_map (g:=Bq) hx
    have hxv:=hrv j x hx
    have hdec:=MA (TB:=TB) x (by omega)
    refine aK ?_
    refine aS (aB ?_)
    (repeat first|refine tA rfl ?_ |refine s2 rfl fun _ _hb=>?_ |refine aU rfl ?_ |refine Aa ?_)
    (refine aC rfl ?_ ?_<;>rintro⟨⟩)
    ·(repeat first|(refine sA rfl ?_ ?_;first|exact tI|simp only[oZ] at *;omega) |(refine s4 rfl ‹_› rfl ?_ ?_;omega) |refine aU rfl ?_ |refine Aa ?_)
     (refine pW rfl ?_ rfl (by rfl);refine AD [] rfl rfl (hdec) ⟨rfl,by decide,by decide⟩ rfl trivial ?_;rintro x0 σ1 nx1 ⟨d,hd,rfl,rfl,rfl⟩ _)
     (repeat first|(refine sA rfl ?_ ?_;first|exact tI|omega|simp only[oZ] at *;omega) |refine aU rfl ?_ |refine Aa ?_)
     refine⟨⟨⟨j+1,v++[44]++d⟩,by dsimp only;omega,by simp;omega⟩,by dsimp only;(omega),[],?_⟩
     (simp[cX,zC,hΓ,cN]<;>rfl)
    ·refine aK ?_
     (repeat first|refine tA rfl ?_ |(refine s4 rfl ‹_› rfl ?_ ?_;omega) |refine aU rfl ?_)
     (refine pW rfl ?_ rfl (by rfl);refine AD [] rfl rfl (hdec) ⟨rfl,by decide,by decide⟩ rfl trivial ?_;rintro x0 σ1 nx1 ⟨d,hd,rfl,rfl,rfl⟩ _)
     (repeat first|(refine sA rfl ?_ ?_;first|exact tI|omega) |refine aU rfl ?_ |refine Aa ?_)
     refine⟨⟨⟨j+1,v++d⟩,by dsimp only;omega,by simp;omega⟩,by dsimp only;(omega),[],?_⟩
     (simp[cX,zC,hΓ,cN]<;>rfl)
   ·refine aE ?_
    (repeat first|(refine sA rfl ?_ ?_;first|exact tI|omega) |refine aU rfl ?_ |refine Aa ?_)
    refine⟨⟨⟨k+1,v⟩,by dsimp only;omega,by dsimp only;omega⟩,by dsimp only;(omega),[],?_⟩
    (simp[cX,zC,hΓ,cN]<;>rfl)
  ·refine aK ?_
   (repeat first|(refine sA rfl ?_ ?_;first|exact tI|simp only[oZ] at *;omega) |refine aU rfl ?_ |refine Aa ?_)
   refine aB ?_
   refine aL (α:={z:Nat×W // z.1≤row.length∧z.2.length≤8+30*k+4*z.1}) [1,4] [] rfl rfl (fun s=>[(3,eT s.1.2),(6,eI .i64 s.1.1)]) (fun s=>[]) 0 (fun s=>row.length - s.1.1) (⟨⟨0,w++[32,45]⟩,by dsimp only;omega,by simp;omega⟩) hΓ rfl (by (simp[cX,zC,hΓ])) ?_;rintro⟨⟨j,v⟩,hj,hv⟩;(try dsimp only[cA,cB])
   have hj:j≤row.length:=hj
   have hv:v.length≤8+30*k+4*j:=hv
   (repeat first|refine sN rfl ?_ |refine tA rfl ?_ |(refine s4 rfl ‹_› rfl ?_ ?_;omega) |refine s2 rfl fun _ _hb=>?_ |refine aU rfl ?_ |refine Aa ?_)
   ((refine aC rfl ?_ ?_<;>rintro⟨⟩);all_goals try (simp at _hb;done))
   ·have hjl:j < row.length:=by (simp only[oZ] at *;omega)
    obtain⟨x,hx⟩:=get_some (l:=row) (k:=j) hjl
    have hx':=get_map (g:=Bq) hx
    have hxv:=hrv j x hx
    have hdec:=MA (TB:=TB) x (by omega)
    refine aK ?_
    refine aS (aB ?_)
    (repeat first|refine tA rfl ?_ |refine s2 rfl fun _ _hb=>?_ |refine aU rfl ?_ |refine Aa ?_)
    (refine aC rfl ?_ ?_<;>rintro⟨⟩)
    ·(repeat first|(refine sA rfl ?_ ?_;first|exact tI|simp only[oZ] at *;omega) |(refine s4 rfl ‹_› rfl ?_ ?_;omega) |refine aU rfl ?_ |refine Aa ?_)
     (refine pW rfl ?_ rfl (by rfl);refine AD [] rfl rfl (hdec) ⟨rfl,by decide,by decide⟩ rfl trivial ?_;rintro x0 σ1 nx1 ⟨d,hd,rfl,rfl,rfl⟩ _)
     (repeat first|(refine sA rfl ?_ ?_;first|exact tI|omega|simp only[oZ] at *;omega) |refine aU rfl ?_ |refine Aa ?_)
     refine⟨⟨⟨j+1,v++[44]++d⟩,by dsimp only;omega,by simp;omega⟩,by dsimp only;(omega),[],?_⟩
     (simp[cX,zC,hΓ,cN]<;>rfl)
    ·refine aK ?_
     (repeat first|refine tA rfl ?_ |(refine s4 rfl ‹_› rfl ?_ ?_;omega) |refine aU rfl ?_)
     (refine pW rfl ?_ rfl (by rfl);refine AD [] rfl rfl (hdec) ⟨rfl,by decide,by decide⟩ rfl trivial ?_;rintro x0 σ1 nx1 ⟨d,hd,rfl,rfl,rfl⟩ _)
     (repeat first|(refine sA rfl ?_ ?_;first|exact tI|omega) |refine aU rfl ?_ |refine Aa ?_)
     refine⟨⟨⟨j+1,v++d⟩,by dsimp only;omega,by simp;omega⟩,by dsimp only;(omega),[],?_⟩
     (simp[cX,zC,hΓ,cN]<;>rfl)
   ·refine aE ?_
    (repeat first|(refine sA rfl ?_ ?_;first|exact tI|omega) |refine aU rfl ?_ |refine Aa ?_)
    refine⟨⟨⟨k+1,v⟩,by dsimp only;omega,by dsimp only;omega⟩,by dsimp only;(omega),[],?_⟩
    (simp[cX,zC,hΓ,cN]<;>rfl)
 ·refine aE ?_
  (repeat first|refine tA rfl ?_ |refine aU rfl ?_ |refine Aa ?_)
  exact aR ⟨_,rfl,[],eT w,[],⟨fun i hi=>absurd hi (Nat.not_lt_zero i),List.nodup_nil⟩,rfl,trivial,w,by show w.length≤_;omega,rfl,rfl,rfl⟩
abbrev XB(r:AP×Bool):E:=.t [(true,[.d (iD r.1.al),.d (Ci r.1.nx),.d (FY r.1.ac)]),(false,[.d (bD r.2)])]
def O9(n:Int):List (List Int)→List Bool→Ab
 | [],_=>[(1,.cells 41 3 [[.d (iD n),.d (.v (.slice none 0 0)),.d (.v (.slice none 0 0))]])]
 | r::l,ac=>[(1,.cells 41 3 [[.d (iD n),.arr 2 1 0 (l.length+1),.arr 3 1 0 ac.length]]),(2,.cells 84 1 ((r::l).map PT)),(3,.cells 4 1 (ac.map AQ))]
theorem Ez(w0:W)(hs:w0.length≤10000):Spec Tryz.prog TB 200 [] 0 [eT w0] (DO (fun r:AP×Bool=>JB (w0.length+1) r.1) XB):=by
 have hb0:JB (w0.length+1) ⟨0,[],[]⟩:=⟨Nat.zero_le _,Nat.zero_le _,fun r hr=>by cases hr⟩
 refine eR Tryz.func200 rfl (by kernel_rfl) rfl ?_;intro Γ hΓ
 (repeat first|refine tA rfl ?_ |refine aU rfl ?_ |refine Aa ?_)
 (refine pW rfl ?_ rfl (by rfl);refine AD [] rfl rfl (Mz (TB:=TB) w0 (by omega) 32) ⟨rfl,by decide,by decide⟩ rfl trivial ?_;rintro x0 σ1 nx1 ⟨ps,⟨hp1,hp2,hp3⟩,rfl,rfl,rfl⟩ _)
 obtain⟨p0,h0⟩:=get_some (l:=ps) (k:=(0:Int).toNat) (by simp;omega)
 have h0':=get_map (g:=BC) h0
 (repeat first|refine tA rfl ?_ |(refine s4 rfl ‹_› rfl ?_ ?_;omega) |refine aU rfl ?_ |refine Aa ?_)
 (refine pW rfl ?_ rfl (by rfl);refine AD [] rfl rfl (I6 (TB:=TB) p0) ⟨rfl,by decide,by decide⟩ rfl trivial ?_;rintro x0 σ1 nx1 ⟨⟨n,ok⟩,_,rfl,rfl,rfl⟩ _)
 (repeat first|refine tA rfl ?_ |refine s2 rfl fun _ _hb=>?_ |refine aU rfl ?_ |refine Aa ?_)
 (refine aC rfl ?_ ?_<;>rintro⟨⟩)
 ·(repeat first|refine tA rfl ?_|(refine Ag rfl ?_;refine gA rfl ?_;first| refine gS (fun _ _=>AK rfl rfl (by rfl) (by rfl)) ?_) |refine aU rfl ?_ |refine Aa ?_)
  exact aR ⟨_,rfl,[],XB (⟨0,[],[]⟩,false),[],⟨fun i hi=>absurd hi (Nat.not_lt_zero i),List.nodup_nil⟩,rfl,trivial,(⟨0,[],[]⟩,false),hb0,rfl,rfl,rfl⟩
 refine aK ?_
 by_cases hp9:ps.length=1
 ·(repeat first|refine tA rfl ?_|(refine Ag rfl ?_;refine gA rfl ?_;first| refine gS (fun _ _=>AK rfl rfl (by rfl) (by rfl)) ?_) |refine aU rfl ?_ |refine Aa ?_)
  refine aB ?_
  refine aL (α:={k:Nat // k=1}) [0,3] [] rfl rfl (fun s=>[(2,.o (.ptr 0 3 0 0)),(4,Bg ps),(7,.o (.ptr 1 3 0 0)),(8,eI .i64 s.1)]) (fun s=>[(0,.cells 41 3 [[.d (iD 0),.d (.l []),.d (.l [])]]),(1,.cells 41 3 [[.d (iD n),.d (.l []),.d (.l [])]])]) 2 (fun s=>0) (⟨1,rfl⟩) hΓ rfl (by (simp[cX,zC,hΓ,cN])) ?_;rintro⟨k,hk⟩;(try dsimp only[cA,cB])
  (repeat first|refine sN rfl ?_ |refine tA rfl ?_ |refine s2 rfl fun _ _hb=>?_ |refine aU rfl ?_ |refine Aa ?_)
  ((refine aC rfl ?_ ?_<;>rintro⟨⟩);all_goals try (simp at _hb;done))
  ·exfalso;(simp only[oZ] at *;omega)
  refine aE ?_
  (repeat first|refine tA rfl ?_ |refine aU rfl ?_)
  (refine pW rfl ?_ rfl (by rfl);refine AD [] rfl rfl (Ee (TB:=TB) ⟨n,[],[]⟩) ⟨rfl,by decide,by decide⟩ rfl trivial ?_;rintro x0 σ1 nx1 ⟨w9,hw9,rfl,rfl,rfl⟩ _)
  (repeat first|refine tA rfl ?_ |refine s2 rfl fun _ _hb=>?_ |refine Aa ?_)
  (refine aC rfl ?_ ?_<;>rintro⟨⟩)
  ·(repeat first|refine tA rfl ?_|(refine Ag rfl ?_;refine gA rfl ?_;first| refine gS (fun _ _=>AK rfl rfl (by rfl) (by rfl)) ?_) |refine aU rfl ?_ |refine Aa ?_)
   exact aR ⟨_,rfl,[],XB (⟨0,[],[]⟩,false),[],⟨fun i hi=>absurd hi (Nat.not_lt_zero i),List.nodup_nil⟩,rfl,trivial,(⟨0,[],[]⟩,false),hb0,rfl,rfl,rfl⟩
  refine aK ?_
  (repeat first|refine tA rfl ?_ |refine aU rfl ?_ |refine Aa ?_)
  exact aR ⟨_,rfl,[],XB (⟨n,[],[]⟩,true),[],⟨fun i hi=>absurd hi (Nat.not_lt_zero i),List.nodup_nil⟩,rfl,trivial,(⟨n,[],[]⟩,true),⟨Nat.zero_le _,Nat.zero_le _,fun r hr=>by cases hr⟩,rfl,rfl,rfl⟩
 (repeat first|refine tA rfl ?_|(refine Ag rfl ?_;refine gA rfl ?_;first| refine gS (fun _ _=>U8 rfl rfl (by rfl) (by rfl)) ?_) |refine aU rfl ?_ |refine Aa ?_)
 refine aB ?_
 refine aL (α:={z:Nat×List (List Int)×List Bool // (1≤z.1∧z.1≤ps.length)∧z.2.1.length+1=z.1∧z.2.2.length+1=z.1∧∀r∈z.2.1,r.length≤w0.length+1}) [0,3] [] rfl rfl (fun s=>[(2,.o (.ptr 0 3 0 0)),(4,Bg ps),(7,.o (.ptr 1 3 0 0)),(8,eI .i64 s.1.1)]) (fun s=>((0,.cells 41 3 [[.d (iD 0),.d (.l []),.d (.l [])]])::O9 n s.1.2.1 s.1.2.2)) 4 (fun s=>ps.length - s.1.1) (⟨⟨1,[],[]⟩,by simp;omega⟩) hΓ rfl (by (simp[cX,zC,hΓ,O9,cN])) ?_;rintro⟨⟨k,l,ac⟩,hk,hl,hac,hr⟩;(try dsimp only[cA,cB])
 have hk:1≤k∧k≤ps.length:=hk
 have hl:l.length+1=k:=hl
 have hac:ac.length+1=k:=hac
 (repeat first|refine sN rfl ?_ |refine tA rfl ?_ |refine s2 rfl fun _ _hb=>?_ |refine aU rfl ?_ |refine Aa ?_)
 ((refine aC rfl ?_ ?_<;>rintro⟨⟩);all_goals try (simp at _hb;done))
 ·have hlt:k < ps.length:=by (simp only[oZ] at *;omega)
  obtain⟨w,hw⟩:=get_some (l:=ps) (k:=k) hlt
  have hw':=get_map (g:=BC) hw
  have hwl:=hp3 w (List.mem_of_getElem? hw)
  refine aK ?_
  refine aS (aB ?_)
  (repeat first|refine tA rfl ?_ |(refine s4 rfl ‹_› rfl ?_ ?_;omega) |refine s2 rfl fun _ _hb=>?_ |refine aU rfl ?_ |refine Aa ?_)
  (refine aC rfl ?_ ?_<;>rintro⟨⟩)
  ·(repeat first|refine tA rfl ?_|(refine Ag rfl ?_;refine gA rfl ?_;first| refine gS (fun _ _=>AK rfl rfl (by rfl) (by rfl)) ?_) |refine aU rfl ?_ |refine Aa ?_)
   exact aR ⟨_,rfl,[],XB (⟨0,[],[]⟩,false),[],⟨fun i hi=>absurd hi (Nat.not_lt_zero i),List.nodup_nil⟩,rfl,trivial,(⟨0,[],[]⟩,false),hb0,rfl,rfl,rfl⟩
  have hwp:0 < w.length:=by (simp at _hb;exact List.length_pos_iff.2 _hb)
  obtain⟨e,he⟩:=get_some (l:=w) (k:=(0:Int).toNat) (by simp;omega)
  refine aK ?_
  (repeat first|refine tA rfl ?_ |(refine s4 rfl ‹_› rfl ?_ ?_;omega)|(refine Ag rfl ?_;refine gA rfl ?_;first| refine gS (fun _ _=>Dd rfl rfl (by omega) (by omega)) ?_) |refine aU rfl ?_)
  (refine pW rfl ?_ rfl (by rfl);refine AD [] rfl rfl (P0 (TB:=TB) (w.drop (Int.toNat 1)) (by simp;omega)) ⟨rfl,by decide,by decide⟩ rfl trivial ?_;rintro x0 σ1 nx1 ⟨⟨r,ok2⟩,hrl,rfl,rfl,rfl⟩ _)
  have hrl:r.length≤w0.length+1:=Nat.le_trans hrl (by simp;omega)
  (repeat first|refine tA rfl ?_ |refine s2 rfl fun _ _hb=>?_ |refine aU rfl ?_ |refine Aa ?_)
  (refine aC rfl ?_ ?_<;>rintro⟨⟩)
  ·(repeat first|refine tA rfl ?_|(refine Ag rfl ?_;refine gA rfl ?_;first| refine gS (fun _ _=>AK rfl rfl (by rfl) (by rfl)) ?_) |refine aU rfl ?_ |refine Aa ?_)
   exact aR ⟨_,rfl,[],XB (⟨0,[],[]⟩,false),[],⟨fun i hi=>absurd hi (Nat.not_lt_zero i),List.nodup_nil⟩,rfl,trivial,(⟨0,[],[]⟩,false),hb0,rfl,rfl,rfl⟩
  refine aK ?_
  have hr2:∀x∈l++[r],x.length≤w0.length+1:=fun x hx=>by
   rcases List.mem_append.1 hx with hx|hx
   ·exact hr x hx
   ·simp at hx;subst hx;exact hrl
  cases l with
  | nil=>
   obtain rfl:ac=[]:=List.length_eq_zero_iff.1 (by simp at hl;omega)
   (repeat first|refine tA rfl ?_ |refine aU rfl ?_)
   (refine pW rfl ?_ rfl (by rfl);refine XF 50 rfl ?_;refine DW rfl rfl rfl (by intro r hr;simp at hr;subst hr;rfl) (by rfl) (Nat.le_of_ble_eq_true rfl) (by simp) (fun h=>?_) (fun _=>?_))
   ·exact absurd h (by simp)
   (repeat first|refine tA rfl ?_)
   refine Aa ?_
   refine rG (IY [9,11]) (by kernel_rfl) ?_
   (repeat first|refine tA rfl ?_ |(refine s4 rfl ‹_› rfl ?_ ?_;omega) |refine s2 rfl fun _ _hb=>?_)
   (refine pW rfl ?_ rfl (by rfl);refine XF 56 rfl ?_;refine DW rfl rfl rfl (by intro r hr;simp at hr;subst hr;rfl) (by rfl) (Nat.le_of_ble_eq_true rfl) (by simp) (fun h=>?_) (fun _=>?_))
   ·exact absurd h (by simp)
   (repeat first|(refine sA rfl ?_ ?_;first|exact tI|omega) |refine aU rfl ?_ |refine Aa ?_)
   subst _hb
   refine⟨⟨⟨k+1,[r],[decide ((e.toNat:Int)=43)]⟩,⟨by dsimp only;omega,by dsimp only;omega⟩,by simp at hl;simp;omega,by simp at hl;simp;omega,hr2⟩,by dsimp only;(omega),[0,1,4,5],?_⟩
   (simp[cX,zC,hΓ,cN,O9,Ai,eC]<;>rfl)
  | cons r0 l=>
   (repeat first|refine tA rfl ?_ |refine aU rfl ?_)
   (refine pW rfl ?_ rfl (by rfl);refine Aw rfl rfl rfl (by first| (simp;done)|(simp;(omega))) rfl (by intro r hr;simp at hr;subst hr;rfl) (by rfl) (Nat.le_of_ble_eq_true rfl) (by simp at hl ⊢;omega) ?_)
   (repeat first|refine tA rfl ?_)
   refine Aa ?_
   refine Ak.AT [0,3,8] [] rfl rfl [(2,.o (.ptr 0 3 0 0)),(4,Bg ps),(7,.o (.ptr 1 3 0 0))] [(0,.cells 41 3 [[.d (iD 0),.d (.l []),.d (.l [])]]),(1,.cells 41 3 [[.d (iD n),.arr 2 1 0 (l.length+1+1),.arr 3 1 0 ac.length]]),(2,.cells 84 1 ((r0::(l++[r])).map PT)),(3,.cells 4 1 (ac.map AQ))] [0,1,4,3] (rl hΓ rfl) (by (simp[cX,zC,hΓ,cN,O9,Ai,eC])) ?_;(try dsimp only[cA,cB])
   refine rG (IY [9,11]) (by kernel_rfl) ?_
   (repeat first|refine tA rfl ?_ |(refine s4 rfl ‹_› rfl ?_ ?_;omega) |refine s2 rfl fun _ _hb=>?_)
   (refine pW rfl ?_ rfl (by rfl);refine Aw rfl rfl rfl (by first| (simp;done)|(simp;(omega))) rfl (by intro r hr;simp at hr;subst hr;rfl) (by rfl) (Nat.le_of_ble_eq_true rfl) (by simp at hl ⊢;omega) ?_)
   (repeat first|(refine sA rfl ?_ ?_;first|exact tI|omega) |refine aU rfl ?_ |refine Aa ?_)
   subst _hb
   refine⟨⟨⟨k+1,r0::(l++[r]),ac++[decide ((e.toNat:Int)=43)]⟩,⟨by dsimp only;omega,by dsimp only;omega⟩,by simp at hl ⊢;omega,by simp;omega,hr2⟩,by dsimp only;(omega),[0,1,2,4],?_⟩
   (simp[cX,zC,hΓ,cN,O9,Ai,eC]<;>rfl)
 refine aE ?_
 have hkn:k=ps.length:=by (simp only[oZ] at *;omega)
 cases l with
 | nil=>exfalso;simp at hl;omega
 | cons r0 l=>
  refine Ak.Bi [1,2,3] [(0,eT w0),(2,.o (.ptr 0 3 0 0)),(3,eB false),(7,.o (.ip (Bm ⟨n,r0::l,ac⟩)))] ⟨⟨_,rfl,.inl rfl⟩,⟨_,rfl,.inl rfl⟩,⟨_,rfl,.inl rfl⟩,⟨_,rfl,.inr (.o (.box rfl (.cons .d (.cons (.full rfl (by simp [Function.comp_def]) (by simp)) (.cons (.full rfl (by simp [Function.comp_def]) (by simp)) .nil)))))⟩,trivial⟩ ?_
  (repeat first|refine tA rfl ?_ |refine aU rfl ?_)
  (refine pW rfl ?_ rfl (by rfl);refine AD [] rfl rfl (Ee (TB:=TB) ⟨n,r0::l,ac⟩) ⟨rfl,by decide,by decide⟩ rfl trivial ?_;rintro x0 σ1 nx1 ⟨w9,hw9,rfl,rfl,rfl⟩ _)
  (repeat first|refine tA rfl ?_ |refine s2 rfl fun _ _hb=>?_ |refine Aa ?_)
  (refine aC rfl ?_ ?_<;>rintro⟨⟩)
  ·(repeat first|refine tA rfl ?_|(refine Ag rfl ?_;refine gA rfl ?_;first| refine gS (fun _ _=>AK rfl rfl (by rfl) (by rfl)) ?_) |refine aU rfl ?_ |refine Aa ?_)
   exact aR ⟨_,rfl,[],XB (⟨0,[],[]⟩,false),[],⟨fun i hi=>absurd hi (Nat.not_lt_zero i),List.nodup_nil⟩,rfl,trivial,(⟨0,[],[]⟩,false),hb0,rfl,rfl,rfl⟩
  refine aK ?_
  (repeat first|refine tA rfl ?_ |refine aU rfl ?_ |refine Aa ?_)
  exact aR ⟨_,rfl,[],XB (⟨n,r0::l,ac⟩,true),[],⟨fun i hi=>absurd hi (Nat.not_lt_zero i),List.nodup_nil⟩,rfl,trivial,(⟨n,r0::l,ac⟩,true),⟨by show (r0::l).length≤_;omega,by show ac.length≤_;omega,hr⟩,rfl,rfl,rfl⟩
def QE:List W:=[[97,98,32,43,49,44,48,32,45,49,44,49],[97,98,32,43,48,44,49,32,43,50,44,49,32,45,50,44,50],[97,99,32,43,49,44,50,32,43,49,44,50,32,45,50,44,50],[98,32,43,49,32,45,49],[97,98,99,32,43,49,44,48,44,50,32,43,50,44,48,44,49,32,45,50,44,50,44,50],[45,32,43],[45,32,45],[97,32,43,49,32,45,48],[97,98,32,43,48,44,49,32,45,48,44,49],[98,99,32,43,49,44,50,32,43,50,44,48,32,45,50,44,50],[97,98,32,43,49,44,50,32,45,49,44,51,32,43,52,44,50,32,45,49,44,51,32,43,52,44,50],[97,98,99,32,43,48,44,49,44,48,32,43,48,44,49,44,50,32,45,50,44,50,44,50]]
theorem Tu:∀w∈QE,w.length≤40:=by decide
theorem P4:Pure Tryz.prog TB 292 [] (Bg QE):=by
 refine eN Tryz.func292 rfl (by kernel_rfl) rfl ?_;intro Γ hΓ
 (repeat first|refine tA rfl ?_ |refine aU rfl ?_ |refine Aa ?_)
 refine aR ⟨_,rfl,rfl⟩
theorem SH(b:List UInt8)(hb:b.length≤2000)(p:Int)(h0:0≤p∧p < 700000000):Spec Tryz.prog TB 251 [(0,BF b p)] 1 [.o (.ptr 0 2 0 0)] (Ed b p 60 (fun a=>JB 41 a)):=by
 obtain⟨c,c1,c2,hp⟩:=BH (TB:=TB) b hb p 3 (by omega)
 obtain⟨w,hw,ho⟩:=XH (TB:=TB) b hb (p+1) (by omega) QE (by decide) (by decide)
 have hwl:=Tu w hw
 have hpa:=Ez (TB:=TB) w (by omega)
 refine eR Tryz.func251 rfl (by kernel_rfl) rfl ?_;intro Γ hΓ
 (repeat first|refine tA rfl ?_ |refine aU rfl ?_ |refine Aa ?_)
 (refine pW rfl ?_ rfl (by rfl);refine AD [0] rfl rfl (hp) ⟨rfl,by decide,by decide⟩ rfl (by simp[cX,zC,hΓ,cN]) ?_;rintro x0 σ1 nx1 ⟨rfl,rfl,rfl⟩ _)
 (repeat first|refine s2 rfl fun _ _hb=>?_ |refine Aa ?_)
 (refine aC rfl ?_ ?_<;>rintro⟨⟩)
 ·(repeat first|refine tA rfl ?_ |refine sP rfl (P4) rfl ?_ |refine aU rfl ?_)
  (refine pW rfl ?_ rfl (by rfl);refine AD [0] rfl rfl (ho) ⟨rfl,by decide,by decide⟩ rfl (by simp[cX,zC,hΓ,cN]) ?_;rintro x0 σ1 nx1 ⟨rfl,rfl,rfl⟩ _)
  (refine pW rfl ?_ rfl (by rfl);refine AD [] rfl rfl (hpa) ⟨rfl,by decide,by decide⟩ rfl trivial ?_;rintro x0 σ1 nx1 ⟨⟨a,ok⟩,ha,rfl,rfl,rfl⟩ _)
  have hA:JB (w.length+1) a:=ha
  (repeat first|refine tA rfl ?_ |refine aU rfl ?_ |refine Aa ?_)
  (refine aC rfl ?_ ?_<;>rintro⟨⟩)
  ·(repeat first|refine tA rfl ?_ |refine aU rfl ?_ |refine Aa ?_)
   exact aR ⟨_,rfl,[0],A2 a,[(0,BF b (p+1+1))],⟨by intro i hi;match i with|0=>rfl,by decide⟩,rfl,by (simp[cX,zC,hΓ,cN]),p+1+1,a,by omega,⟨by have:=hA.nx;omega,by have:=hA.ac;omega,fun r hr=>by have:=hA.row r hr;omega⟩,rfl,rfl,rfl⟩
  refine aK ?_
  obtain⟨n1,m1,k1⟩:=HJ (TB:=TB) b hb (p+1+1) (by omega) [3,6,7,5,1,0,2] (by decide) (by decide)
  have f1:=MC (TB:=TB) b hb (p+1+1+1) (by omega) n1
  (repeat first|refine tA rfl ?_ |refine aU rfl ?_)
  (refine pW rfl ?_ rfl (by rfl);refine AD [0] rfl rfl (k1) ⟨rfl,by decide,by decide⟩ rfl (by simp[cX,zC,hΓ,cN]) ?_;rintro x0 σ1 nx1 ⟨rfl,rfl,rfl⟩ _)
  (refine pW rfl ?_ rfl (by rfl);refine AD [0] rfl rfl (f1) ⟨rfl,by decide,by decide⟩ rfl (by simp[cX,zC,hΓ,cN]) ?_;rintro x0 σ1 nx1 ⟨q,a2,hq,⟨_,ha2⟩,rfl,rfl,rfl⟩ _)
  (repeat first|refine tA rfl ?_ |refine Aa ?_)
  exact aR ⟨_,rfl,[0],A2 a2,[(0,BF b (q))],⟨by intro i hi;match i with|0=>rfl,by decide⟩,rfl,by (simp[cX,zC,hΓ,cN]),q,a2,by omega,⟨by have:=ha2.nx;omega,by have:=ha2.ac;omega,fun r hr=>by have:=ha2.row r hr;omega⟩,rfl,rfl,rfl⟩
 refine aK ?_
 obtain⟨n1,m1,k1⟩:=HJ (TB:=TB) b hb (p+1) (by omega) [3,6,7,5,1,0,2] (by decide) (by decide)
 have f1:=MC (TB:=TB) b hb (p+1+1) (by omega) n1
 (repeat first|refine tA rfl ?_ |refine aU rfl ?_)
 (refine pW rfl ?_ rfl (by rfl);refine AD [0] rfl rfl (k1) ⟨rfl,by decide,by decide⟩ rfl (by simp[cX,zC,hΓ,cN]) ?_;rintro x0 σ1 nx1 ⟨rfl,rfl,rfl⟩ _)
 (refine pW rfl ?_ rfl (by rfl);refine AD [0] rfl rfl (f1) ⟨rfl,by decide,by decide⟩ rfl (by simp[cX,zC,hΓ,cN]) ?_;rintro x0 σ1 nx1 ⟨q,a2,hq,⟨_,ha2⟩,rfl,rfl,rfl⟩ _)
 (repeat first|refine tA rfl ?_ |refine Aa ?_)
 exact aR ⟨_,rfl,[0],A2 a2,[(0,BF b (q))],⟨by intro i hi;match i with|0=>rfl,by decide⟩,rfl,by (simp[cX,zC,hΓ,cN]),q,a2,by omega,⟨by have:=ha2.nx;omega,by have:=ha2.ac;omega,fun r hr=>by have:=ha2.row r hr;omega⟩,rfl,rfl,rfl⟩
theorem JB.mono{m n:Nat}{a:AP}(h:JB m a)(hm:m≤n):JB n a:=⟨Nat.le_trans h.nx hm,Nat.le_trans h.ac hm,fun r hr=>Nat.le_trans (h.row r hr) hm⟩
abbrev TV(a:AP):List C:=[.d (iD a.al),.d (Ci a.nx),.d (FY a.ac)]
end Go.Am
namespace Go.Am
open Go
set_option linter.unusedVariables false
section
variable {a b:AP}(ha:AF a=true)(hb:AF b=true)(hal:a.al=b.al)(hL:∀w,Ay (AR a.al) w→LA a w=LA b w)
include ha hb hal hL
end
end Go.Am
namespace Go.Am
open Go Go.Proofs
set_option maxHeartbeats 1000000
set_option maxRecDepth 4000
attribute [local irreducible] AY B2 Lex Br Ak Spec
variable {TB:Bw}
theorem Io(p:AP):Pure Tryz.prog TB 52 [A2 p] (.t [(true,[.d (A5 (BG p).rows),.d (A5 (BG p).cols)]),(false,[.d (bD (decide (Ds p > 0)))])]):=by
 refine eG Tryz.func52 rfl (by kernel_rfl) rfl ?_;intro Γ hΓ
 (repeat first |refine sN rfl ?_ |((first|refine sA rfl ?_ ?_|refine s4 rfl ‹_› rfl ?_ ?_);first|exact tI|omega|simp only[oZ] at *;omega) |refine s2 rfl fun _ _hb=>?_ |refine sP rfl (MD p) rfl ?_|(refine Ag rfl ?_;refine gA rfl ?_;first|refine gS (fun _ _=>q_decide rfl) ?_) |refine s3 rfl ?_ ?_<;>rintro rfl |refine aU rfl ?_ |refine Aa ?_)
 subst _hb
 exact aR ⟨_,rfl,rfl⟩
theorem Ia(a b:List W):Pure Tryz.prog TB 138 [Bg a,Bg b] (eB (decide (a=b))):=by
  refine eN Tryz.func138 rfl (by kernel_rfl) rfl ?_;intro Γ hΓ
  refine Ak.bound 0 rfl fun hB=>?_
  have hB:=hB (a.map BC) .refl
  rw [List.length_map] at hB
  (repeat first |refine sN rfl ?_ |((first|refine sA rfl ?_ ?_|refine s4 rfl ‹_› rfl ?_ ?_);first|exact tI|omega|simp only[oZ] at *;omega) |refine s2 rfl fun _ _hb=>?_ |refine s3 rfl ?_ ?_<;>rintro rfl |refine aU rfl ?_ |refine Aa ?_)
  (refine aC rfl ?_ ?_<;>rintro⟨⟩)
  · (repeat first |refine sN rfl ?_ |((first|refine sA rfl ?_ ?_|refine s4 rfl ‹_› rfl ?_ ?_);first|exact tI|omega|simp only[oZ] at *;omega) |refine s2 rfl fun _ _hb=>?_ |refine s3 rfl ?_ ?_<;>rintro rfl |refine aU rfl ?_ |refine Aa ?_)
    refine aR ⟨_,rfl,?_⟩
    have hne:a≠b:=fun h=>by subst h;first|omega|simp only[oZ] at *;omega
    show E.o _=E.o _;congr;grind
  refine aK ?_
  have hab:a.length=b.length:=by first|omega|simp only[oZ] at *;omega
  (repeat first |refine sN rfl ?_ |((first|refine sA rfl ?_ ?_|refine s4 rfl ‹_› rfl ?_ ?_);first|exact tI|omega|simp only[oZ] at *;omega) |refine s2 rfl fun _ _hb=>?_ |refine s3 rfl ?_ ?_<;>rintro rfl |refine aU rfl ?_ |refine Aa ?_)
  refine aB ?_
  refine Ak.A4 (α:={k:Nat // k≤a.length∧a.take k=b.take k}) (fun ⟨k,hk,he⟩=>[(0,Bg a),(1,Bg b),(5,eI .i64 k)]) (fun ⟨k,hk,he⟩=>[]) 0 (fun ⟨k,hk,he⟩=>a.length - k) (⟨0,by omega,by simp⟩) [] (Eb hΓ rfl rfl) (by ((repeat' first|exact tI|rfl|refine And.intro ?_ ?_)<;>(simp[cX,zC,hΓ]))) ?_;rintro⟨k,hk,he⟩;(try dsimp only)
  (repeat first |refine sN rfl ?_ |((first|refine sA rfl ?_ ?_|refine s4 rfl ‹_› rfl ?_ ?_);first|exact tI|omega|simp only[oZ] at *;omega) |refine s2 rfl fun _ _hb=>?_ |refine s3 rfl ?_ ?_<;>rintro rfl |refine aU rfl ?_ |refine Aa ?_)
  ((refine aC rfl ?_ ?_<;>rintro⟨⟩);all_goals try (simp at _hb;done))
  · have hlt:k < a.length:=by first|omega|simp only[oZ] at *;omega
    obtain⟨x,hx⟩:=get_some (l:=a) (k:=k) hlt
    obtain⟨y,hy⟩:=get_some (l:=b) (k:=k) (by omega)
    have hx':=get_map (g:=BC) hx
    have hy':=get_map (g:=BC) hy
    refine aK ?_
    refine aS (aB ?_)
    (repeat first |refine sN rfl ?_ |((first|refine sA rfl ?_ ?_|refine s4 rfl ‹_› rfl ?_ ?_);first|exact tI|omega|simp only[oZ] at *;omega) |refine s2 rfl fun _ _hb=>?_ |refine s3 rfl ?_ ?_<;>rintro rfl |refine aU rfl ?_ |refine Aa ?_)
    refine rG (IY []) (by kernel_rfl) ?_
    (repeat first |refine sN rfl ?_ |((first|refine sA rfl ?_ ?_|refine s4 rfl ‹_› rfl ?_ ?_);first|exact tI|omega|simp only[oZ] at *;omega) |refine s2 rfl fun _ _hb=>?_ |refine s3 rfl ?_ ?_<;>rintro rfl |refine aU rfl ?_ |refine Aa ?_)
    (refine aC rfl ?_ ?_<;>rintro⟨⟩)
    all_goals first
      | ((repeat first |refine sN rfl ?_ |((first|refine sA rfl ?_ ?_|refine s4 rfl ‹_› rfl ?_ ?_);first|exact tI|omega|simp only[oZ] at *;omega) |refine s2 rfl fun _ _hb=>?_ |refine s3 rfl ?_ ?_<;>rintro rfl |refine aU rfl ?_ |refine Aa ?_)
         refine aR ⟨_,rfl,?_⟩
         show E.o _=E.o _;congr;grind
         done)
      | (refine aK ?_
         (repeat first |refine sN rfl ?_ |((first|refine sA rfl ?_ ?_|refine s4 rfl ‹_› rfl ?_ ?_);first|exact tI|omega|simp only[oZ] at *;omega) |refine s2 rfl fun _ _hb=>?_ |refine s3 rfl ?_ ?_<;>rintro rfl |refine aU rfl ?_ |refine Aa ?_)
         refine⟨⟨k+1,by first|omega|simp only[oZ] at *;omega,by rw [List.take_add_one,List.take_add_one,hx,hy];grind⟩,by dsimp only;(first|omega|simp only[oZ] at *;omega),[],?_⟩
         simp[cX,zC,hΓ])
  · refine aE ?_
    (repeat first |refine sN rfl ?_ |((first|refine sA rfl ?_ ?_|refine s4 rfl ‹_› rfl ?_ ?_);first|exact tI|omega|simp only[oZ] at *;omega) |refine s2 rfl fun _ _hb=>?_ |refine s3 rfl ?_ ?_<;>rintro rfl |refine aU rfl ?_ |refine Aa ?_)
    refine aR ⟨_,rfl,?_⟩
    have hk2:a.length≤k:=by first|omega|simp only[oZ] at *;omega
    rw [List.take_of_length_le hk2,List.take_of_length_le (by omega)] at he
    show E.o _=E.o _;congr;grind
theorem N7(a b c d:List W):Pure Tryz.prog TB 62 [.a [.d (A5 a),.d (A5 b)],.a [.d (A5 c),.d (A5 d)]] (eB (decide (a=c∧b=d))):=by
 refine eN Tryz.func62 rfl (by kernel_rfl) rfl ?_;intro Γ hΓ
 (repeat' first |refine sN rfl ?_ |((first|refine sA rfl ?_ ?_|refine s4 rfl ‹_› rfl ?_ ?_);first|exact tI|omega|simp only[oZ] at *;omega) |refine s2 rfl fun _ _hb=>?_ |(refine sC rfl (Ia a c) ?_;intro _ _hb)|(refine sC rfl (Ia b d) ?_;intro _ _hb) |refine s3 rfl ?_ ?_<;>rintro rfl |refine aU rfl ?_ |refine Aa ?_ |refine rE (by kernel_rfl) ?_|(refine aC rfl ?_ ?_<;>rintro⟨⟩)|refine aK ?_|refine aE ?_|refine aB ?_|refine aR ⟨_,rfl,?_⟩)
 all_goals (show E.o _=E.o _;congr;grind)
def Kz(A:W→Bool)(al:Int)(t:AZ)(w:W):Option AZ:=if Bh A al t && Fz al w then EL t w else none
theorem LM{t:Nb}{al:Int}{A:W→Bool}(hT:Hs Tryz.prog TB 93 85 t al A)(tab:AZ)(hz:NV tab)(w:W)(hw:w.length≤1048576) :
 Pure Tryz.prog TB 18 [Dq t,CB tab,eT w] (Gb (Kz A al tab w)):=by
 have h1:=DA hT tab hz
 have h2:=KV hT w (by omega)
 have h3:=GH (TB:=TB) tab.cols w (by have:=hz.cl;omega)
 by_cases hv:(Bh A al tab && Fz al w)=true
 ·have ha:Kz A al tab w=EL tab w:=by unfold Kz;rw [if_pos hv]
  rw [ha]
  rw [Bool.and_eq_true] at hv
  rw [hv.1] at h1
  rw [hv.2] at h2
  have hsh:Tx al tab:=(Cz hv.1).1
  have hr1:=hsh.r1
  have hc1:=hsh.c1
  have hrl:=hsh.rl
  have hcl:=hsh.cl
  by_cases hn:tab.cols.length=20∨w∈tab.cols
  ·have hx:EL tab w=none:=by unfold EL;rw [if_pos hn]
   rw [hx]
   refine eG Tryz.func18 rfl (by kernel_rfl) rfl ?_;intro Γ hΓ
   (repeat' first|refine sN rfl ?_ |refine tA rfl ?_ |(refine s2 rfl fun _ _hb=>?_;try (simp only[Bool.not_true,Bool.not_false] at _hb;subst _hb)) |refine sP rfl (h1) rfl ?_|refine sP rfl (h2) rfl ?_|(refine sC rfl (h3) ?_;intro _ _hb)|(refine Ag rfl ?_;refine gA rfl ?_;first| refine gS (fun _ _=>AK rfl rfl (by rfl) (by rfl)) ?_) |refine s3 rfl ?_ ?_<;>rintro rfl |refine aU rfl ?_ |refine Aa ?_ |refine rE (by kernel_rfl) ?_|(refine aC rfl ?_ ?_<;>rintro⟨⟩)|refine aK ?_|refine aE ?_|refine aB ?_|refine aR ⟨_,rfl,?_⟩)
   all_goals first
    | rfl
    | (exfalso;clear h1 h2 h3 hT;simp at *;grind;done)
    | skip
  ·have hx:EL tab w=some ⟨tab.rows,tab.cols++[w]⟩:=by unfold EL;rw [if_neg hn]
   rw [hx]
   have hm:decide (w∈tab.cols)=false:=decide_eq_false fun h=>hn (.inr h)
   have h20:tab.cols.length≠20:=fun h=>hn (.inl h)
   rw [hm] at h3
   refine eG Tryz.func18 rfl (by kernel_rfl) rfl ?_;intro Γ hΓ
   (repeat first|refine sN rfl ?_ |refine tA rfl ?_ |(refine s2 rfl fun _ _hb=>?_;try (simp only[Bool.not_true,Bool.not_false] at _hb;subst _hb)) |refine sP rfl (h1) rfl ?_|refine sP rfl (h2) rfl ?_|refine sP rfl (h3) rfl ?_ |refine aU rfl ?_ |refine Aa ?_)
   refine Ak.cond rfl (fun hb=>?_) (fun hb=>?_)<;>cases hb
   ·exfalso;(simp only[oZ] at *;omega)
   refine aK ?_
   (repeat first|refine aU rfl ?_)
   refine rG (cK [0,1,2,4,5,6,8,9,3,7,10,11,12,13] [3,7,10,12] [0,1,2,4,5,6,8,9]) (by kernel_rfl) ?_
   (repeat first|refine tX rfl ?_|(refine Ag rfl ?_;refine gA rfl ?_;first| refine gS (fun _ _=>ND (by rfl) (by rfl)) ?_|refine gS (fun _ _=>Lf rfl rfl rfl rfl rfl (by rfl) (by rfl) (by rfl) (by rfl) (by rfl)) ?_))
   (refine pW rfl ?_ rfl (by rfl);refine DW rfl rfl rfl (by intro r hr;simp at hr;obtain⟨_,_,rfl⟩:=hr;rfl) (by rfl) (Nat.le_of_ble_eq_true rfl) (by simp;omega) (fun h=>?_) (fun _=>?_))
   ·exfalso;simp at h;rw [h] at hr1;simp at hr1
   (repeat first| (refine Ag rfl ?_;refine gA rfl ?_;first| refine gS (fun _ _=>ND (by rfl) (by rfl)) ?_|refine gS (fun _ _=>Lf rfl rfl rfl rfl rfl (by rfl) (by rfl) (by rfl) (by rfl) (by rfl)) ?_))
   (refine pW rfl ?_ rfl (by rfl);refine DW rfl rfl rfl (by intro r hr;simp at hr;obtain⟨_,_,rfl⟩:=hr;rfl) (by rfl) (Nat.le_of_ble_eq_true rfl) (by simp;omega) (fun h=>?_) (fun _=>?_))
   ·exfalso;simp at h;rw [h] at hc1;simp at hc1
   (refine pW rfl ?_ rfl (by rfl);refine Aw rfl rfl rfl (by first| (simp;done)|(simp;(omega))) rfl (by intro r hr;simp at hr;subst hr;rfl) (by rfl) (Nat.le_of_ble_eq_true rfl) (by simp;omega) ?_)
   (repeat first|refine tA rfl ?_|(refine Ag rfl ?_;refine gA rfl ?_;first| refine gS (fun _ _=>AK rfl rfl (by rfl) (by rfl)) ?_) |refine Aa ?_)
   refine Ak.settle [(6,.o (.ip [A5 tab.rows,A5 (tab.cols++[w])])),(7,eB true)] ⟨⟨_,rfl,.o (.box rfl (.cons (.full rfl (by simp [Function.comp_def]) (by simp)) (.cons (.full rfl (by simp [Function.comp_def]) (by simp)) .nil)))⟩,⟨_,rfl,.o .d⟩,trivial⟩ ?_
   refine aR ⟨_,rfl,rfl⟩
 ·have ha:Kz A al tab w=none:=by unfold Kz;rw [if_neg hv]
  rw [ha]
  refine eG Tryz.func18 rfl (by kernel_rfl) rfl ?_;intro Γ hΓ
  (repeat' first|refine sN rfl ?_ |refine tA rfl ?_ |(refine s2 rfl fun _ _hb=>?_;try (simp only[Bool.not_true,Bool.not_false] at _hb;subst _hb)) |(refine sC rfl (h1) ?_;intro _ _hb)|(refine sC rfl (h2) ?_;intro _ _hb)|(refine sC rfl (h3) ?_;intro _ _hb)|(refine Ag rfl ?_;refine gA rfl ?_;first| refine gS (fun _ _=>AK rfl rfl (by rfl) (by rfl)) ?_) |refine s3 rfl ?_ ?_<;>rintro rfl |refine aU rfl ?_ |refine Aa ?_ |refine rE (by kernel_rfl) ?_|(refine aC rfl ?_ ?_<;>rintro⟨⟩)|refine aK ?_|refine aE ?_|refine aB ?_|refine aR ⟨_,rfl,?_⟩)
  all_goals first
   | rfl
   | (exfalso;clear h1 h2 h3 hT;simp at *;grind;done)
   | skip
def Dx(A:W→Bool)(al:Int)(t:AZ)(w:W):Option W:=if BQ A al t && Fz al w then BT A t w else none
theorem PX{al:Int}{w:W}(h:Fz al w=true):Ay (AR al) w∧w.length≤4000∧within w al=true:=by
 unfold Fz at h
 rw [Bool.and_eq_true,decide_eq_true_eq] at h
 exact⟨Et h.1,h.2,h.1⟩
theorem TL{A:W→Bool}{al:Int}{t:AZ}{w:W}(ha:BI al=true)(hcl:A7 A (AR al) t)(hr:t.rows.length≤12)(hw:Fz al w=true):Gg (AO A al t) w=Ht A t w:=by
 obtain⟨h1,h2,h3⟩:=PX hw
 unfold Gg
 rw [Kd ha hcl hr,HW hcl h1]
 show (true && (within w al && _))=_
 rw [h3];rfl
theorem Pj{A:W→Bool}{t:AZ}{w:W}{k q:Nat}{c:UInt8}{R:Option W}(hc:w[k]? = some c)(hR:R=splitAt A t (A w) q (w.drop k)) :
 (A (t.rows.getD (Cv A t (t.rows.getD q []++[c])) []++w.drop (k+1))≠A w→R=some (w.drop (k+1)))∧(A (t.rows.getD (Cv A t (t.rows.getD q []++[c])) []++w.drop (k+1))=A w→R=splitAt A t (A w) (Cv A t (t.rows.getD q []++[c])) (w.drop (k+1))):=by
 have:=IL (L:=A) (t:=t) (b:=A w) (q:=q) hc
 rw [this] at hR
 exact⟨fun h=>by rw [hR,if_pos h],fun h=>by rw [hR,if_neg (by simpa using h)]⟩
theorem Mh{t:Nb}{al:Int}{A:W→Bool}(hT:Hs Tryz.prog TB 93 85 t al A)(hal:0≤al→BI al=true)(tab:AZ)(hz:NV tab)(w:W)(hw:w.length≤1048576) :
 Pure Tryz.prog TB 27 [Dq t,CB tab,eT w] (Sr (Dx A al tab w)):=by
 have h1:=EI hT tab hz
 have h2:=KV hT w (by omega)
 have h4:=hT.ask w (by omega)
 by_cases hv:BQ A al tab=true
 ·rw [if_pos hv] at h1
  obtain⟨hv1,ho,hcl⟩:=E7 hv
  have hsh:=(Cz hv1).1
  have ha:=hal hsh.pos
  have hau:=Kd ha hcl hsh.rl
  have h3:=Gl (TB:=TB) (AO A al tab) w (by omega)
  by_cases hl:Fz al w=true
  ·rw [hl] at h2
   rw [TL ha hcl hsh.rl hl] at h3
   have hs:Dx A al tab w=BT A tab w:=by unfold Dx;rw [hv,hl];rfl
   rw [hs]
   by_cases hd:Ht A tab w=A w
   ·have hn:BT A tab w=none:=by unfold BT;rw [if_pos hd]
    rw [hn]
    rw [hd] at h3
    refine eG Tryz.func27 rfl (by kernel_rfl) rfl ?_;intro Γ hΓ
    (repeat' first|refine tA rfl ?_ |(refine s2 rfl fun _ _hb=>?_;try (simp only[Bool.not_true,Bool.not_false] at _hb;subst _hb)) |refine sP rfl (h1) rfl ?_|refine sP rfl (h2) rfl ?_|refine sP rfl (h3) rfl ?_|refine sP rfl (h4) rfl ?_ |refine aU rfl ?_ |refine Aa ?_ |refine rE (by kernel_rfl) ?_|(refine aC rfl ?_ ?_<;>rintro⟨⟩)|refine aK ?_|refine aE ?_|refine aB ?_|refine aR ⟨_,rfl,?_⟩)
    all_goals first
     | rfl
     | (exfalso;grind;done)
   ·obtain⟨R,hR⟩:∃R,R=BT A tab w:=⟨_,rfl⟩
    rw [←hR]
    have hR:R=splitAt A tab (A w) 0 (w.drop 0):=by rw [hR];unfold BT;rw [if_neg hd];rfl
    obtain⟨hon,hw4,_⟩:=PX hl
    have hrl:=hsh.rl
    have hr1:=hsh.r1
    refine eG Tryz.func27 rfl (by kernel_rfl) rfl ?_;intro Γ hΓ
    (repeat first|refine tA rfl ?_ |refine sP rfl (h1) rfl ?_|refine sP rfl (h2) rfl ?_|refine sP rfl (h3) rfl ?_|refine sP rfl (h4) rfl ?_ |refine aU rfl ?_ |refine Aa ?_)
    refine rG (IY []) (by kernel_rfl) ?_
    (repeat first|refine tA rfl ?_ |(refine s2 rfl fun _ _hb=>?_;try (simp only[Bool.not_true,Bool.not_false] at _hb;subst _hb)) |refine sP rfl (h1) rfl ?_|refine sP rfl (h2) rfl ?_|refine sP rfl (h3) rfl ?_|refine sP rfl (h4) rfl ?_ |refine Aa ?_)
    refine Ak.cond rfl (fun hb=>?_) (fun hb=>?_)<;>cases hb
    ·exfalso;exact hd (by simpa using _hb)
    refine aK ?_
    (repeat first|refine tA rfl ?_ |refine aU rfl ?_ |refine Aa ?_)
    have h0:0 < tab.rows.length:=hr1
    refine aB ?_
    refine aL (α:={k:Nat // k≤w.length∧R=splitAt A tab (A w) (runM A tab 0 (w.take k)) (w.drop k)∧A (tab.rows.getD (runM A tab 0 (w.take k)) []++w.drop k)=A w}) [2,3,4,8] [0] rfl rfl (fun ⟨k,hk,he,hA⟩=>[(10,eI .i64 (runM A tab 0 (w.take k):Nat)),(11,eI .i64 k)]) (fun ⟨k,hk,he,hA⟩=>[]) 1 (fun ⟨k,hk,he,hA⟩=>w.length - k) (⟨0,by omega,hR,by simp [hsh.r0,runM]⟩) hΓ rfl (by (simp[cX,zC,hΓ]<;>rfl)) ?_;rintro⟨k,hk,he,hA⟩;(try dsimp only[cA,cB])
    have hrn:=hcl.run (w.take k) 0 (FM hon k) h0
    by_cases hlt:k < w.length
    ·obtain⟨c,hc⟩:=get_some hlt
     have hc':w[((k:Nat):Int).toNat]? = some c:=by simpa using hc
     have hcm:=hon c (List.mem_of_getElem? hc)
     have hcn:=FF hcm
     have hla:=Kj (TB:=TB) w k c hc'
     have hnl:(AO A al tab).nx.length=tab.rows.length:=by simp [AO]
     have hgo:=Kk (TB:=TB) (AO A al tab) hau (runM A tab 0 (w.take k)) (by omega) ((c.toNat:Int) - 97) hcn.1 hcn.2
     have hst:=Jv (L:=A) (t:=tab) hc 0
     have hrn2:=hcl.run (w.take (k+1)) 0 (FM hon (k+1)) h0
     rw [Im (L:=A) (al:=al) (t:=tab) hrn hcm,←hst] at hgo
     have hsp:=Pj hc he
     rw [←hst] at hsp
     obtain⟨r1,hx1⟩:=get_some hrn
     have hx1':=get_map (g:=BC) hx1
     obtain⟨r2,hx2⟩:=get_some hrn2
     have hx2':=get_map (g:=BC) hx2
     have e1:tab.rows.getD (runM A tab 0 (w.take k)) []=r1:=by simp [hx1]
     have e2:tab.rows.getD (runM A tab 0 (w.take (k+1))) []=r2:=by simp [hx2]
     have hr1b:=hz.rb r1 (List.mem_of_getElem? hx1)
     have hr2b:=hz.rb r2 (List.mem_of_getElem? hx2)
     rw [e1] at hA
     rw [e2] at hsp
     have hq1:Pure Tryz.prog TB 85 [Dq t,eT (r1++w.drop ((k:Nat):Int).toNat)] (eB (A w)):=by
      rw [Int.toNat_natCast,←hA]
      exact hT.ask _ (by simp;omega)
     have ek:(((k:Nat):Int)+1).toNat=k+1:=by omega
     have hq2:Pure Tryz.prog TB 85 [Dq t,eT (r2++w.drop (((k:Nat):Int)+1).toNat)] (eB (A (r2++w.drop (k+1)))):=by
      rw [ek]
      exact hT.ask _ (by simp;omega)
     have hd1:(w.drop ((k:Nat):Int).toNat).length≤1048576:=by simp;omega
     have hd2:(w.drop (((k:Nat):Int)+1).toNat).length≤1048576:=by simp;omega
     (repeat first|refine tA rfl ?_ |refine s2 rfl fun _ _hb=>?_ |refine aU rfl ?_ |refine Aa ?_)
     refine Ak.cond rfl (fun hb=>?_) (fun hb=>?_)<;>cases hb
     rotate_left
     ·exfalso;(simp only[oZ] at *;omega)
     (repeat' first|(refine sA rfl ?_ ?_;first|exact tI|omega) |(refine s4 rfl ‹_› rfl ?_ ?_;omega) |refine s2 rfl fun _ _hb=>?_ |refine sP rfl (hla) rfl ?_|refine sP rfl (hgo) rfl ?_|refine sP rfl (hq1) rfl ?_|refine sP rfl (hq2) rfl ?_|(refine Ag rfl ?_;refine gA rfl ?_;first| refine gS (fun _ _=>Dd rfl rfl (by omega) (by omega)) ?_) |refine aU rfl ?_ |refine Aa ?_ |refine rE (by kernel_rfl) ?_|(refine aC rfl ?_ ?_<;>rintro⟨⟩)|refine aK ?_|refine aE ?_|refine aB ?_|refine aR ⟨_,rfl,?_⟩)
     ·have hn:=hsp.1 (by intro h;rw [h] at _hb;simp at _hb)
      rw [hn]
      show E.t _=E.t _
      rw [ek]
     ·have hs2:=hsp.2 (by simpa using (by simpa using _hb:A w=A (r2++w.drop (k+1))).symm)
      have hA2:A (tab.rows.getD (runM A tab 0 (w.take (k+1))) []++w.drop (k+1))=A w:=by rw [e2];exact(by simpa using _hb:A w=A (r2++w.drop (k+1))).symm
      refine⟨⟨k+1,by omega,hs2,hA2⟩,by dsimp only;(omega),[0],?_⟩
      simp[cX,zC,hΓ]
    ·obtain rfl:k=w.length:=by omega
     rw [List.drop_length] at he
     have hn:R=none:=he
     rw [hn]
     (repeat first|refine tA rfl ?_ |refine s2 rfl fun _ _hb=>?_ |refine aU rfl ?_ |refine Aa ?_)
     refine Ak.cond rfl (fun hb=>?_) (fun hb=>?_)<;>cases hb
     ·exfalso;(simp only[oZ] at *;omega)
     (repeat' first|refine tA rfl ?_ |refine aU rfl ?_ |refine Aa ?_|(refine aC rfl ?_ ?_<;>rintro⟨⟩)|refine aK ?_|refine aE ?_|refine aB ?_|refine aR ⟨_,rfl,?_⟩)
     rfl
  ·have hl:Fz al w=false:=by simpa using hl
   rw [hl] at h2
   have hs:Dx A al tab w=none:=by unfold Dx;rw [hl];simp
   rw [hs]
   refine eG Tryz.func27 rfl (by kernel_rfl) rfl ?_;intro Γ hΓ
   (repeat' first|refine tA rfl ?_ |(refine s2 rfl fun _ _hb=>?_;try (simp only[Bool.not_true,Bool.not_false] at _hb;subst _hb)) |refine sP rfl (h1) rfl ?_|refine sP rfl (h2) rfl ?_ |refine aU rfl ?_ |refine Aa ?_ |refine rE (by kernel_rfl) ?_|(refine aC rfl ?_ ?_<;>rintro⟨⟩)|refine aK ?_|refine aE ?_|refine aB ?_|refine aR ⟨_,rfl,?_⟩)
   all_goals first
    | rfl
    | (exfalso;grind;done)
 ·have hs:Dx A al tab w=none:=by unfold Dx;simp [hv]
  rw [if_neg hv] at h1
  rw [hs]
  refine eG Tryz.func27 rfl (by kernel_rfl) rfl ?_;intro Γ hΓ
  (repeat' first|refine tA rfl ?_ |(refine s2 rfl fun _ _hb=>?_;try (simp only[Bool.not_true,Bool.not_false] at _hb;subst _hb)) |refine sP rfl (h1) rfl ?_ |refine aU rfl ?_ |refine Aa ?_ |refine rE (by kernel_rfl) ?_|(refine aC rfl ?_ ?_<;>rintro⟨⟩)|refine aK ?_|refine aE ?_|refine aB ?_|refine aR ⟨_,rfl,?_⟩)
  all_goals first
   | rfl
   | (exfalso;grind;done)
def EN(A:W→Bool)(al:Int)(t:AZ):Option AZ:=if Bh A al t then A8 A (AR al) 13 t else none
def IM(A:W→Bool)(al:Int)(t:AZ)(w:W):Option AZ:=(Dx A al t w).bind fun v=>(Kz A al t v).bind fun u=>EN A al u
theorem Qy{A:W→Bool}{al:Int}{t:AZ}{w v:W}(h:Dx A al t w=some v):v.length≤w.length:=by
 unfold Dx at h
 split at h
 ·obtain⟨p,_,rfl⟩:=HQ h
  simp
 ·cases h
theorem Wt{A:W→Bool}{al:Int}{t u:AZ}{w:W}(h:Kz A al t w=some u):NV u:=by
 unfold Kz at h
 split at h
 ·rename_i hv
  rw [Bool.and_eq_true] at hv
  have hsh:=(Cz hv.1).1
  have hw:=PX hv.2
  unfold EL at h
  split at h
  ·cases h
  ·injection h with h
   subst h
   have hz:=hsh.sz
   have hcl:=hsh.cl
   refine⟨hz.rl,by simp;omega,hz.rb,fun x hx=>?_⟩
   rcases List.mem_append.1 hx with hx|hx
   ·exact hz.cb x hx
   ·simp at hx;subst hx;omega
 ·cases h
theorem Ma{t:Nb}{al:Int}{A:W→Bool}(hT:Hs Tryz.prog TB 93 85 t al A)(hal:0≤al→BI al=true)(tab:AZ)(hz:NV tab)(w:W)(hw:w.length≤1048576) :
 Pure Tryz.prog TB 43 [Dq t,CB tab,eT w] (Gb (IM A al tab w)):=by
 have h1:=Mh hT hal tab hz w hw
 rcases hs:Dx A al tab w with _|v
 ·have hn:IM A al tab w=none:=by unfold IM;rw [hs];rfl
  rw [hn]
  rw [hs] at h1
  refine eG Tryz.func43 rfl (by kernel_rfl) rfl ?_;intro Γ hΓ
  (repeat' first|refine tA rfl ?_ |(refine s2 rfl fun _ _hb=>?_;try (simp only[Bool.not_true,Bool.not_false] at _hb;subst _hb)) |refine sP rfl (h1) rfl ?_|(refine Ag rfl ?_;refine gA rfl ?_;first| refine gS (fun _ _=>AK rfl rfl (by rfl) (by rfl)) ?_) |refine aU rfl ?_ |refine Aa ?_|(refine aC rfl ?_ ?_<;>rintro⟨⟩)|refine aK ?_|refine aE ?_|refine aB ?_|refine aR ⟨_,rfl,?_⟩)
  all_goals rfl
 ·rw [hs] at h1
  have hv:=Qy hs
  have h2:=LM hT tab hz v (by omega)
  rcases ha:Kz A al tab v with _|u
  ·have hn:IM A al tab w=none:=by unfold IM;rw [hs];simp [ha]
   rw [hn]
   rw [ha] at h2
   refine eG Tryz.func43 rfl (by kernel_rfl) rfl ?_;intro Γ hΓ
   (repeat' first|refine tA rfl ?_ |(refine s2 rfl fun _ _hb=>?_;try (simp only[Bool.not_true,Bool.not_false] at _hb;subst _hb)) |refine sP rfl (h1) rfl ?_|refine sP rfl (h2) rfl ?_|(refine Ag rfl ?_;refine gA rfl ?_;first| refine gS (fun _ _=>AK rfl rfl (by rfl) (by rfl)) ?_) |refine aU rfl ?_ |refine Aa ?_|(refine aC rfl ?_ ?_<;>rintro⟨⟩)|refine aK ?_|refine aE ?_|refine aB ?_|refine aR ⟨_,rfl,?_⟩)
   all_goals rfl
  ·have hn:IM A al tab w=EN A al u:=by unfold IM;rw [hs];simp [ha]
   rw [hn]
   rw [ha] at h2
   have h3:Pure Tryz.prog TB 29 [Dq t,CB u] (Gb (EN A al u)):=Gw hT u (Wt ha)
   rcases hc:EN A al u with _|x<;>rw [hc] at h3<;>(
    refine eG Tryz.func43 rfl (by kernel_rfl) rfl ?_;intro Γ hΓ
    (repeat' first|refine tA rfl ?_ |(refine s2 rfl fun _ _hb=>?_;try (simp only[Bool.not_true,Bool.not_false] at _hb;subst _hb)) |refine sP rfl (h1) rfl ?_|refine sP rfl (h2) rfl ?_|refine sP rfl (h3) rfl ?_|(refine Ag rfl ?_;refine gA rfl ?_;first| refine gS (fun _ _=>AK rfl rfl (by rfl) (by rfl)) ?_) |refine aU rfl ?_ |refine Aa ?_|(refine aC rfl ?_ ?_<;>rintro⟨⟩)|refine aK ?_|refine aE ?_|refine aB ?_|refine aR ⟨_,rfl,?_⟩)
    all_goals rfl)
end Go.Am
namespace Go.Am
open Go
set_option linter.unusedVariables false
theorem H0{p:AP}(hp:AF p=true):Sj (Gg p) (LA p) p.al:=fun w hw hl=>by
 unfold Gg
 rw [hp,FG hw hl (Al hp).1];rfl
theorem TM{A L:W→Bool}{al:Int}{b:Nat}{t:AZ}(h:Sj A L al)(ht:Ev al b t)(hb:b≤20100)(hk:A7 L (AR al) t){w:W}(hw:Ay (AR al) w):Ht A t w=Ht L t w:=by
 rw [←HW (hk.Zz h ht hb) hw,←HW hk hw,Oa h ht hb]
theorem Qx{A L:W→Bool}{al:Int}{b:Nat}{t:AZ}(h:Sj A L al)(ht:Ev al b t)(hb:b≤20100)(hk:A7 L (AR al) t){w:W}(hw:Ay (AR al) w)(hl:w.length≤20000):BT A t w=BT L t w:=by
 have h0:0 < t.rows.length:=(List.getElem?_eq_some_iff.1 hk.r0).1
 unfold BT
 rw [TM h ht hb hk hw,h w hw (by omega),JQ h ht hb hk (L w) w 0 h0 hw hl]
theorem DV{p:AP}(hp:AF p=true){k:Nat}(hk:k≤Bf p):BQ (Gg p) p.al (AW p k)=true:=by
 obtain⟨h1,h2,h3,h4,h5⟩:=Dz hp k hk
 have hbd:=IN hp hk
 have hag:=H0 hp
 have hph:=Al hp
 have h12:=(Ch hp).1
 have hA:=h1.Zz hag hbd (by omega)
 have h0:0≤p.al:=by
  have:=hph.1
  unfold BI at this
  simp at this;omega
 refine KG (Hf hph.1 h0 hA.toTOk h3 (by omega) (fun w hw=>by have:=(hbd.onR w hw).2;omega) (fun w hw=>by have:=h5 w hw;omega)) hA.Kr
theorem Ws{A:W→Bool}{al:Int}{t:AZ}{v:W}(hv:Bh A al t=true)(hl:Fz al v=true)(hn:v∉t.cols)(hc:t.cols.length < 20):Kz A al t v=some ⟨t.rows,t.cols++[v]⟩:=by
 unfold Kz EL
 rw [hv,hl,if_pos (by rfl:(true && true)=true),if_neg]
 intro h
 rcases h with h|h
 ·omega
 ·exact hn h
theorem Ru{al:Int}{w:W}(ha:BI al=true)(hw:Ay (AR al) w)(hl:w.length≤4000):Fz al w=true:=by
 unfold Fz
 rw [FG hw (by omega) ha,decide_eq_true hl];rfl
theorem QB{p:AP}(hp:AF p=true){k:Nat}(hk:k < Bf p){w:W}(hw:HR p (AW p k)=some w):IM (Gg p) p.al (AW p k) w=some (AW p (k+1)):=by
 obtain⟨w',v,hw',hN⟩:=Jw hp hk
 rw [hw] at hw'
 injection hw' with hw'
 subst hw'
 obtain⟨h1,h2,h3,h4,h5⟩:=Dz hp k (by omega)
 obtain⟨g1,g2,g3,g4,g5⟩:=Dz hp (k+1) (by omega)
 have hbd:=IN hp (k:=k) (by omega)
 have hag:=H0 hp
 have hph:=Al hp
 have h12:=(Ch hp).1
 have hcs:=DV hp (k:=k) (by omega)
 have hvs:=(E7 hcs).1
 have hsh:=Hg hw
 obtain⟨hon,hne⟩:=(LG p).on _ w hw h1
 have hlw:=Ru hph.1 hon (by omega)
 have hs:Dx (Gg p) p.al (AW p k) w=some v:=by
  unfold Dx
  rw [hcs,hlw]
  show BT _ _ _=_
  rw [Qx hag hbd (by omega) h1 hon (by omega)]
  unfold BT
  rw [if_neg hne,hN.split]
 obtain⟨q,hq,hqw⟩:=hN.suf
 have hvon:Ay (AR p.al) v:=fun c hc=>hon c (by rw [hqw];simp [hc])
 have hvl:v.length≤144:=by rw [hqw] at hsh;simp at hsh;omega
 have ha:=Ws hvs (Ru hph.1 hvon (by omega)) hN.new (by omega)
 have hbu:Ev p.al 20000 ⟨(AW p k).rows,(AW p k).cols++[v]⟩:=⟨hbd.onR,fun x hx=>by
  rcases List.mem_append.1 hx with hx|hx
  ·exact hbd.onC x hx
  ·simp at hx;subst hx;exact⟨hvon,by omega⟩,hbd.rl,by simp;omega⟩
 have hvu:Bh (Gg p) p.al ⟨(AW p k).rows,(AW p k).cols++[v]⟩=true:=by
  have h0:0≤p.al:=(Cz hvs).1.pos
  refine Hf hph.1 h0 ((h1.toTOk.NW hvon hN.new).Zz hag hbu (by omega)) h3 (by simp;omega) (fun w hw=>by have:=(hbd.onR w hw).2;omega) (fun x hx=>?_)
  rcases List.mem_append.1 hx with hx|hx
  ·have:=h5 x hx;omega
  ·simp at hx;subst hx;omega
 unfold IM EN
 rw [hs]
 simp only [Option.bind_some]
 rw [ha]
 simp only [Option.bind_some]
 rw [if_pos hvu,Hy hag 13 hbu (by omega),hN.close]
theorem Mj{p:AP}(hp:AF p=true):EN (Gg p) p.al Bt=some (AW p 0):=by
 have hag:=H0 hp
 have hph:=Al hp
 have h0:0≤p.al:=(Cz (E7 (DV hp (k:=0) (by omega))).1).1.pos
 have hbd:=Jx p.al
 unfold EN
 rw [if_pos (Hf hph.1 h0 (MT _ _) (by decide) (by decide) (fun w hw=>by have:=(hbd.onR w hw).2;omega) (fun w hw=>by simp [Bt] at hw;subst hw;simp)),Hy hag 13 hbd (by omega)]
 exact(IP hp).1
theorem Tr{p:AP}(hp:AF p=true){k:Nat}(hk:k≤Bf p):AO (Gg p) p.al (AW p k)=AO (LA p) p.al (AW p k):=Oa (H0 hp) (IN hp hk) (by omega)
theorem Sb{p:AP}(hp:AF p=true){k:Nat}(hk:k≤Bf p):NV (AW p k):=(Cz (E7 (DV hp hk)).1).1.sz
end Go.Am
