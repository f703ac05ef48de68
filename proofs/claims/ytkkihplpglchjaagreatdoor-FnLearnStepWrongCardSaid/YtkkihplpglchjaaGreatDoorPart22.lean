/-
  Numbers as texts and back, walked: any that fit will do.
-/
import Derived.Test.YtkkihplpglchjaaGreatDoorPart21
import Derived.Test.YtkkihplpglchjaaGreatDoorPart10
import Derived.Test.YtkkihplpglchjaaGreatDoorPart16
import Derived.Test.YtkkihplpglchjaaGreatDoorPart18
set_option linter.constructorNameAsVariable false
set_option linter.unusedSimpArgs false
set_option linter.unusedVariables false
namespace Go.Am
open Go Go.Proofs
set_option maxHeartbeats 1000000
attribute [local irreducible] A1 BZ Lex Bj Ai Spec
variable {TB:Bh}
abbrev UU(r:Int×Bool):E:=.t [(false,[.d (iD r.1)]),(false,[.d (bD r.2)])]
theorem VC{z:Int}(h:0≤z∧z < 256):[[D.v (.int .u8 z)]]=[UInt8.ofNat z.toNat].map aI:=by
 have h2:z.toNat % 256=z.toNat:=Nat.mod_eq_of_lt (by omega)
 have h3:((z.toNat:Nat):Int)=z:=by omega
 simp [aI,h2,h3]
theorem Gh(n:Int)(hn:0≤n∧n < 100):Spec Tryz.prog TB 204 [] 0 [eI .i64 n] (C1 (fun r:W=>r.length≤3) eT):=by
 refine eR Tryz.func204 rfl (by kernel_rfl) rfl ?_;intro Γ hΓ
 (repeat first|refine tA rfl ?_ |refine s2 rfl fun _ _hb=>?_ |refine aU rfl ?_ |refine Aa ?_)
 ((refine aC rfl ?_ ?_<;>rintro⟨⟩);all_goals try (simp at _hb;done))
 ·exfalso;(simp only[oZ] at *;omega)
 refine aK ?_
 (repeat first|refine tA rfl ?_ |refine s2 rfl fun _ _hb=>?_ |refine aU rfl ?_ |refine Aa ?_)
 ((refine aC rfl ?_ ?_<;>rintro⟨⟩);all_goals try (simp at _hb;done))
 ·exfalso;(simp only[oZ] at *;omega)
 refine aK ?_
 (repeat first|refine tA rfl ?_ |refine aU rfl ?_ |refine Aa ?_)
 refine aB ?_
 refine aL (α:={s:Int×W // (0≤s.1∧s.1 < 100)∧s.2.length≤2∧(9 < s.1→s.2.length≤1)}) [] [] rfl rfl (fun s=>[(0,eI .i64 s.1.1),(3,eT s.1.2)]) (fun s=>[]) 0 (fun s=>s.1.1.toNat) (⟨⟨n,[]⟩,by simp;omega⟩) hΓ rfl (by (simp[cX,zC,hΓ])) ?_;rintro⟨⟨q,w⟩,hq,hw,hw2⟩;(try dsimp only[cA,cB])
 have hq:0≤q∧q < 100:=hq
 have hw:w.length≤2:=hw
 have hw2:9 < q→w.length≤1:=hw2
 (repeat first|refine tA rfl ?_ |refine s2 rfl fun _ _hb=>?_ |refine aU rfl ?_ |refine Aa ?_)
 ((refine aC rfl ?_ ?_<;>rintro⟨⟩);all_goals try (simp at _hb;done))
 ·have hlt:9 < q:=by (simp only[oZ] at *;omega)
  have hw3:=hw2 hlt
  refine aK ?_
  refine aB ?_
  (repeat first|(refine sA rfl ?_ ?_;first|exact tI|omega|simp only[oZ] at *;omega)|(refine Af rfl ?_;refine gA rfl ?_;first| refine gS (fun _ _=>Pd _ rfl (VC (by omega))) ?_) |refine aU rfl ?_ |refine Aa ?_)
  refine⟨⟨⟨q / 10,[UInt8.ofNat (48+q % 10).toNat]++w⟩,⟨by dsimp only;omega,by dsimp only;omega⟩,by simp;omega,fun h9=>by exfalso;dsimp only at h9;omega⟩,by dsimp only;(omega),[],?_⟩
  (simp[cX,zC,hΓ,cN]<;>rfl)
 ·refine aE ?_
  (repeat first|(refine sA rfl ?_ ?_;first|exact tI|omega|simp only[oZ] at *;omega)|(refine Af rfl ?_;refine gA rfl ?_;first| refine gS (fun _ _=>Pd _ rfl (VC (by omega))) ?_) |refine aU rfl ?_ |refine Aa ?_)
  refine aR ⟨_,rfl,[],eT ([UInt8.ofNat (48+q).toNat]++w),[],⟨by intro i hi;omega,by decide⟩,rfl,trivial,[UInt8.ofNat (48+q).toNat]++w,by simp;omega,rfl,rfl,rfl⟩
theorem JK(k:Nat)(hk:k < 17):(10 ^ (k+1):Nat)=10 ^ k*10∧(10 ^ k:Nat)≤100000000000000000:=⟨Nat.pow_succ ..,Nat.le_trans (Nat.pow_le_pow_right (by omega) (Nat.le_of_lt hk)) (by decide)⟩
theorem HP(s0:W)(hs:s0.length≤1000000):Spec Tryz.prog TB 187 [] 0 [eT s0] (C1 (fun _:Int×Bool=>True) UU):=by
  by_cases z0:s0.length=0
  · refine eR Tryz.func187 rfl (by kernel_rfl) rfl ?_;intro Γ hΓ
    (repeat' first|refine tA rfl ?_ |refine s2 rfl fun _ _hb=>?_|(refine Af rfl ?_;refine gA rfl ?_;first| refine gS (fun _ _=>C5 rfl rfl (by omega) (by omega)) ?_) |refine s3 rfl ?_ ?_<;>rintro rfl |refine aU rfl ?_ |refine Aa ?_|(refine aC rfl ?_ ?_<;>rintro⟨⟩)|refine aK ?_)
    all_goals first
      | (exfalso;(simp only[oZ] at *;omega);done)
      | refine aR ⟨_,rfl,[],UU (0,false),[],⟨by intro i hi;omega,by decide⟩,rfl,trivial,(0,false),trivial,rfl,rfl,rfl⟩
  obtain⟨c,h0⟩:=get_some (l:=s0) (k:=(0:Int).toNat) (by simp;omega)
  have h1:1 < s0.length→∃d,(s0.drop (Int.toNat 1))[(0:Int).toNat]? = some d:=fun h=>get_some (by simp;omega)
  have hlen:∀m:Nat,(s0.drop m).length=s0.length - m:=fun m=>List.length_drop
  by_cases z1:s0.length=1
  · refine eR Tryz.func187 rfl (by kernel_rfl) rfl ?_;intro Γ hΓ
    (repeat' first|refine tA rfl ?_ |(refine s4 rfl ‹_› rfl ?_ ?_;omega) |refine s2 rfl fun _ _hb=>?_|(refine Af rfl ?_;refine gA rfl ?_;first| refine gS (fun _ _=>C5 rfl rfl (by omega) (by omega)) ?_) |refine s3 rfl ?_ ?_<;>rintro rfl |refine aU rfl ?_ |refine Aa ?_|(refine aC rfl ?_ ?_<;>rintro⟨⟩)|refine aK ?_)
    all_goals first
      | (exfalso;(simp only[oZ] at *;omega);done)
      | refine aR ⟨_,rfl,[],UU (0,false),[],⟨by intro i hi;omega,by decide⟩,rfl,trivial,(0,false),trivial,rfl,rfl,rfl⟩
      | (exfalso;simp only [oZ,hlen] at *;omega)
      | skip
    · have h17:(s0).length≤17:=by omega
      refine aB ?_
      refine aL (α:={s:Nat×Int // s.1≤(s0).length∧0≤s.2∧s.2 < ((10 ^ s.1:Nat):Int)}) [0,4] [] rfl rfl (fun s=>[(5,eI .i64 s.1.2),(6,eI .i64 s.1.1)]) (fun s=>[]) 0 (fun s=>(s0).length - s.1.1) (⟨⟨0,0⟩,by simp⟩) hΓ rfl (by (simp[cX,zC,hΓ])) ?_;rintro⟨⟨k,n⟩,hk,hn0,hn⟩;(try dsimp only[cA,cB])
      have hk:k≤(s0).length:=hk
      have hn0:0≤n:=hn0
      have hn:n < ((10 ^ k:Nat):Int):=hn
      (repeat first|refine tA rfl ?_ |refine s2 rfl fun _ _hb=>?_ |refine aU rfl ?_ |refine Aa ?_)
      ((refine aC rfl ?_ ?_<;>rintro⟨⟩);all_goals try (simp at _hb;done))
      · have hlt:k < (s0).length:=by (simp only[oZ] at *;omega)
        obtain⟨e,he⟩:=get_some (l:=s0) (k:=(k:Int).toNat) (by omega)
        have hel:=e.toNat_lt
        obtain⟨t1,t2⟩:=JK k (by omega)
        refine aK ?_
        refine aS (aB ?_)
        (repeat' first|(refine sA rfl ?_ ?_;first|exact tI|omega|simp only[oZ] at *;omega) |(refine s4 rfl ‹_› rfl ?_ ?_;omega) |refine s2 rfl fun _ _hb=>?_|(refine Af rfl ?_;refine gA rfl ?_;first| refine gS (fun _ _=>C5 rfl rfl (by omega) (by omega)) ?_) |refine s3 rfl ?_ ?_<;>rintro rfl |refine aU rfl ?_ |refine Aa ?_|(refine aC rfl ?_ ?_<;>rintro⟨⟩)|refine aK ?_)
        all_goals first
          | (exfalso;omega;done)
          | refine aR ⟨_,rfl,[],UU (0,false),[],⟨by intro i hi;omega,by decide⟩,rfl,trivial,(0,false),trivial,rfl,rfl,rfl⟩
          | (refine⟨⟨⟨k+1,n*10+((e.toNat:Int) - 48)⟩,by dsimp only;omega,by dsimp only;(simp only[oZ] at *;omega),by dsimp only;rw [t1];(simp only[oZ] at *;omega)⟩,by dsimp only;(omega),[],?_⟩
             (simp[cX,zC,hΓ,cN]<;>rfl))
      · refine aE ?_
        have hP:(10 ^ k:Nat)≤100000000000000000:=Nat.le_trans (Nat.pow_le_pow_right (by omega) (Nat.le_trans hk h17)) (by decide)
        (repeat' first|refine tA rfl ?_|(refine Af rfl ?_;refine gA rfl ?_;first| refine gS (fun _ _=>QA rfl (IntWalk.i64_in _ (by omega))) ?_) |refine aU rfl ?_ |refine Aa ?_|(refine aC rfl ?_ ?_<;>rintro⟨⟩)|refine aK ?_)
        exact aR ⟨_,rfl,[],UU (n,true),[],⟨fun i hi=>absurd hi (Nat.not_lt_zero i),List.nodup_nil⟩,rfl,trivial,(n,true),trivial,rfl,rfl,rfl⟩
    · have h17:(s0).length≤17:=by omega
      refine aB ?_
      refine aL (α:={s:Nat×Int // s.1≤(s0).length∧0≤s.2∧s.2 < ((10 ^ s.1:Nat):Int)}) [0,4] [] rfl rfl (fun s=>[(5,eI .i64 s.1.2),(6,eI .i64 s.1.1)]) (fun s=>[]) 0 (fun s=>(s0).length - s.1.1) (⟨⟨0,0⟩,by simp⟩) hΓ rfl (by (simp[cX,zC,hΓ])) ?_;rintro⟨⟨k,n⟩,hk,hn0,hn⟩;(try dsimp only[cA,cB])
      have hk:k≤(s0).length:=hk
      have hn0:0≤n:=hn0
      have hn:n < ((10 ^ k:Nat):Int):=hn
      (repeat first|refine tA rfl ?_ |refine s2 rfl fun _ _hb=>?_ |refine aU rfl ?_ |refine Aa ?_)
      ((refine aC rfl ?_ ?_<;>rintro⟨⟩);all_goals try (simp at _hb;done))
      · have hlt:k < (s0).length:=by (simp only[oZ] at *;omega)
        obtain⟨e,he⟩:=get_some (l:=s0) (k:=(k:Int).toNat) (by omega)
        have hel:=e.toNat_lt
        obtain⟨t1,t2⟩:=JK k (by omega)
        refine aK ?_
        refine aS (aB ?_)
        (repeat' first|(refine sA rfl ?_ ?_;first|exact tI|omega|simp only[oZ] at *;omega) |(refine s4 rfl ‹_› rfl ?_ ?_;omega) |refine s2 rfl fun _ _hb=>?_|(refine Af rfl ?_;refine gA rfl ?_;first| refine gS (fun _ _=>C5 rfl rfl (by omega) (by omega)) ?_) |refine s3 rfl ?_ ?_<;>rintro rfl |refine aU rfl ?_ |refine Aa ?_|(refine aC rfl ?_ ?_<;>rintro⟨⟩)|refine aK ?_)
        all_goals first
          | (exfalso;omega;done)
          | refine aR ⟨_,rfl,[],UU (0,false),[],⟨by intro i hi;omega,by decide⟩,rfl,trivial,(0,false),trivial,rfl,rfl,rfl⟩
          | (refine⟨⟨⟨k+1,n*10+((e.toNat:Int) - 48)⟩,by dsimp only;omega,by dsimp only;(simp only[oZ] at *;omega),by dsimp only;rw [t1];(simp only[oZ] at *;omega)⟩,by dsimp only;(omega),[],?_⟩
             (simp[cX,zC,hΓ,cN]<;>rfl))
      · refine aE ?_
        have hP:(10 ^ k:Nat)≤100000000000000000:=Nat.le_trans (Nat.pow_le_pow_right (by omega) (Nat.le_trans hk h17)) (by decide)
        (repeat' first|refine tA rfl ?_|(refine Af rfl ?_;refine gA rfl ?_;first| refine gS (fun _ _=>QA rfl (IntWalk.i64_in _ (by omega))) ?_) |refine aU rfl ?_ |refine Aa ?_|(refine aC rfl ?_ ?_<;>rintro⟨⟩)|refine aK ?_)
        exact aR ⟨_,rfl,[],UU (n,true),[],⟨fun i hi=>absurd hi (Nat.not_lt_zero i),List.nodup_nil⟩,rfl,trivial,(n,true),trivial,rfl,rfl,rfl⟩
  obtain⟨d,h1⟩:=h1 (by omega)
  refine eR Tryz.func187 rfl (by kernel_rfl) rfl ?_;intro Γ hΓ
  (repeat' first|refine tA rfl ?_ |(refine s4 rfl ‹_› rfl ?_ ?_;omega) |refine s2 rfl fun _ _hb=>?_|(refine Af rfl ?_;refine gA rfl ?_;first| refine gS (fun _ _=>C5 rfl rfl (by omega) (by omega)) ?_) |refine s3 rfl ?_ ?_<;>rintro rfl |refine aU rfl ?_ |refine Aa ?_|(refine aC rfl ?_ ?_<;>rintro⟨⟩)|refine aK ?_)
  all_goals first
    | (exfalso;(simp only[oZ] at *;omega);done)
    | refine aR ⟨_,rfl,[],UU (0,false),[],⟨by intro i hi;omega,by decide⟩,rfl,trivial,(0,false),trivial,rfl,rfl,rfl⟩
    | (exfalso;simp only [oZ,hlen] at *;omega)
    | skip
  · have h17:(List.drop (Int.toNat 1) s0).length≤17:=by (simp only[oZ] at *;omega)
    refine aB ?_
    refine aL (α:={s:Nat×Int // s.1≤(List.drop (Int.toNat 1) s0).length∧0≤s.2∧s.2 < ((10 ^ s.1:Nat):Int)}) [0,4] [] rfl rfl (fun s=>[(5,eI .i64 s.1.2),(6,eI .i64 s.1.1)]) (fun s=>[]) 0 (fun s=>(List.drop (Int.toNat 1) s0).length - s.1.1) (⟨⟨0,0⟩,by simp⟩) hΓ rfl (by (simp[cX,zC,hΓ])) ?_;rintro⟨⟨k,n⟩,hk,hn0,hn⟩;(try dsimp only[cA,cB])
    have hk:k≤(List.drop (Int.toNat 1) s0).length:=hk
    have hn0:0≤n:=hn0
    have hn:n < ((10 ^ k:Nat):Int):=hn
    (repeat first|refine tA rfl ?_ |refine s2 rfl fun _ _hb=>?_ |refine aU rfl ?_ |refine Aa ?_)
    ((refine aC rfl ?_ ?_<;>rintro⟨⟩);all_goals try (simp at _hb;done))
    · have hlt:k < (List.drop (Int.toNat 1) s0).length:=by (simp only[oZ] at *;omega)
      obtain⟨e,he⟩:=get_some (l:=List.drop (Int.toNat 1) s0) (k:=(k:Int).toNat) (by omega)
      have hel:=e.toNat_lt
      obtain⟨t1,t2⟩:=JK k (by omega)
      refine aK ?_
      refine aS (aB ?_)
      (repeat' first|(refine sA rfl ?_ ?_;first|exact tI|omega|simp only[oZ] at *;omega) |(refine s4 rfl ‹_› rfl ?_ ?_;omega) |refine s2 rfl fun _ _hb=>?_|(refine Af rfl ?_;refine gA rfl ?_;first| refine gS (fun _ _=>C5 rfl rfl (by omega) (by omega)) ?_) |refine s3 rfl ?_ ?_<;>rintro rfl |refine aU rfl ?_ |refine Aa ?_|(refine aC rfl ?_ ?_<;>rintro⟨⟩)|refine aK ?_)
      all_goals first
        | (exfalso;omega;done)
        | refine aR ⟨_,rfl,[],UU (0,false),[],⟨by intro i hi;omega,by decide⟩,rfl,trivial,(0,false),trivial,rfl,rfl,rfl⟩
        | (refine⟨⟨⟨k+1,n*10+((e.toNat:Int) - 48)⟩,by dsimp only;omega,by dsimp only;(simp only[oZ] at *;omega),by dsimp only;rw [t1];(simp only[oZ] at *;omega)⟩,by dsimp only;(omega),[],?_⟩
           (simp[cX,zC,hΓ,cN]<;>rfl))
    · refine aE ?_
      have hP:(10 ^ k:Nat)≤100000000000000000:=Nat.le_trans (Nat.pow_le_pow_right (by omega) (Nat.le_trans hk h17)) (by decide)
      (repeat' first|refine tA rfl ?_|(refine Af rfl ?_;refine gA rfl ?_;first| refine gS (fun _ _=>QA rfl (IntWalk.i64_in _ (by omega))) ?_) |refine aU rfl ?_ |refine Aa ?_|(refine aC rfl ?_ ?_<;>rintro⟨⟩)|refine aK ?_)
      exact aR ⟨_,rfl,[],UU (-n,true),[],⟨fun i hi=>absurd hi (Nat.not_lt_zero i),List.nodup_nil⟩,rfl,trivial,(-n,true),trivial,rfl,rfl,rfl⟩
  · have h17:(s0).length≤17:=by (simp only[oZ] at *;omega)
    refine aB ?_
    refine aL (α:={s:Nat×Int // s.1≤(s0).length∧0≤s.2∧s.2 < ((10 ^ s.1:Nat):Int)}) [0,4] [] rfl rfl (fun s=>[(5,eI .i64 s.1.2),(6,eI .i64 s.1.1)]) (fun s=>[]) 0 (fun s=>(s0).length - s.1.1) (⟨⟨0,0⟩,by simp⟩) hΓ rfl (by (simp[cX,zC,hΓ])) ?_;rintro⟨⟨k,n⟩,hk,hn0,hn⟩;(try dsimp only[cA,cB])
    have hk:k≤(s0).length:=hk
    have hn0:0≤n:=hn0
    have hn:n < ((10 ^ k:Nat):Int):=hn
    (repeat first|refine tA rfl ?_ |refine s2 rfl fun _ _hb=>?_ |refine aU rfl ?_ |refine Aa ?_)
    ((refine aC rfl ?_ ?_<;>rintro⟨⟩);all_goals try (simp at _hb;done))
    · have hlt:k < (s0).length:=by (simp only[oZ] at *;omega)
      obtain⟨e,he⟩:=get_some (l:=s0) (k:=(k:Int).toNat) (by omega)
      have hel:=e.toNat_lt
      obtain⟨t1,t2⟩:=JK k (by omega)
      refine aK ?_
      refine aS (aB ?_)
      (repeat' first|(refine sA rfl ?_ ?_;first|exact tI|omega|simp only[oZ] at *;omega) |(refine s4 rfl ‹_› rfl ?_ ?_;omega) |refine s2 rfl fun _ _hb=>?_|(refine Af rfl ?_;refine gA rfl ?_;first| refine gS (fun _ _=>C5 rfl rfl (by omega) (by omega)) ?_) |refine s3 rfl ?_ ?_<;>rintro rfl |refine aU rfl ?_ |refine Aa ?_|(refine aC rfl ?_ ?_<;>rintro⟨⟩)|refine aK ?_)
      all_goals first
        | (exfalso;omega;done)
        | refine aR ⟨_,rfl,[],UU (0,false),[],⟨by intro i hi;omega,by decide⟩,rfl,trivial,(0,false),trivial,rfl,rfl,rfl⟩
        | (refine⟨⟨⟨k+1,n*10+((e.toNat:Int) - 48)⟩,by dsimp only;omega,by dsimp only;(simp only[oZ] at *;omega),by dsimp only;rw [t1];(simp only[oZ] at *;omega)⟩,by dsimp only;(omega),[],?_⟩
           (simp[cX,zC,hΓ,cN]<;>rfl))
    · refine aE ?_
      have hP:(10 ^ k:Nat)≤100000000000000000:=Nat.le_trans (Nat.pow_le_pow_right (by omega) (Nat.le_trans hk h17)) (by decide)
      (repeat' first|refine tA rfl ?_|(refine Af rfl ?_;refine gA rfl ?_;first| refine gS (fun _ _=>QA rfl (IntWalk.i64_in _ (by omega))) ?_) |refine aU rfl ?_ |refine Aa ?_|(refine aC rfl ?_ ?_<;>rintro⟨⟩)|refine aK ?_)
      exact aR ⟨_,rfl,[],UU (n,true),[],⟨fun i hi=>absurd hi (Nat.not_lt_zero i),List.nodup_nil⟩,rfl,trivial,(n,true),trivial,rfl,rfl,rfl⟩
abbrev cp(r:List Int×Bool):E:=.t [(false,[.d (Ez r.1)]),(false,[.d (bD r.2)])]
theorem RA(w0:W)(hs:w0.length≤1000000):Spec Tryz.prog TB 190 [] 0 [eT w0] (C1 (fun r:List Int×Bool=>r.1.length≤w0.length+1) cp):=by
 refine eR Tryz.func190 rfl (by kernel_rfl) rfl ?_;intro Γ hΓ
 (repeat first|refine tX rfl ?_ |refine aU rfl ?_ |refine Aa ?_)
 (refine pW rfl ?_ rfl (by rfl);refine Ba rfl rfl rfl rfl (by simp) (by rfl) (by rfl) (by rfl) (by rfl) ?_)
 (repeat first|refine tX rfl ?_ |refine s2 rfl fun _ _hb=>?_ |refine aU rfl ?_ |refine Aa ?_)
 (refine aC rfl ?_ ?_<;>rintro⟨⟩)
 ·(repeat first|refine tX rfl ?_ |refine aU rfl ?_ |refine Aa ?_)
  refine Ai.settle [(2,Ay []),(3,eB true)] ⟨⟨_,rfl,.o (.full rfl (by simp) (by simp))⟩,⟨_,rfl,.o .d⟩,trivial⟩ ?_
  exact aR ⟨_,rfl,[],cp ([],true),[],⟨fun i hi=>absurd hi (Nat.not_lt_zero i),List.nodup_nil⟩,rfl,trivial,([],true),Nat.zero_le _,rfl,rfl,rfl⟩
 refine aK ?_
 (repeat first|refine tA rfl ?_ |refine aU rfl ?_)
 (refine pW rfl ?_ rfl (by rfl);refine Ae [] rfl rfl (Kd (TB:=TB) w0 hs 44) ⟨rfl,by decide,by decide⟩ rfl trivial ?_;rintro x0 σ1 nx1 ⟨ps,⟨hp1,hp2,hp3⟩,rfl,rfl,rfl⟩ _)
 (repeat first|refine tA rfl ?_ |refine aU rfl ?_ |refine Aa ?_)
 refine aB ?_
 refine aL (α:={z:Nat×List Int // z.1≤ps.length∧z.2.length=z.1}) [5] [] rfl rfl (fun s=>[(4,.o (.arr 0 1 0 s.1.2.length)),(6,eI .i64 s.1.1)]) (fun s=>[(0,.cells 3 1 (s.1.2.map AQ))]) 1 (fun s=>ps.length - s.1.1) (⟨⟨0,[]⟩,by simp⟩) hΓ rfl (by (simp[cX,zC,hΓ])) ?_;rintro⟨⟨k,r⟩,hk,hr⟩;(try dsimp only[cA,cB])
 have hk:k≤ps.length:=hk
 have hr:r.length=k:=hr
 (repeat first|refine sN rfl ?_ |refine tA rfl ?_ |refine s2 rfl fun _ _hb=>?_ |refine aU rfl ?_ |refine Aa ?_)
 ((refine aC rfl ?_ ?_<;>rintro⟨⟩);all_goals try (simp at _hb;done))
 ·have hlt:k < ps.length:=by (simp only[oZ] at *;omega)
  obtain⟨w,hw⟩:=get_some (l:=ps) (k:=k) hlt
  have hw':=get_map (g:=BD) hw
  have hwl:=hp3 w (List.mem_of_getElem? hw)
  refine aK ?_
  refine aS (aB ?_)
  (repeat first|refine tA rfl ?_ |(refine s4 rfl ‹_› rfl ?_ ?_;omega) |refine aU rfl ?_)
  (refine pW rfl ?_ rfl (by rfl);refine Ae [] rfl rfl (HP (TB:=TB) w (by omega)) ⟨rfl,by decide,by decide⟩ rfl trivial ?_;rintro x0 σ1 nx1 ⟨⟨n,ok⟩,_,rfl,rfl,rfl⟩ _)
  (repeat first|refine tA rfl ?_ |refine s2 rfl fun _ _hb=>?_ |refine aU rfl ?_ |refine Aa ?_)
  (refine aC rfl ?_ ?_<;>rintro⟨⟩)
  ·(repeat first|refine tA rfl ?_ |refine aU rfl ?_ |refine Aa ?_)
   exact aR ⟨_,rfl,[],cp ([],false),[],⟨fun i hi=>absurd hi (Nat.not_lt_zero i),List.nodup_nil⟩,rfl,trivial,([],false),Nat.zero_le _,rfl,rfl,rfl⟩
  refine aK ?_
  (repeat first|refine tA rfl ?_ |refine aU rfl ?_)
  (refine pW rfl ?_ rfl (by rfl);refine Ax rfl rfl rfl (by first| (simp;done)|(simp;(omega))) rfl (by intro r hr;simp at hr;subst hr;rfl) (by rfl) (Nat.le_of_ble_eq_true rfl) (by simp;omega) ?_)
  (repeat first|(refine sA rfl ?_ ?_;first|exact tI|omega) |refine aU rfl ?_ |refine Aa ?_)
  refine⟨⟨⟨k+1,r++[n]⟩,by dsimp only;omega,by simp;omega⟩,by dsimp only;(omega),[1],?_⟩
  (simp[cX,zC,hΓ,cN]<;>rfl)
 ·refine aE ?_
  (repeat first|refine tA rfl ?_ |refine aU rfl ?_ |refine Aa ?_)
  refine Ai.settle [(2,Ay r),(3,eB true)] ⟨⟨_,rfl,.o (.full rfl (by simp [Function.comp_def]) (by simp))⟩,⟨_,rfl,.o .d⟩,trivial⟩ ?_
  exact aR ⟨_,rfl,[],cp (r,true),[],⟨fun i hi=>absurd hi (Nat.not_lt_zero i),List.nodup_nil⟩,rfl,trivial,(r,true),by show r.length≤_;omega,rfl,rfl,rfl⟩
theorem EY(a:BT):Spec Tryz.prog TB 191 [] 0 [BL a] (C1 (fun r:W=>r.length≤1000) eT):=by
 refine eR Tryz.func191 rfl (by kernel_rfl) rfl ?_;intro Γ hΓ
 (repeat first|refine tA rfl ?_ |refine s2 rfl fun _ _hb=>?_ |(refine sC rfl (Bg a) ?_;intro _ _hb) |refine aU rfl ?_ |refine Aa ?_)
 (refine aC rfl ?_ ?_<;>rintro⟨⟩)
 ·(repeat first|refine tA rfl ?_ |refine aU rfl ?_ |refine Aa ?_)
  exact aR ⟨_,rfl,[],eT [],[],⟨fun i hi=>absurd hi (Nat.not_lt_zero i),List.nodup_nil⟩,rfl,trivial,[],Nat.zero_le _,rfl,rfl,rfl⟩
 have hok:A5 a=true:=by (simp at _hb;subst _hb;assumption)
 obtain⟨_,hn1,hn2,hac⟩:=AI hok
 have hla:(Ac a.al).length≤6:=AR a.al 6
 refine aK ?_
 (repeat first|refine tA rfl ?_ |refine aU rfl ?_)
 (refine pW rfl ?_ rfl (by rfl);refine Ae [] rfl rfl (DO (TB:=TB) a.al) ⟨rfl,by decide,by decide⟩ rfl trivial ?_;rintro x0 σ1 nx1 ⟨w0,hw0,rfl,rfl,rfl⟩ _)
 (repeat first|refine tA rfl ?_ |refine aU rfl ?_ |refine Aa ?_)
 refine aB ?_
 refine aL (α:={z:Nat×W // z.1≤a.nx.length∧z.2.length≤6+30*z.1}) [1] [] rfl rfl (fun s=>[(3,eT s.1.2),(4,eI .i64 s.1.1)]) (fun s=>[]) 0 (fun s=>a.nx.length - s.1.1) (⟨⟨0,w0⟩,by simp;omega⟩) hΓ rfl (by (simp[cX,zC,hΓ])) ?_;rintro⟨⟨k,w⟩,hk,hw⟩;(try dsimp only[cA,cB])
 have hk:k≤a.nx.length:=hk
 have hw:w.length≤6+30*k:=hw
 (repeat first|refine sN rfl ?_ |refine tA rfl ?_ |refine s2 rfl fun _ _hb=>?_ |refine aU rfl ?_ |refine Aa ?_)
 ((refine aC rfl ?_ ?_<;>rintro⟨⟩);all_goals try (simp at _hb;done))
 ·have hlt:k < a.nx.length:=by (simp only[oZ] at *;omega)
  obtain⟨row,hrow,hrl,hrv⟩:=HI hok hlt
  have hrow':=get_map (g:=fun r:List Int=>[Ez r]) hrow
  obtain⟨b,hb⟩:=get_some (l:=a.ac) (k:=k) (by omega)
  have hb':=get_map (g:=Ja) hb
  refine aK ?_
  refine aS (aB ?_)
  (repeat first|refine tA rfl ?_ |(refine s4 rfl ‹_› rfl ?_ ?_;omega) |refine aU rfl ?_ |refine Aa ?_)
  (refine aC rfl ?_ ?_<;>rintro⟨⟩)
  ·(repeat first|(refine sA rfl ?_ ?_;first|exact tI|simp only[oZ] at *;omega) |refine aU rfl ?_ |refine Aa ?_)
   refine aB ?_
   refine aL (α:={z:Nat×W // z.1≤row.length∧z.2.length≤8+30*k+4*z.1}) [1,4] [] rfl rfl (fun s=>[(3,eT s.1.2),(6,eI .i64 s.1.1)]) (fun s=>[]) 0 (fun s=>row.length - s.1.1) (⟨⟨0,w++[32,43]⟩,by dsimp only;omega,by simp;omega⟩) hΓ rfl (by (simp[cX,zC,hΓ])) ?_;rintro⟨⟨j,v⟩,hj,hv⟩;(try dsimp only[cA,cB])
   have hj:j≤row.length:=hj
   have hv:v.length≤8+30*k+4*j:=hv
   (repeat first|refine sN rfl ?_ |refine tA rfl ?_ |(refine s4 rfl ‹_› rfl ?_ ?_;omega) |refine s2 rfl fun _ _hb=>?_ |refine aU rfl ?_ |refine Aa ?_)
   ((refine aC rfl ?_ ?_<;>rintro⟨⟩);all_goals try (simp at _hb;done))
   ·have hjl:j < row.length:=by (simp only[oZ] at *;omega)
    obtain⟨x,hx⟩:=get_some (l:=row) (k:=j) hjl
    have hx':=get_map (g:=Bv) hx
    have hxv:=hrv j x hx
    have hdec:=Gh (TB:=TB) x (by omega)
    refine aK ?_
    refine aS (aB ?_)
    (repeat first|refine tA rfl ?_ |refine s2 rfl fun _ _hb=>?_ |refine aU rfl ?_ |refine Aa ?_)
    (refine aC rfl ?_ ?_<;>rintro⟨⟩)
    ·(repeat first|(refine sA rfl ?_ ?_;first|exact tI|simp only[oZ] at *;omega) |(refine s4 rfl ‹_› rfl ?_ ?_;omega) |refine aU rfl ?_ |refine Aa ?_)
     (refine pW rfl ?_ rfl (by rfl);refine Ae [] rfl rfl (hdec) ⟨rfl,by decide,by decide⟩ rfl trivial ?_;rintro x0 σ1 nx1 ⟨d,hd,rfl,rfl,rfl⟩ _)
     (repeat first|(refine sA rfl ?_ ?_;first|exact tI|omega|simp only[oZ] at *;omega) |refine aU rfl ?_ |refine Aa ?_)
     refine⟨⟨⟨j+1,v++[44]++d⟩,by dsimp only;omega,by simp;omega⟩,by dsimp only;(omega),[],?_⟩
     (simp[cX,zC,hΓ,cN]<;>rfl)
    ·refine aK ?_
     (repeat first|refine tA rfl ?_ |(refine s4 rfl ‹_› rfl ?_ ?_;omega) |refine aU rfl ?_)
     (refine pW rfl ?_ rfl (by rfl);refine Ae [] rfl rfl (hdec) ⟨rfl,by decide,by decide⟩ rfl trivial ?_;rintro x0 σ1 nx1 ⟨d,hd,rfl,rfl,rfl⟩ _)
     (repeat first|(refine sA rfl ?_ ?_;first|exact tI|omega) |refine aU rfl ?_ |refine Aa ?_)
     refine⟨⟨⟨j+1,v++d⟩,by dsimp only;omega,by simp;omega⟩,by dsimp only;(omega),[],?_⟩
     (simp[cX,zC,hΓ,cN]<;>rfl)
   ·refine aE ?_
    (repeat first|(refine sA rfl ?_ ?_;first|exact tI|omega) |refine aU rfl ?_ |refine Aa ?_)
    refine⟨⟨⟨k+1,v⟩,by dsimp only;omega,by dsimp only;omega⟩,by dsimp only;(omega),[],?_⟩
    (simp[cX,zC,hΓ,cN]<;>rfl)
  ·refine aK ?_
   (repeat first|(refine sA rfl ?_ ?_;first|exact tI|simp only[oZ] at *;omega) |refine aU rfl ?_ |refine Aa ?_)
   refine aB ?_
   refine aL (α:={z:Nat×W // z.1≤row.length∧z.2.length≤8+30*k+4*z.1}) [1,4] [] rfl rfl (fun s=>[(3,eT s.1.2),(6,eI .i64 s.1.1)]) (fun s=>[]) 0 (fun s=>row.length - s.1.1) (⟨⟨0,w++[32,45]⟩,by dsimp only;omega,by simp;omega⟩) hΓ rfl (by (simp[cX,zC,hΓ])) ?_;rintro⟨⟨j,v⟩,hj,hv⟩;(try dsimp only[cA,cB])
   have hj:j≤row.length:=hj
   have hv:v.length≤8+30*k+4*j:=hv
   (repeat first|refine sN rfl ?_ |refine tA rfl ?_ |(refine s4 rfl ‹_› rfl ?_ ?_;omega) |refine s2 rfl fun _ _hb=>?_ |refine aU rfl ?_ |refine Aa ?_)
   ((refine aC rfl ?_ ?_<;>rintro⟨⟩);all_goals try (simp at _hb;done))
   ·have hjl:j < row.length:=by (simp only[oZ] at *;omega)
    obtain⟨x,hx⟩:=get_some (l:=row) (k:=j) hjl
    have hx':=get_map (g:=Bv) hx
    have hxv:=hrv j x hx
    have hdec:=Gh (TB:=TB) x (by omega)
    refine aK ?_
    refine aS (aB ?_)
    (repeat first|refine tA rfl ?_ |refine s2 rfl fun _ _hb=>?_ |refine aU rfl ?_ |refine Aa ?_)
    (refine aC rfl ?_ ?_<;>rintro⟨⟩)
    ·(repeat first|(refine sA rfl ?_ ?_;first|exact tI|simp only[oZ] at *;omega) |(refine s4 rfl ‹_› rfl ?_ ?_;omega) |refine aU rfl ?_ |refine Aa ?_)
     (refine pW rfl ?_ rfl (by rfl);refine Ae [] rfl rfl (hdec) ⟨rfl,by decide,by decide⟩ rfl trivial ?_;rintro x0 σ1 nx1 ⟨d,hd,rfl,rfl,rfl⟩ _)
     (repeat first|(refine sA rfl ?_ ?_;first|exact tI|omega|simp only[oZ] at *;omega) |refine aU rfl ?_ |refine Aa ?_)
     refine⟨⟨⟨j+1,v++[44]++d⟩,by dsimp only;omega,by simp;omega⟩,by dsimp only;(omega),[],?_⟩
     (simp[cX,zC,hΓ,cN]<;>rfl)
    ·refine aK ?_
     (repeat first|refine tA rfl ?_ |(refine s4 rfl ‹_› rfl ?_ ?_;omega) |refine aU rfl ?_)
     (refine pW rfl ?_ rfl (by rfl);refine Ae [] rfl rfl (hdec) ⟨rfl,by decide,by decide⟩ rfl trivial ?_;rintro x0 σ1 nx1 ⟨d,hd,rfl,rfl,rfl⟩ _)
     (repeat first|(refine sA rfl ?_ ?_;first|exact tI|omega) |refine aU rfl ?_ |refine Aa ?_)
     refine⟨⟨⟨j+1,v++d⟩,by dsimp only;omega,by simp;omega⟩,by dsimp only;(omega),[],?_⟩
     (simp[cX,zC,hΓ,cN]<;>rfl)
   ·refine aE ?_
    (repeat first|(refine sA rfl ?_ ?_;first|exact tI|omega) |refine aU rfl ?_ |refine Aa ?_)
    refine⟨⟨⟨k+1,v⟩,by dsimp only;omega,by dsimp only;omega⟩,by dsimp only;(omega),[],?_⟩
    (simp[cX,zC,hΓ,cN]<;>rfl)
 ·refine aE ?_
  (repeat first|refine tA rfl ?_ |refine aU rfl ?_ |refine Aa ?_)
  exact aR ⟨_,rfl,[],eT w,[],⟨fun i hi=>absurd hi (Nat.not_lt_zero i),List.nodup_nil⟩,rfl,trivial,w,by show w.length≤_;omega,rfl,rfl,rfl⟩
abbrev YP(r:BT×Bool):E:=.t [(true,[.d (iD r.1.al),.d (CX r.1.nx),.d (Fu r.1.ac)]),(false,[.d (bD r.2)])]
def QG(n:Int):List (List Int)→List Bool→Ab
 | [],_=>[(1,.cells 26 3 [[.d (iD n),.d (.v (.slice none 0 0)),.d (.v (.slice none 0 0))]])]
 | r::l,ac=>[(1,.cells 26 3 [[.d (iD n),.arr 2 1 0 (l.length+1),.arr 3 1 0 ac.length]]),(2,.cells 90 1 ((r::l).map Rq)),(3,.cells 4 1 (ac.map AZ))]
theorem Ft(w0:W)(hs:w0.length≤10000):Spec Tryz.prog TB 156 [] 0 [eT w0] (C1 (fun r:BT×Bool=>GY (w0.length+1) r.1) YP):=by
 have hb0:GY (w0.length+1) ⟨0,[],[]⟩:=⟨Nat.zero_le _,Nat.zero_le _,fun r hr=>by cases hr⟩
 refine eR Tryz.func156 rfl (by kernel_rfl) rfl ?_;intro Γ hΓ
 (repeat first|refine tA rfl ?_ |refine aU rfl ?_ |refine Aa ?_)
 (refine pW rfl ?_ rfl (by rfl);refine Ae [] rfl rfl (Kd (TB:=TB) w0 (by omega) 32) ⟨rfl,by decide,by decide⟩ rfl trivial ?_;rintro x0 σ1 nx1 ⟨ps,⟨hp1,hp2,hp3⟩,rfl,rfl,rfl⟩ _)
 obtain⟨p0,h0⟩:=get_some (l:=ps) (k:=(0:Int).toNat) (by simp;omega)
 have h0':=get_map (g:=BD) h0
 (repeat first|refine tA rfl ?_ |(refine s4 rfl ‹_› rfl ?_ ?_;omega) |refine aU rfl ?_ |refine Aa ?_)
 (refine pW rfl ?_ rfl (by rfl);refine Ae [] rfl rfl (FR (TB:=TB) p0) ⟨rfl,by decide,by decide⟩ rfl trivial ?_;rintro x0 σ1 nx1 ⟨⟨n,ok⟩,_,rfl,rfl,rfl⟩ _)
 (repeat first|refine tA rfl ?_ |refine s2 rfl fun _ _hb=>?_ |refine aU rfl ?_ |refine Aa ?_)
 (refine aC rfl ?_ ?_<;>rintro⟨⟩)
 ·(repeat first|refine tA rfl ?_|(refine Af rfl ?_;refine gA rfl ?_;first| refine gS (fun _ _=>Av rfl rfl (by rfl) (by rfl)) ?_) |refine aU rfl ?_ |refine Aa ?_)
  exact aR ⟨_,rfl,[],YP (⟨0,[],[]⟩,false),[],⟨fun i hi=>absurd hi (Nat.not_lt_zero i),List.nodup_nil⟩,rfl,trivial,(⟨0,[],[]⟩,false),hb0,rfl,rfl,rfl⟩
 refine aK ?_
 by_cases hp9:ps.length=1
 ·(repeat first|refine tA rfl ?_|(refine Af rfl ?_;refine gA rfl ?_;first| refine gS (fun _ _=>Av rfl rfl (by rfl) (by rfl)) ?_) |refine aU rfl ?_ |refine Aa ?_)
  refine aB ?_
  refine aL (α:={k:Nat // k=1}) [0,3] [] rfl rfl (fun s=>[(2,.o (.ptr 0 3 0 0)),(4,Bp ps),(7,.o (.ptr 1 3 0 0)),(8,eI .i64 s.1)]) (fun s=>[(0,.cells 26 3 [[.d (iD 0),.d (.l []),.d (.l [])]]),(1,.cells 26 3 [[.d (iD n),.d (.l []),.d (.l [])]])]) 2 (fun s=>0) (⟨1,rfl⟩) hΓ rfl (by (simp[cX,zC,hΓ,cN])) ?_;rintro⟨k,hk⟩;(try dsimp only[cA,cB])
  (repeat first|refine sN rfl ?_ |refine tA rfl ?_ |refine s2 rfl fun _ _hb=>?_ |refine aU rfl ?_ |refine Aa ?_)
  ((refine aC rfl ?_ ?_<;>rintro⟨⟩);all_goals try (simp at _hb;done))
  ·exfalso;(simp only[oZ] at *;omega)
  refine aE ?_
  (repeat first|refine tA rfl ?_ |refine aU rfl ?_)
  (refine pW rfl ?_ rfl (by rfl);refine Ae [] rfl rfl (EY (TB:=TB) ⟨n,[],[]⟩) ⟨rfl,by decide,by decide⟩ rfl trivial ?_;rintro x0 σ1 nx1 ⟨w9,hw9,rfl,rfl,rfl⟩ _)
  (repeat first|refine tA rfl ?_ |refine s2 rfl fun _ _hb=>?_ |refine Aa ?_)
  (refine aC rfl ?_ ?_<;>rintro⟨⟩)
  ·(repeat first|refine tA rfl ?_|(refine Af rfl ?_;refine gA rfl ?_;first| refine gS (fun _ _=>Av rfl rfl (by rfl) (by rfl)) ?_) |refine aU rfl ?_ |refine Aa ?_)
   exact aR ⟨_,rfl,[],YP (⟨0,[],[]⟩,false),[],⟨fun i hi=>absurd hi (Nat.not_lt_zero i),List.nodup_nil⟩,rfl,trivial,(⟨0,[],[]⟩,false),hb0,rfl,rfl,rfl⟩
  refine aK ?_
  (repeat first|refine tA rfl ?_ |refine aU rfl ?_ |refine Aa ?_)
  exact aR ⟨_,rfl,[],YP (⟨n,[],[]⟩,true),[],⟨fun i hi=>absurd hi (Nat.not_lt_zero i),List.nodup_nil⟩,rfl,trivial,(⟨n,[],[]⟩,true),⟨Nat.zero_le _,Nat.zero_le _,fun r hr=>by cases hr⟩,rfl,rfl,rfl⟩
 (repeat first|refine tA rfl ?_|(refine Af rfl ?_;refine gA rfl ?_;first| refine gS (fun _ _=>MD rfl rfl (by rfl) (by rfl)) ?_) |refine aU rfl ?_ |refine Aa ?_)
 refine aB ?_
 refine aL (α:={z:Nat×List (List Int)×List Bool // (1≤z.1∧z.1≤ps.length)∧z.2.1.length+1=z.1∧z.2.2.length+1=z.1∧∀r∈z.2.1,r.length≤w0.length+1}) [0,3] [] rfl rfl (fun s=>[(2,.o (.ptr 0 3 0 0)),(4,Bp ps),(7,.o (.ptr 1 3 0 0)),(8,eI .i64 s.1.1)]) (fun s=>((0,.cells 26 3 [[.d (iD 0),.d (.l []),.d (.l [])]])::QG n s.1.2.1 s.1.2.2)) 4 (fun s=>ps.length - s.1.1) (⟨⟨1,[],[]⟩,by simp;omega⟩) hΓ rfl (by (simp[cX,zC,hΓ,QG,cN])) ?_;rintro⟨⟨k,l,ac⟩,hk,hl,hac,hr⟩;(try dsimp only[cA,cB])
 have hk:1≤k∧k≤ps.length:=hk
 have hl:l.length+1=k:=hl
 have hac:ac.length+1=k:=hac
 (repeat first|refine sN rfl ?_ |refine tA rfl ?_ |refine s2 rfl fun _ _hb=>?_ |refine aU rfl ?_ |refine Aa ?_)
 ((refine aC rfl ?_ ?_<;>rintro⟨⟩);all_goals try (simp at _hb;done))
 ·have hlt:k < ps.length:=by (simp only[oZ] at *;omega)
  obtain⟨w,hw⟩:=get_some (l:=ps) (k:=k) hlt
  have hw':=get_map (g:=BD) hw
  have hwl:=hp3 w (List.mem_of_getElem? hw)
  refine aK ?_
  refine aS (aB ?_)
  (repeat first|refine tA rfl ?_ |(refine s4 rfl ‹_› rfl ?_ ?_;omega) |refine s2 rfl fun _ _hb=>?_ |refine aU rfl ?_ |refine Aa ?_)
  (refine aC rfl ?_ ?_<;>rintro⟨⟩)
  ·(repeat first|refine tA rfl ?_|(refine Af rfl ?_;refine gA rfl ?_;first| refine gS (fun _ _=>Av rfl rfl (by rfl) (by rfl)) ?_) |refine aU rfl ?_ |refine Aa ?_)
   exact aR ⟨_,rfl,[],YP (⟨0,[],[]⟩,false),[],⟨fun i hi=>absurd hi (Nat.not_lt_zero i),List.nodup_nil⟩,rfl,trivial,(⟨0,[],[]⟩,false),hb0,rfl,rfl,rfl⟩
  have hwp:0 < w.length:=by (simp at _hb;exact List.length_pos_iff.2 _hb)
  obtain⟨e,he⟩:=get_some (l:=w) (k:=(0:Int).toNat) (by simp;omega)
  refine aK ?_
  (repeat first|refine tA rfl ?_ |(refine s4 rfl ‹_› rfl ?_ ?_;omega)|(refine Af rfl ?_;refine gA rfl ?_;first| refine gS (fun _ _=>C5 rfl rfl (by omega) (by omega)) ?_) |refine aU rfl ?_)
  (refine pW rfl ?_ rfl (by rfl);refine Ae [] rfl rfl (RA (TB:=TB) (w.drop (Int.toNat 1)) (by simp;omega)) ⟨rfl,by decide,by decide⟩ rfl trivial ?_;rintro x0 σ1 nx1 ⟨⟨r,ok2⟩,hrl,rfl,rfl,rfl⟩ _)
  have hrl:r.length≤w0.length+1:=Nat.le_trans hrl (by simp;omega)
  (repeat first|refine tA rfl ?_ |refine s2 rfl fun _ _hb=>?_ |refine aU rfl ?_ |refine Aa ?_)
  (refine aC rfl ?_ ?_<;>rintro⟨⟩)
  ·(repeat first|refine tA rfl ?_|(refine Af rfl ?_;refine gA rfl ?_;first| refine gS (fun _ _=>Av rfl rfl (by rfl) (by rfl)) ?_) |refine aU rfl ?_ |refine Aa ?_)
   exact aR ⟨_,rfl,[],YP (⟨0,[],[]⟩,false),[],⟨fun i hi=>absurd hi (Nat.not_lt_zero i),List.nodup_nil⟩,rfl,trivial,(⟨0,[],[]⟩,false),hb0,rfl,rfl,rfl⟩
  refine aK ?_
  have hr2:∀x∈l++[r],x.length≤w0.length+1:=fun x hx=>by
   rcases List.mem_append.1 hx with hx|hx
   ·exact hr x hx
   ·simp at hx;subst hx;exact hrl
  cases l with
  | nil=>
   obtain rfl:ac=[]:=List.length_eq_zero_iff.1 (by simp at hl;omega)
   (repeat first|refine tA rfl ?_ |refine aU rfl ?_)
   (refine pW rfl ?_ rfl (by rfl);refine Qn 50 rfl ?_;refine CC rfl rfl rfl (by intro r hr;simp at hr;subst hr;rfl) (by rfl) (Nat.le_of_ble_eq_true rfl) (by simp) (fun h=>?_) (fun _=>?_))
   ·exact absurd h (by simp)
   (repeat first|refine tA rfl ?_)
   refine Aa ?_
   refine rG (HN [9,11]) (by kernel_rfl) ?_
   (repeat first|refine tA rfl ?_ |(refine s4 rfl ‹_› rfl ?_ ?_;omega) |refine s2 rfl fun _ _hb=>?_)
   (refine pW rfl ?_ rfl (by rfl);refine Qn 56 rfl ?_;refine CC rfl rfl rfl (by intro r hr;simp at hr;subst hr;rfl) (by rfl) (Nat.le_of_ble_eq_true rfl) (by simp) (fun h=>?_) (fun _=>?_))
   ·exact absurd h (by simp)
   (repeat first|(refine sA rfl ?_ ?_;first|exact tI|omega) |refine aU rfl ?_ |refine Aa ?_)
   subst _hb
   refine⟨⟨⟨k+1,[r],[decide ((e.toNat:Int)=43)]⟩,⟨by dsimp only;omega,by dsimp only;omega⟩,by simp at hl;simp;omega,by simp at hl;simp;omega,hr2⟩,by dsimp only;(omega),[0,1,4,5],?_⟩
   (simp[cX,zC,hΓ,cN,QG,Ag,eC]<;>rfl)
  | cons r0 l=>
   (repeat first|refine tA rfl ?_ |refine aU rfl ?_)
   (refine pW rfl ?_ rfl (by rfl);refine Ax rfl rfl rfl (by first| (simp;done)|(simp;(omega))) rfl (by intro r hr;simp at hr;subst hr;rfl) (by rfl) (Nat.le_of_ble_eq_true rfl) (by simp at hl ⊢;omega) ?_)
   (repeat first|refine tA rfl ?_)
   refine Aa ?_
   refine Ai.Ar [0,3,8] [] rfl rfl [(2,.o (.ptr 0 3 0 0)),(4,Bp ps),(7,.o (.ptr 1 3 0 0))] [(0,.cells 26 3 [[.d (iD 0),.d (.l []),.d (.l [])]]),(1,.cells 26 3 [[.d (iD n),.arr 2 1 0 (l.length+1+1),.arr 3 1 0 ac.length]]),(2,.cells 90 1 ((r0::(l++[r])).map Rq)),(3,.cells 4 1 (ac.map AZ))] [0,1,4,3] (rl hΓ rfl) (by (simp[cX,zC,hΓ,cN,QG,Ag,eC])) ?_;(try dsimp only[cA,cB])
   refine rG (HN [9,11]) (by kernel_rfl) ?_
   (repeat first|refine tA rfl ?_ |(refine s4 rfl ‹_› rfl ?_ ?_;omega) |refine s2 rfl fun _ _hb=>?_)
   (refine pW rfl ?_ rfl (by rfl);refine Ax rfl rfl rfl (by first| (simp;done)|(simp;(omega))) rfl (by intro r hr;simp at hr;subst hr;rfl) (by rfl) (Nat.le_of_ble_eq_true rfl) (by simp at hl ⊢;omega) ?_)
   (repeat first|(refine sA rfl ?_ ?_;first|exact tI|omega) |refine aU rfl ?_ |refine Aa ?_)
   subst _hb
   refine⟨⟨⟨k+1,r0::(l++[r]),ac++[decide ((e.toNat:Int)=43)]⟩,⟨by dsimp only;omega,by dsimp only;omega⟩,by simp at hl ⊢;omega,by simp;omega,hr2⟩,by dsimp only;(omega),[0,1,2,4],?_⟩
   (simp[cX,zC,hΓ,cN,QG,Ag,eC]<;>rfl)
 refine aE ?_
 have hkn:k=ps.length:=by (simp only[oZ] at *;omega)
 cases l with
 | nil=>exfalso;simp at hl;omega
 | cons r0 l=>
  refine Ai.AF [1,2,3] [(0,eT w0),(2,.o (.ptr 0 3 0 0)),(3,eB false),(7,.o (.ip (BF ⟨n,r0::l,ac⟩)))] ⟨⟨_,rfl,.inl rfl⟩,⟨_,rfl,.inl rfl⟩,⟨_,rfl,.inl rfl⟩,⟨_,rfl,.inr (.o (.box rfl (.cons .d (.cons (.full rfl (by simp [Function.comp_def]) (by simp)) (.cons (.full rfl (by simp [Function.comp_def]) (by simp)) .nil)))))⟩,trivial⟩ ?_
  (repeat first|refine tA rfl ?_ |refine aU rfl ?_)
  (refine pW rfl ?_ rfl (by rfl);refine Ae [] rfl rfl (EY (TB:=TB) ⟨n,r0::l,ac⟩) ⟨rfl,by decide,by decide⟩ rfl trivial ?_;rintro x0 σ1 nx1 ⟨w9,hw9,rfl,rfl,rfl⟩ _)
  (repeat first|refine tA rfl ?_ |refine s2 rfl fun _ _hb=>?_ |refine Aa ?_)
  (refine aC rfl ?_ ?_<;>rintro⟨⟩)
  ·(repeat first|refine tA rfl ?_|(refine Af rfl ?_;refine gA rfl ?_;first| refine gS (fun _ _=>Av rfl rfl (by rfl) (by rfl)) ?_) |refine aU rfl ?_ |refine Aa ?_)
   exact aR ⟨_,rfl,[],YP (⟨0,[],[]⟩,false),[],⟨fun i hi=>absurd hi (Nat.not_lt_zero i),List.nodup_nil⟩,rfl,trivial,(⟨0,[],[]⟩,false),hb0,rfl,rfl,rfl⟩
  refine aK ?_
  (repeat first|refine tA rfl ?_ |refine aU rfl ?_ |refine Aa ?_)
  exact aR ⟨_,rfl,[],YP (⟨n,r0::l,ac⟩,true),[],⟨fun i hi=>absurd hi (Nat.not_lt_zero i),List.nodup_nil⟩,rfl,trivial,(⟨n,r0::l,ac⟩,true),⟨by show (r0::l).length≤_;omega,by show ac.length≤_;omega,hr⟩,rfl,rfl,rfl⟩
def Si:List W:=[[97,98,32,43,49,44,48,32,45,49,44,49],[97,98,32,43,48,44,49,32,43,50,44,49,32,45,50,44,50],[97,99,32,43,49,44,50,32,43,49,44,50,32,45,50,44,50],[98,32,43,49,32,45,49],[97,98,99,32,43,49,44,48,44,50,32,43,50,44,48,44,49,32,45,50,44,50,44,50],[45,32,43],[45,32,45],[97,32,43,49,32,45,48],[97,98,32,43,48,44,49,32,45,48,44,49],[98,99,32,43,49,44,50,32,43,50,44,48,32,45,50,44,50],[97,98,32,43,49,44,50,32,45,49,44,51,32,43,52,44,50,32,45,49,44,51,32,43,52,44,50],[97,98,99,32,43,48,44,49,44,48,32,43,48,44,49,44,50,32,45,50,44,50,44,50]]
theorem UP:∀w∈Si,w.length≤40:=by decide
theorem RB:Pure Tryz.prog TB 179 [] (Bp Si):=by
 refine eN Tryz.func179 rfl (by kernel_rfl) rfl ?_;intro Γ hΓ
 (repeat first|refine tA rfl ?_ |refine aU rfl ?_ |refine Aa ?_)
 refine aR ⟨_,rfl,rfl⟩
theorem Ui(b:List UInt8)(hb:b.length≤2000)(p:Int)(h0:0≤p∧p < 700000000):Spec Tryz.prog TB 144 [(0,AV b p)] 1 [.o (.ptr 0 2 0 0)] (EX b p 60 (fun a=>GY 41 a)):=by
 obtain⟨c,c1,c2,hp⟩:=AX (TB:=TB) b hb p 3 (by omega)
 obtain⟨w,hw,ho⟩:=Qt (TB:=TB) b hb (p+1) (by omega) Si (by decide) (by decide)
 have hwl:=UP w hw
 have hpa:=Ft (TB:=TB) w (by omega)
 refine eR Tryz.func144 rfl (by kernel_rfl) rfl ?_;intro Γ hΓ
 (repeat first|refine tA rfl ?_ |refine aU rfl ?_ |refine Aa ?_)
 (refine pW rfl ?_ rfl (by rfl);refine Ae [0] rfl rfl (hp) ⟨rfl,by decide,by decide⟩ rfl (by simp[cX,zC,hΓ,cN]) ?_;rintro x0 σ1 nx1 ⟨rfl,rfl,rfl⟩ _)
 (repeat first|refine s2 rfl fun _ _hb=>?_ |refine Aa ?_)
 (refine aC rfl ?_ ?_<;>rintro⟨⟩)
 ·(repeat first|refine tA rfl ?_ |refine sP rfl (RB) rfl ?_ |refine aU rfl ?_)
  (refine pW rfl ?_ rfl (by rfl);refine Ae [0] rfl rfl (ho) ⟨rfl,by decide,by decide⟩ rfl (by simp[cX,zC,hΓ,cN]) ?_;rintro x0 σ1 nx1 ⟨rfl,rfl,rfl⟩ _)
  (refine pW rfl ?_ rfl (by rfl);refine Ae [] rfl rfl (hpa) ⟨rfl,by decide,by decide⟩ rfl trivial ?_;rintro x0 σ1 nx1 ⟨⟨a,ok⟩,ha,rfl,rfl,rfl⟩ _)
  have hA:GY (w.length+1) a:=ha
  (repeat first|refine tA rfl ?_ |refine aU rfl ?_ |refine Aa ?_)
  (refine aC rfl ?_ ?_<;>rintro⟨⟩)
  ·(repeat first|refine tA rfl ?_ |refine aU rfl ?_ |refine Aa ?_)
   exact aR ⟨_,rfl,[0],BL a,[(0,AV b (p+1+1))],⟨by intro i hi;match i with|0=>rfl,by decide⟩,rfl,by (simp[cX,zC,hΓ,cN]),p+1+1,a,by omega,⟨by have:=hA.nx;omega,by have:=hA.ac;omega,fun r hr=>by have:=hA.row r hr;omega⟩,rfl,rfl,rfl⟩
  refine aK ?_
  obtain⟨n1,m1,k1⟩:=BQ (TB:=TB) b hb (p+1+1) (by omega) [3,6,7,5,1,0,2] (by decide) (by decide)
  have f1:=HS (TB:=TB) b hb (p+1+1+1) (by omega) n1
  (repeat first|refine tA rfl ?_ |refine aU rfl ?_)
  (refine pW rfl ?_ rfl (by rfl);refine Ae [0] rfl rfl (k1) ⟨rfl,by decide,by decide⟩ rfl (by simp[cX,zC,hΓ,cN]) ?_;rintro x0 σ1 nx1 ⟨rfl,rfl,rfl⟩ _)
  (refine pW rfl ?_ rfl (by rfl);refine Ae [0] rfl rfl (f1) ⟨rfl,by decide,by decide⟩ rfl (by simp[cX,zC,hΓ,cN]) ?_;rintro x0 σ1 nx1 ⟨q,a2,hq,⟨_,ha2⟩,rfl,rfl,rfl⟩ _)
  (repeat first|refine tA rfl ?_ |refine Aa ?_)
  exact aR ⟨_,rfl,[0],BL a2,[(0,AV b (q))],⟨by intro i hi;match i with|0=>rfl,by decide⟩,rfl,by (simp[cX,zC,hΓ,cN]),q,a2,by omega,⟨by have:=ha2.nx;omega,by have:=ha2.ac;omega,fun r hr=>by have:=ha2.row r hr;omega⟩,rfl,rfl,rfl⟩
 refine aK ?_
 obtain⟨n1,m1,k1⟩:=BQ (TB:=TB) b hb (p+1) (by omega) [3,6,7,5,1,0,2] (by decide) (by decide)
 have f1:=HS (TB:=TB) b hb (p+1+1) (by omega) n1
 (repeat first|refine tA rfl ?_ |refine aU rfl ?_)
 (refine pW rfl ?_ rfl (by rfl);refine Ae [0] rfl rfl (k1) ⟨rfl,by decide,by decide⟩ rfl (by simp[cX,zC,hΓ,cN]) ?_;rintro x0 σ1 nx1 ⟨rfl,rfl,rfl⟩ _)
 (refine pW rfl ?_ rfl (by rfl);refine Ae [0] rfl rfl (f1) ⟨rfl,by decide,by decide⟩ rfl (by simp[cX,zC,hΓ,cN]) ?_;rintro x0 σ1 nx1 ⟨q,a2,hq,⟨_,ha2⟩,rfl,rfl,rfl⟩ _)
 (repeat first|refine tA rfl ?_ |refine Aa ?_)
 exact aR ⟨_,rfl,[0],BL a2,[(0,AV b (q))],⟨by intro i hi;match i with|0=>rfl,by decide⟩,rfl,by (simp[cX,zC,hΓ,cN]),q,a2,by omega,⟨by have:=ha2.nx;omega,by have:=ha2.ac;omega,fun r hr=>by have:=ha2.row r hr;omega⟩,rfl,rfl,rfl⟩
theorem GY.mono{m n:Nat}{a:BT}(h:GY m a)(hm:m≤n):GY n a:=⟨Nat.le_trans h.nx hm,Nat.le_trans h.ac hm,fun r hr=>Nat.le_trans (h.row r hr) hm⟩
abbrev Vy(a:BT):List C:=[.d (iD a.al),.d (CX a.nx),.d (Fu a.ac)]
theorem Wj(b:List UInt8)(hb:b.length≤2000)(p:Int)(h0:0≤p∧p < 600000000):Spec Tryz.prog TB 115 [(0,AV b p)] 1 [.o (.ptr 0 2 0 0)] (EX b p 200 (fun a=>GY 100 a)):=by
 have f0:=Ui (TB:=TB) b hb p (by omega)
 refine eR Tryz.func115 rfl (by kernel_rfl) rfl ?_;intro Γ hΓ
 (repeat first|refine tA rfl ?_ |refine aU rfl ?_ |refine Aa ?_)
 (refine pW rfl ?_ rfl (by rfl);refine Ae [0] rfl rfl (f0) ⟨rfl,by decide,by decide⟩ rfl (by simp[cX,zC,hΓ,cN]) ?_;rintro x0 σ1 nx1 ⟨p1,a0,hp1,ha0,rfl,rfl,rfl⟩ _)
 (repeat first|refine tA rfl ?_ |refine aU rfl ?_ |refine Aa ?_)
 obtain⟨c,c1,c2,hc⟩:=AX (TB:=TB) b hb p1 3 (by omega)
 (refine pW rfl ?_ rfl (by rfl);refine Ae [0] rfl rfl (hc) ⟨rfl,by decide,by decide⟩ rfl (by simp[cX,zC,hΓ,cN]) ?_;rintro x0 σ1 nx1 ⟨rfl,rfl,rfl⟩ _)
 (repeat first|refine tA rfl ?_ |refine Aa ?_)
 refine aB ?_
 refine aL (α:={s:Int×Int×BT // (0≤s.1∧s.1≤2)∧(p≤s.2.1∧s.2.1≤p+61+5*(2 - s.1))∧GY (43 - s.1.toNat) s.2.2}) [] [] rfl rfl (fun s=>[(0,.o (.ptr 0 2 0 0)),(2,.o (.ptr 1 3 0 0)),(3,.o (.ptr 2 3 0 0)),(4,eI .i64 s.1.1)]) (fun s=>[(0,AV b s.1.2.1),(1,.cells 26 3 [[.d (iD 0),.d (.l []),.d (.l [])]]),(2,.cells 26 3 [Vy s.1.2.2])]) 3 (fun s=>s.1.1.toNat) (⟨⟨c,p1+1,a0⟩,⟨c1,by dsimp only;omega⟩,⟨by dsimp only;omega,by dsimp only;omega⟩,ha0.mono (by dsimp only;omega)⟩) hΓ rfl (by (simp[cX,zC,hΓ,cN,Ag,eC])) ?_;rintro⟨⟨j,q,x⟩,hj,hq,hx⟩;(try dsimp only[cA,cB])
 have hj:0≤j∧j≤2:=hj
 have hq:p≤q∧q≤p+61+5*(2 - j):=hq
 have hx:GY (43 - j.toNat) x:=hx
 (repeat first|refine tA rfl ?_ |refine s2 rfl fun _ _hb=>?_ |refine aU rfl ?_ |refine Aa ?_)
 ((refine aC rfl ?_ ?_<;>rintro⟨⟩);all_goals try (simp at _hb;done))
 ·have hpos:0 < j:=by (simp only[oZ] at *;omega)
  refine aK ?_
  refine aS (aB ?_)
  (repeat first|refine tA rfl ?_ |refine aU rfl ?_)
  (refine pW rfl ?_ rfl (by rfl);refine Ae [0] rfl rfl (Qc (TB:=TB) b hb q (by omega) x (43 - j.toNat) hx (by omega)) ⟨rfl,by decide,by decide⟩ rfl (by simp[cX,zC,hΓ,cN]) ?_;rintro x0 σ1 nx1 ⟨r1,u1,hr1,⟨_,hu1⟩,rfl,rfl,rfl⟩ _)
  (repeat first|(refine sA rfl ?_ ?_;first|exact tI|omega) |refine aU rfl ?_ |refine Aa ?_)
  refine⟨⟨⟨j - 1,r1,u1⟩,⟨by dsimp only;omega,by dsimp only;omega⟩,⟨by dsimp only;omega,by dsimp only;omega⟩,hu1.mono (by dsimp only;omega)⟩,by dsimp only;(omega),[0,1,2],?_⟩
  (simp[cX,zC,hΓ,cN,Ag,eC]<;>rfl)
 refine aE ?_
 have hx43:GY 43 x:=hx.mono (by omega)
 obtain⟨d,d1,d2,hd⟩:=AX (TB:=TB) b hb q 10 (by omega)
 (repeat first|refine tA rfl ?_ |refine aU rfl ?_)
 (refine pW rfl ?_ rfl (by rfl);refine Ae [0] rfl rfl (hd) ⟨rfl,by decide,by decide⟩ rfl (by simp[cX,zC,hΓ,cN]) ?_;rintro x0 σ1 nx1 ⟨rfl,rfl,rfl⟩ _)
 (repeat first|refine s2 rfl fun _ _hb=>?_ |refine Aa ?_)
 (refine aC rfl ?_ ?_<;>rintro⟨⟩)
 ·(repeat first|refine tA rfl ?_ |refine aU rfl ?_)
  (refine pW rfl ?_ rfl (by rfl);refine Ae [0] rfl rfl (Wg (TB:=TB) b hb (q+1) (by omega)) ⟨rfl,by decide,by decide⟩ rfl (by simp[cX,zC,hΓ,cN]) ?_;rintro x0 σ1 nx1 ⟨r1,u1,hr1,hu1,rfl,rfl,rfl⟩ _)
  have hu43:GY 43 u1:=hu1.mono (by omega)
  (repeat first|refine tA rfl ?_)
  refine Aa ?_
  refine Ai.Ar [] [] rfl rfl [(0,.o (.ptr 0 2 0 0)),(2,.o (.ptr 1 3 0 0)),(3,.o (.ptr 2 3 0 0))] [(0,AV b (r1)),(1,.cells 26 3 [[.d (iD 0),.d (.l []),.d (.l [])]]),(2,.cells 26 3 [Vy u1])] [0,1,2] (rl hΓ rfl) (by (simp[cX,zC,hΓ,cN,Ag,eC])) ?_;(try dsimp only[cA,cB])
  obtain⟨e,e1,e2,he⟩:=AX (TB:=TB) b hb (r1) 6 (by omega)
  (repeat first|refine tA rfl ?_ |refine aU rfl ?_)
  (refine pW rfl ?_ rfl (by rfl);refine Ae [0] rfl rfl (he) ⟨rfl,by decide,by decide⟩ rfl (by simp[cX,zC,hΓ,cN]) ?_;rintro x0 σ1 nx1 ⟨rfl,rfl,rfl⟩ _)
  (repeat first|refine s2 rfl fun _ _hb=>?_ |refine Aa ?_)
  (refine aC rfl ?_ ?_<;>rintro⟨⟩)
  ·(repeat first|refine tA rfl ?_ |refine aU rfl ?_)
   (refine pW rfl ?_ rfl (by rfl);refine Ae [0] rfl rfl (IM (TB:=TB) b hb (r1+1) (by omega) u1 43 hu43 (by omega)) ⟨rfl,by decide,by decide⟩ rfl (by simp[cX,zC,hΓ,cN]) ?_;rintro x0 σ1 nx1 ⟨r9,u9,hr9,hu9,rfl,rfl,rfl⟩ _)
   (repeat first|refine tA rfl ?_ |refine aU rfl ?_ |refine Aa ?_)
   exact aR ⟨_,rfl,[0],BL u9,[(0,AV b (r9))],⟨by intro i hi;match i with|0=>rfl,by decide⟩,rfl,by (simp[cX,zC,hΓ,cN,Ag,eC]),r9,u9,by omega,hu9.mono (by omega),rfl,rfl,rfl⟩
  refine aK ?_
  (repeat first|refine tA rfl ?_ |refine aU rfl ?_ |refine Aa ?_)
  exact aR ⟨_,rfl,[0],BL u1,[(0,AV b (r1+1))],⟨by intro i hi;match i with|0=>rfl,by decide⟩,rfl,by (simp[cX,zC,hΓ,cN,Ag,eC]),r1+1,u1,by omega,hu43.mono (by omega),rfl,rfl,rfl⟩
 refine aK ?_
 obtain⟨e,e1,e2,he⟩:=AX (TB:=TB) b hb (q+1) 6 (by omega)
 (repeat first|refine tA rfl ?_ |refine aU rfl ?_)
 (refine pW rfl ?_ rfl (by rfl);refine Ae [0] rfl rfl (he) ⟨rfl,by decide,by decide⟩ rfl (by simp[cX,zC,hΓ,cN]) ?_;rintro x0 σ1 nx1 ⟨rfl,rfl,rfl⟩ _)
 (repeat first|refine s2 rfl fun _ _hb=>?_ |refine Aa ?_)
 (refine aC rfl ?_ ?_<;>rintro⟨⟩)
 ·(repeat first|refine tA rfl ?_ |refine aU rfl ?_)
  (refine pW rfl ?_ rfl (by rfl);refine Ae [0] rfl rfl (IM (TB:=TB) b hb (q+1+1) (by omega) x 43 hx43 (by omega)) ⟨rfl,by decide,by decide⟩ rfl (by simp[cX,zC,hΓ,cN]) ?_;rintro x0 σ1 nx1 ⟨r9,u9,hr9,hu9,rfl,rfl,rfl⟩ _)
  (repeat first|refine tA rfl ?_ |refine aU rfl ?_ |refine Aa ?_)
  exact aR ⟨_,rfl,[0],BL u9,[(0,AV b (r9))],⟨by intro i hi;match i with|0=>rfl,by decide⟩,rfl,by (simp[cX,zC,hΓ,cN,Ag,eC]),r9,u9,by omega,hu9.mono (by omega),rfl,rfl,rfl⟩
 refine aK ?_
 (repeat first|refine tA rfl ?_ |refine aU rfl ?_ |refine Aa ?_)
 exact aR ⟨_,rfl,[0],BL x,[(0,AV b (q+1+1))],⟨by intro i hi;match i with|0=>rfl,by decide⟩,rfl,by (simp[cX,zC,hΓ,cN,Ag,eC]),q+1+1,x,by omega,hx43.mono (by omega),rfl,rfl,rfl⟩
def Ld(b:List UInt8)(p m:Int)(P:Sys→Prop)(x:E)(σ:Ab)(nx:Nat):Prop:=∃(p':Int) (s:Sys),(p≤p'∧p'≤p+m)∧P s∧x=Dr s∧σ=[(0,AV b p')]∧nx=1
def cI(n:Int)(s:Sys):Prop:=s.st=n∧(∀e∈s.es,0≤e.t∧e.t < n)∧s.es.length≤400
theorem Hr(b:List UInt8)(hb:b.length≤2000)(p:Int)(h0:0≤p∧p < 900000000)(al n aP:Int)(hn:0≤n∧n≤8):AU Tryz.prog TB 181 1 [(0,AV b p)] 1 [.o (.ptr 0 2 0 0),eI .i64 al,eI .i64 n,eI .i64 aP] (Ld b p 400 (cI n)):=by
 have hla:(Ac al).length≤6:=AR al 6
 refine AU.A4 (AU.Pr (m:=1) (Nat.le_of_ble_eq_true rfl) Tryz.func181 rfl (by kernel_rfl) (Nat.le_of_ble_eq_true rfl) ?_);intro Γ hΓ
 (repeat first|refine tA rfl ?_ |refine aU rfl ?_ |refine Aa ?_)
 (refine pW rfl ?_ rfl (by rfl);refine Qo 2 3 163 rfl rfl rfl (by rfl) (by rfl) ?_)
 (repeat first|refine tA rfl ?_ |refine sP rfl (BM al) rfl ?_ |refine aU rfl ?_ |refine Aa ?_)
 refine aB ?_
 refine aL (α:={s:Nat×Int×List Eb // (s.1:Int)≤n∧(p≤s.2.1∧s.2.1≤p+48*s.1)∧(s.2.2.length:Int)≤s.2.1 - p∧∀e∈s.2.2,0≤e.t∧e.t < n}) [0,2,3,8,9,10] [1] rfl rfl (fun s=>[(11,eI .i64 s.1.1)]) (fun s=>[(0,AV b s.1.2.1),(2,.cells 163 3 (s.1.2.2.map Bf)),(3,.cells 29 3 [[.d (iD al),.d (iD n),.arr 2 3 0 s.1.2.2.length]])]) 4 (fun s=>n.toNat - s.1.1) (⟨⟨0,p,[]⟩,by simp;omega⟩) hΓ rfl (by (simp[cX,zC,hΓ])) ?_;rintro⟨⟨k,q,es⟩,hk,hq,hl,he⟩;(try dsimp only[cA,cB])
 have hk:(k:Int)≤n:=hk
 have hq:p≤q∧q≤p+48*k:=hq
 have hl:(es.length:Int)≤q - p:=hl
 (repeat first|refine tM rfl ?_ |refine s2 rfl fun _ _hb=>?_ |refine aU rfl ?_ |refine Aa ?_)
 ((refine aC rfl ?_ ?_<;>rintro⟨⟩);all_goals try (simp at _hb;done))
 ·have hlt : (k:Int) < n:=by (simp only[oZ] at *;omega)
  refine aK ?_
  refine aS (aB ?_)
  (repeat first|refine tX rfl ?_ |refine aU rfl ?_ |refine Aa ?_)
  refine aB ?_
  refine aL (α:={s:Nat×Int×List Eb // s.1≤(Ac al).length∧(q≤s.2.1∧s.2.1≤q+8*s.1)∧(s.2.2.length:Int)≤s.2.1 - p∧∀e∈s.2.2,0≤e.t∧e.t < n}) [0,2,3,8,9,10,11] [1] rfl rfl (fun s=>[(12,eI .i64 s.1.1)]) (fun s=>[(0,AV b s.1.2.1),(2,.cells 163 3 (s.1.2.2.map Bf)),(3,.cells 29 3 [[.d (iD al),.d (iD n),.arr 2 3 0 s.1.2.2.length]])]) 4 (fun s=>(Ac al).length - s.1.1) (⟨⟨0,q,es⟩,by simp,by simp,hl,he⟩) hΓ rfl (by (simp[cX,zC,hΓ])) ?_;rintro⟨⟨i,u,es1⟩,hi,hu,hl1,he1⟩;(try dsimp only[cA,cB])
  have hi:i≤(Ac al).length:=hi
  have hu:q≤u∧u≤q+8*i:=hu
  have hl1:(es1.length:Int)≤u - p:=hl1
  clear he hl
  (repeat first|refine sN rfl ?_ |refine tM rfl ?_ |refine s2 rfl fun _ _hb=>?_ |refine aU rfl ?_ |refine Aa ?_)
  ((refine aC rfl ?_ ?_<;>rintro⟨⟩);all_goals try (simp at _hb;done))
  ·have hil:i < (Ac al).length:=by (simp only[oZ] at *;omega)
   obtain⟨l,hl0⟩:=get_some hil
   have hl':((Ac al).map Bv)[((i:Nat):Int).toNat]? = some (Bv l):=by rw [Int.toNat_natCast];simp [hl0]
   refine aK ?_
   refine aS (aB ?_)
   (repeat first|refine tX rfl ?_ |refine aU rfl ?_ |refine Aa ?_)
   refine aB ?_
   refine aL (α:={s:Nat×Int×List Eb // (s.1:Int)≤n∧(u≤s.2.1∧s.2.1≤u+s.1)∧(s.2.2.length:Int)≤s.2.1 - p∧∀e∈s.2.2,0≤e.t∧e.t < n}) [0,2,3,8,9,10,11,12] [1] rfl rfl (fun s=>[(13,eI .i64 s.1.1)]) (fun s=>[(0,AV b s.1.2.1),(2,.cells 163 3 (s.1.2.2.map Bf)),(3,.cells 29 3 [[.d (iD al),.d (iD n),.arr 2 3 0 s.1.2.2.length]])]) 4 (fun s=>n.toNat - s.1.1) (⟨⟨0,u,es1⟩,by simp;omega,by simp,hl1,he1⟩) hΓ rfl (by (simp[cX,zC,hΓ])) ?_;rintro⟨⟨j,v,es2⟩,hj,hv,hl2,he2⟩;(try dsimp only[cA,cB])
   have hj:(j:Int)≤n:=hj
   have hv:u≤v∧v≤u+j:=hv
   have hl2:(es2.length:Int)≤v - p:=hl2
   clear he1 hl1
   (repeat first|refine tM rfl ?_ |refine s2 rfl fun _ _hb=>?_ |refine aU rfl ?_ |refine Aa ?_)
   ((refine aC rfl ?_ ?_<;>rintro⟨⟩);all_goals try (simp at _hb;done))
   ·obtain⟨c,c1,c2,hp⟩:=AX (TB:=TB) b hb v aP (by omega)
    have hjn:(j:Int) < n:=by (simp only[oZ] at *;omega)
    refine aK ?_
    refine aS (aB ?_)
    (repeat first|refine tA rfl ?_ |refine aU rfl ?_)
    (refine pW rfl ?_ rfl (by rfl);refine Ae [0] rfl rfl (hp) ⟨rfl,by decide,by decide⟩ rfl (by simp[cX,zC,hΓ]) ?_;rintro x0 σ1 nx1 ⟨rfl,rfl,rfl⟩ _)
    (repeat first|refine s2 rfl fun _ _hb=>?_ |refine Aa ?_)
    (refine aC rfl ?_ ?_<;>rintro⟨⟩)
    ·refine rG (Nn [(1,13),(10,1),(12,1)]) (by kernel_rfl) ?_
     (repeat first|refine tA rfl ?_ |(refine s4 rfl ‹_› rfl ?_ ?_;omega)|(refine Af rfl ?_;refine gA rfl ?_;first| refine gS (fun _ _=>Av rfl rfl (by rfl) (by rfl)) ?_))
     (refine pW rfl ?_ rfl (by rfl);refine Ax rfl rfl rfl (by first| (simp;done)|(simp;(omega))) rfl (by intro r hr;simp at hr;subst hr;rfl) (by rfl) (Nat.le_of_ble_eq_true rfl) (by simp;omega) ?_)
     (repeat first|(refine sA rfl ?_ ?_;first|exact tI|omega) |refine aU rfl ?_ |refine Aa ?_)
     have he3:∀e∈es2++[(⟨k,l,j⟩:Eb)],0≤e.t∧e.t < n:=fun e hm=>by
      rcases List.mem_append.1 hm with hm|hm
      ·exact he2 e hm
      ·simp at hm;subst hm;exact⟨by dsimp only;omega,hjn⟩
     refine⟨⟨⟨j+1,v+1,es2++[⟨k,l,j⟩]⟩,by dsimp only;omega,by dsimp only;omega,by simp;omega,he3⟩,by dsimp only;(omega),[0,1,4,3],?_⟩
     (simp[cX,zC,hΓ,cN]<;>rfl)
    ·refine aK ?_
     (repeat first|(refine sA rfl ?_ ?_;first|exact tI|omega) |refine aU rfl ?_ |refine Aa ?_)
     refine⟨⟨⟨j+1,v+1,es2⟩,by dsimp only;omega,by dsimp only;omega,by dsimp only;omega,he2⟩,by dsimp only;(omega),[0,1,2,3],?_⟩
     (simp[cX,zC,hΓ,cN]<;>rfl)
   ·have hkn:(j:Int)=n:=by (simp only[oZ] at *;omega)
    refine aE ?_
    (repeat first|(refine sA rfl ?_ ?_;first|exact tI|omega) |refine aU rfl ?_ |refine Aa ?_)
    refine⟨⟨⟨i+1,v,es2⟩,by dsimp only;omega,by dsimp only;omega,hl2,he2⟩,by dsimp only;(omega),[0,1,2,3],?_⟩
    (simp[cX,zC,hΓ,cN]<;>rfl)
  ·refine aE ?_
   have hil:i=(Ac al).length:=by (simp only[oZ] at *;omega)
   (repeat first|(refine sA rfl ?_ ?_;first|exact tI|omega) |refine aU rfl ?_ |refine Aa ?_)
   refine⟨⟨⟨k+1,u,es1⟩,by dsimp only;omega,by dsimp only;omega,hl1,he1⟩,by dsimp only;(omega),[0,1,2,3],?_⟩
   (simp[cX,zC,hΓ,cN]<;>rfl)
 ·have hkn:(k:Int)=n:=by (simp only[oZ] at *;omega)
  refine aE ?_
  (repeat first|refine tA rfl ?_ |refine aU rfl ?_ |refine Aa ?_)
  refine Ai.AF [1,2] [(8,.o (.ip [iD al,iD n,FK es]))] ⟨⟨_,rfl,.inr (.o (.box rfl (.cons .d (.cons .d (.cons (.full rfl (by simp [Function.comp_def]) (by simp)) .nil)))))⟩,trivial⟩ ?_
  refine aR ⟨_,rfl,[0],Dr ⟨al,n,es⟩,[(0,AV b q)],⟨by intro i hi;match i with|0=>rfl,by decide⟩,rfl,by (simp[cX,zC,hΓ,cN]),q,⟨al,n,es⟩,by omega,⟨rfl,he,by dsimp only;omega⟩,rfl,rfl,rfl⟩
def dA(m:Int)(s:Sys):Prop:=(∀e∈s.es,0≤e.t∧e.t < m)∧s.es.length≤400
theorem cI.le{n m:Int}{s:Sys}(h:cI n s)(hn:n≤m):dA m s:=⟨fun e he=>by have:=h.2.1 e he;omega,h.2.2⟩
theorem Mi(b:List UInt8)(hb:b.length≤2000)(p:Int)(h0:0≤p∧p < 800000000):Spec Tryz.prog TB 148 [(0,AV b p)] 1 [.o (.ptr 0 2 0 0)] (Ld b p 403 (dA 5)):=by
 obtain⟨n1,m1,k1⟩:=BQ (TB:=TB) b hb p (by omega) [3,6,7,5,2] (by decide) (by decide)
 obtain⟨n2,m2,k2⟩:=BQ (TB:=TB) b hb (p+1) (by omega) [2,3,1,3] (by decide) (by decide)
 obtain⟨n3,m3,k3⟩:=BQ (TB:=TB) b hb (p+1+1) (by omega) [2,3,4] (by decide) (by decide)
 have m2':1≤n2∧n2≤3:=by simp at m2;omega
 have f:=Hr (TB:=TB) b hb (p+1+1+1) (by omega) n1 n2 n3 (by omega)
 refine eR Tryz.func148 rfl (by kernel_rfl) rfl ?_;intro Γ hΓ
 (repeat first|refine tA rfl ?_ |refine aU rfl ?_ |refine Aa ?_)
 (refine pW rfl ?_ rfl (by rfl);refine Ae [0] rfl rfl (k1) ⟨rfl,by decide,by decide⟩ rfl (by simp[cX,zC,hΓ]) ?_;rintro x0 σ1 nx1 ⟨rfl,rfl,rfl⟩ _)
 (repeat first|refine tA rfl ?_)
 (refine pW rfl ?_ rfl (by rfl);refine Ae [0] rfl rfl (k2) ⟨rfl,by decide,by decide⟩ rfl (by simp[cX,zC,hΓ]) ?_;rintro x0 σ1 nx1 ⟨rfl,rfl,rfl⟩ _)
 (repeat first|refine tA rfl ?_)
 (refine pW rfl ?_ rfl (by rfl);refine Ae [0] rfl rfl (k3) ⟨rfl,by decide,by decide⟩ rfl (by simp[cX,zC,hΓ]) ?_;rintro x0 σ1 nx1 ⟨rfl,rfl,rfl⟩ _)
 (refine pW rfl ?_ rfl (by rfl);refine Bu [0] rfl rfl 1 (f) (by decide) ⟨rfl,by decide,by decide⟩ rfl (by simp[cX,zC,hΓ,cN]) ?_;rintro x0 σ1 nx1 ⟨q,s,hq,hs,rfl,rfl,rfl⟩ _)
 (repeat first|refine tA rfl ?_ |refine Aa ?_)
 refine aR ⟨_,rfl,[0],Dr s,[(0,AV b q)],⟨by intro i hi;match i with|0=>rfl,by decide⟩,rfl,by (simp[cX,zC,hΓ,cN]),q,s,by omega,hs.le (by omega),rfl,rfl,rfl⟩
theorem N6(b:List UInt8)(hb:b.length≤2000)(p:Int)(h0:0≤p∧p < 800000000):∃n:Int,Spec Tryz.prog TB 158 [(0,AV b p)] 1 [.o (.ptr 0 2 0 0)] (fun x σ nx=>x=eI .i64 n∧σ=[(0,AV b (p+1))]∧nx=1):=by
 obtain⟨n1,m1,k1⟩:=BQ (TB:=TB) b hb p (by omega) [3,7,1,5,0,6,63,2,21] (by decide) (by decide)
 refine⟨n1,?_⟩
 refine eR Tryz.func158 rfl (by kernel_rfl) rfl ?_;intro Γ hΓ
 (repeat first|refine tA rfl ?_ |refine aU rfl ?_ |refine Aa ?_)
 (refine pW rfl ?_ rfl (by rfl);refine Ae [0] rfl rfl (k1) ⟨rfl,by decide,by decide⟩ rfl (by simp[cX,zC,hΓ]) ?_;rintro x0 σ1 nx1 ⟨rfl,rfl,rfl⟩ _)
 (repeat first|refine tA rfl ?_ |refine Aa ?_)
 refine aR ⟨_,rfl,?_⟩
 refine⟨[0],_,[(0,AV b (p+1))],⟨by first|(simp;done)|decide|(intro i hi;match i with|0=>rfl),by decide⟩,rfl,by (simp[cX,zC,hΓ]),rfl,rfl,rfl⟩
theorem Ns(b:List UInt8)(hb:b.length≤2000)(p:Int)(h0:0≤p∧p < 700000000)(al:Int):Spec Tryz.prog TB 150 [(0,AV b p)] 1 [.o (.ptr 0 2 0 0),eI .i64 al] (EX b p 100 (fun a=>GY 6 a)):=by
 obtain⟨n1,m1,k1⟩:=BQ (TB:=TB) b hb p (by omega) [63,63,5,3,6] (by decide) (by decide)
 obtain⟨c,c1,c2,hp⟩:=AX (TB:=TB) b hb (p+1) 8 (by omega)
 obtain⟨a1,hs⟩:=N6 (TB:=TB) b hb (p+1+1) (by omega)
 refine eR Tryz.func150 rfl (by kernel_rfl) rfl ?_;intro Γ hΓ
 (repeat first|refine tA rfl ?_ |refine aU rfl ?_ |refine Aa ?_)
 (refine pW rfl ?_ rfl (by rfl);refine Ae [0] rfl rfl (k1) ⟨rfl,by decide,by decide⟩ rfl (by simp[cX,zC,hΓ]) ?_;rintro x0 σ1 nx1 ⟨rfl,rfl,rfl⟩ _)
 (repeat first|refine tA rfl ?_ |refine aU rfl ?_ |refine Aa ?_)
 (refine pW rfl ?_ rfl (by rfl);refine Ae [0] rfl rfl (hp) ⟨rfl,by decide,by decide⟩ rfl (by simp[cX,zC,hΓ]) ?_;rintro x0 σ1 nx1 ⟨rfl,rfl,rfl⟩ _)
 (repeat first|refine s2 rfl fun _ _hb=>?_ |refine Aa ?_)
 (refine aC rfl ?_ ?_<;>rintro⟨⟩)
 ·(repeat first|refine tA rfl ?_ |refine aU rfl ?_)
  (refine pW rfl ?_ rfl (by rfl);refine Ae [0] rfl rfl (hs) ⟨rfl,by decide,by decide⟩ rfl (by simp[cX,zC,hΓ]) ?_;rintro x0 σ1 nx1 ⟨rfl,rfl,rfl⟩ _)
  (repeat first|refine tA rfl ?_ |refine aU rfl ?_ |refine Aa ?_)
  obtain⟨c3,c4,c5,hp2⟩:=AX (TB:=TB) b hb (p+1+1+1) 4 (by omega)
  obtain⟨n2,m2,k2⟩:=BQ (TB:=TB) b hb (p+1+1+1+1) (by omega) [3,2,4,1] (by decide) (by decide)
  have m2':1≤n2∧n2≤4:=by simp at m2;omega
  have f1:=Kg (TB:=TB) b hb (p+1+1+1+1+1) (by omega) (a1) n2 (by omega)
  have f2:=HS (TB:=TB) b hb (p+1+1+1+1) (by omega) (a1)
  obtain⟨a2,rfl⟩:∃a2,a2=a1:=⟨_,rfl⟩
  (refine pW rfl ?_ rfl (by rfl);refine Ae [0] rfl rfl (hp2) ⟨rfl,by decide,by decide⟩ rfl (by simp[cX,zC,hΓ]) ?_;rintro x0 σ1 nx1 ⟨rfl,rfl,rfl⟩ _)
  (repeat first|refine s2 rfl fun _ _hb=>?_ |refine Aa ?_)
  (refine aC rfl ?_ ?_<;>rintro⟨⟩)
  ·(repeat first|refine tA rfl ?_ |refine aU rfl ?_)
   (refine pW rfl ?_ rfl (by rfl);refine Ae [0] rfl rfl (k2) ⟨rfl,by decide,by decide⟩ rfl (by simp[cX,zC,hΓ]) ?_;rintro x0 σ1 nx1 ⟨rfl,rfl,rfl⟩ _)
   (refine pW rfl ?_ rfl (by rfl);refine Bu [0] rfl rfl 1 (f1) (by decide) ⟨rfl,by decide,by decide⟩ rfl (by simp[cX,zC,hΓ,cN]) ?_;rintro x0 σ1 nx1 ⟨q,l,ac,hq,hl,hac,hx,rfl,rfl,rfl⟩ _)
   (repeat first|refine tA rfl ?_ |refine Aa ?_)
   refine Ai.Ar [4] [] rfl rfl [] [(0,AV b q),(1,.cells 26 3 [[.d (iD a2),.arr 2 1 0 l.length,.arr 3 1 0 ac.length]]),(2,.cells 90 1 (Az l)),(3,.cells 4 1 (ac.map AZ)),(4,.sld 3 (sI l))] [0,1,2,3,4] (rl hΓ rfl) (by (simp[cX,zC,hΓ,cN])) ?_;(try dsimp only[cA,cB])
   refine Ai.AF [1,2,3,4] [(4,.o (.ip (BF ⟨a2,l.map (·.2),ac⟩)))] ⟨⟨_,rfl,.inr (.o (.box rfl (.cons .d (.cons (.Ln (s:=4) rfl rfl) (.cons (.full rfl (by simp [Function.comp_def]) (by simp)) .nil)))))⟩,trivial⟩ ?_
   refine aR ⟨_,rfl,[0],BL ⟨a2,l.map (·.2),ac⟩,[(0,AV b q)],⟨by intro i hi;match i with|0=>rfl,by decide⟩,rfl,by (simp[cX,zC,hΓ,cN]),q,_,by omega,O6 hl hac hx (by omega) (by omega),rfl,rfl,rfl⟩
  ·refine aK ?_
   (repeat first|refine tA rfl ?_ |refine aU rfl ?_)
   (refine pW rfl ?_ rfl (by rfl);refine Ae [0] rfl rfl (f2) ⟨rfl,by decide,by decide⟩ rfl (by simp[cX,zC,hΓ,cN]) ?_;rintro x0 σ1 nx1 ⟨q,a3,hq,ha3,rfl,rfl,rfl⟩ _)
   (repeat first|refine tA rfl ?_ |refine Aa ?_)
   refine aR ⟨_,rfl,[0],BL a3,[(0,AV b q)],⟨by intro i hi;match i with|0=>rfl,by decide⟩,rfl,by (simp[cX,zC,hΓ,cN]),q,a3,by omega,ha3.2,rfl,rfl,rfl⟩
 ·refine aK ?_
  (repeat first|refine tA rfl ?_ |refine aU rfl ?_)
  obtain⟨c3,c4,c5,hp2⟩:=AX (TB:=TB) b hb (p+1+1) 4 (by omega)
  obtain⟨n2,m2,k2⟩:=BQ (TB:=TB) b hb (p+1+1+1) (by omega) [3,2,4,1] (by decide) (by decide)
  have m2':1≤n2∧n2≤4:=by simp at m2;omega
  have f1:=Kg (TB:=TB) b hb (p+1+1+1+1) (by omega) (Ey .i64 al n1) n2 (by omega)
  have f2:=HS (TB:=TB) b hb (p+1+1+1) (by omega) (Ey .i64 al n1)
  generalize Ey .i64 al n1=a2 at *
  (refine pW rfl ?_ rfl (by rfl);refine Ae [0] rfl rfl (hp2) ⟨rfl,by decide,by decide⟩ rfl (by simp[cX,zC,hΓ]) ?_;rintro x0 σ1 nx1 ⟨rfl,rfl,rfl⟩ _)
  (repeat first|refine s2 rfl fun _ _hb=>?_ |refine Aa ?_)
  (refine aC rfl ?_ ?_<;>rintro⟨⟩)
  ·(repeat first|refine tA rfl ?_ |refine aU rfl ?_)
   (refine pW rfl ?_ rfl (by rfl);refine Ae [0] rfl rfl (k2) ⟨rfl,by decide,by decide⟩ rfl (by simp[cX,zC,hΓ]) ?_;rintro x0 σ1 nx1 ⟨rfl,rfl,rfl⟩ _)
   (refine pW rfl ?_ rfl (by rfl);refine Bu [0] rfl rfl 1 (f1) (by decide) ⟨rfl,by decide,by decide⟩ rfl (by simp[cX,zC,hΓ,cN]) ?_;rintro x0 σ1 nx1 ⟨q,l,ac,hq,hl,hac,hx,rfl,rfl,rfl⟩ _)
   (repeat first|refine tA rfl ?_ |refine Aa ?_)
   refine Ai.Ar [4] [] rfl rfl [] [(0,AV b q),(1,.cells 26 3 [[.d (iD a2),.arr 2 1 0 l.length,.arr 3 1 0 ac.length]]),(2,.cells 90 1 (Az l)),(3,.cells 4 1 (ac.map AZ)),(4,.sld 3 (sI l))] [0,1,2,3,4] (rl hΓ rfl) (by (simp[cX,zC,hΓ,cN])) ?_;(try dsimp only[cA,cB])
   refine Ai.AF [1,2,3,4] [(4,.o (.ip (BF ⟨a2,l.map (·.2),ac⟩)))] ⟨⟨_,rfl,.inr (.o (.box rfl (.cons .d (.cons (.Ln (s:=4) rfl rfl) (.cons (.full rfl (by simp [Function.comp_def]) (by simp)) .nil)))))⟩,trivial⟩ ?_
   refine aR ⟨_,rfl,[0],BL ⟨a2,l.map (·.2),ac⟩,[(0,AV b q)],⟨by intro i hi;match i with|0=>rfl,by decide⟩,rfl,by (simp[cX,zC,hΓ,cN]),q,_,by omega,O6 hl hac hx (by omega) (by omega),rfl,rfl,rfl⟩
  ·refine aK ?_
   (repeat first|refine tA rfl ?_ |refine aU rfl ?_)
   (refine pW rfl ?_ rfl (by rfl);refine Ae [0] rfl rfl (f2) ⟨rfl,by decide,by decide⟩ rfl (by simp[cX,zC,hΓ,cN]) ?_;rintro x0 σ1 nx1 ⟨q,a3,hq,ha3,rfl,rfl,rfl⟩ _)
   (repeat first|refine tA rfl ?_ |refine Aa ?_)
   refine aR ⟨_,rfl,[0],BL a3,[(0,AV b q)],⟨by intro i hi;match i with|0=>rfl,by decide⟩,rfl,by (simp[cX,zC,hΓ,cN]),q,a3,by omega,ha3.2,rfl,rfl,rfl⟩
def Vl(b:List UInt8)(p m:Int)(P:W→Prop)(x:E)(σ:Ab)(nx:Nat):Prop:=∃(p':Int) (w:W),(p≤p'∧p'≤p+m)∧P w∧x=eT w∧σ=[(0,AV b p')]∧nx=1
theorem N7(b:List UInt8)(hb:b.length≤2000)(p:Int)(h0:0≤p∧p < 900000000)(al most:Int)(hm:0≤most∧most≤100):Spec Tryz.prog TB 74 [(0,AV b p)] 1 [.o (.ptr 0 2 0 0),eI .i64 al,eI .i64 most] (Vl b p (most+1) (fun w=>(w.length:Int)≤most)):=by
 have hla:(Ac al).length≤6:=AR al 6
 obtain⟨c,c1,c2,hp⟩:=AX (TB:=TB) b hb p (most+1) (by omega)
 obtain⟨c0,rfl⟩:∃c0:Nat,c=c0:=⟨c.toNat,by omega⟩
 refine eR Tryz.func74 rfl (by kernel_rfl) rfl ?_;intro Γ hΓ
 (repeat first|(refine sA rfl ?_ ?_;first|exact tI|omega) |refine sP rfl (BM al) rfl ?_ |refine aU rfl ?_ |refine Aa ?_)
 (refine pW rfl ?_ rfl (by rfl);refine Ae [0] rfl rfl (hp) ⟨rfl,by decide,by decide⟩ rfl (by simp[cX,zC,hΓ]) ?_;rintro x0 σ1 nx1 ⟨rfl,rfl,rfl⟩ _)
 (repeat first|refine tA rfl ?_ |refine Aa ?_)
 refine aB ?_
 refine aL (α:={s:Nat×Int×W // (s.1:Int)≤most∧(p+1≤s.2.1∧s.2.1≤p+1+(most - s.1))∧(s.2.2.length:Int)≤most - s.1}) [0,7] [] rfl rfl (fun s=>[(8,eT s.1.2.2),(9,eI .i64 s.1.1)]) (fun s=>[(0,AV b s.1.2.1)]) 1 (fun s=>s.1.1) (⟨⟨c0,p+1,[]⟩,by simp;omega⟩) hΓ rfl (by (simp[cX,zC,hΓ])) ?_;rintro⟨⟨k,q,w⟩,hk,hq,hw⟩;(try dsimp only[cA,cB])
 have hk:(k:Int)≤most:=hk
 have hq:p+1≤q∧q≤p+1+(most - k):=hq
 have hw:(w.length:Int)≤most - k:=hw
 by_cases hgo:0 < k∧0 < (Ac al).length
 ·obtain⟨d,d1,d2,hp2⟩:=AX (TB:=TB) b hb q (Ac al).length (by omega)
  obtain⟨l,hl⟩:=get_some (l:=Ac al) (k:=d.toNat) (by omega)
  have hl':=get_map (g:=Bv) hl
  have hin:=A2 (show l∈AG al 6 from List.mem_of_getElem? hl)
  have htx:=EU (TB:=TB) l hin.1 (by omega)
  (repeat' first|refine sN rfl ?_ |refine tA rfl ?_ |refine s2 rfl fun _ _hb=>?_ |refine s3 rfl ?_ ?_<;>rintro rfl |refine aU rfl ?_ |refine Aa ?_|(refine aC rfl ?_ ?_<;>rintro⟨⟩));all_goals try contradiction
  all_goals first| (exfalso;(simp only[oZ] at *;omega);done)|skip
  refine aK ?_
  refine aS (aB ?_)
  (repeat first|refine sN rfl ?_ |refine tA rfl ?_ |refine aU rfl ?_)
  (refine pW rfl ?_ rfl (by rfl);refine Ae [0] rfl rfl (hp2) ⟨rfl,by decide,by decide⟩ rfl (by simp[cX,zC,hΓ]) ?_;rintro x0 σ1 nx1 ⟨rfl,rfl,rfl⟩ _)
  (repeat first|(refine sA rfl ?_ ?_;first|exact tI|omega|simp only[oZ] at *;omega) |(refine s4 rfl ‹_› rfl ?_ ?_;omega) |refine sP rfl (htx) rfl ?_ |refine aU rfl ?_ |refine Aa ?_)
  refine⟨⟨⟨k - 1,q+1,w++[UInt8.ofNat (97+l.toNat)]⟩,by dsimp only;omega,by dsimp only;omega,by simp;omega⟩,by dsimp only;(omega),[0],?_⟩
  have ek:((k - 1:Nat):Int)=k - 1:=by omega
  simp[cX,zC,hΓ,cN,ek]
 ·(repeat' first|refine sN rfl ?_ |refine tA rfl ?_ |refine s2 rfl fun _ _hb=>?_ |refine s3 rfl ?_ ?_<;>rintro rfl |refine aU rfl ?_ |refine Aa ?_|(refine aC rfl ?_ ?_<;>rintro⟨⟩));all_goals try contradiction
  all_goals first| (exfalso;(simp only[oZ] at *;omega);done)|skip
  all_goals (refine aE ?_;(repeat first|refine tA rfl ?_ |refine aU rfl ?_ |refine Aa ?_);exact aR ⟨_,rfl,[0],eT w,[(0,AV b q)],⟨by intro i hi;match i with|0=>rfl,by decide⟩,rfl,by (simp[cX,zC,hΓ,cN]),q,w,by omega,by omega,rfl,rfl,rfl⟩)
theorem Mh(s:W)(hs:s.length≤100)(n:Nat)(hn:n≤100000):Spec Tryz.prog TB 76 [] 0 [eT s,eI .i64 (n:Int)] (C1 (fun r:W=>r.length≤s.length*n) eT):=by
 have hmul:s.length*n≤100*100000:=Nat.mul_le_mul hs hn
 refine eR Tryz.func76 rfl (by kernel_rfl) rfl ?_;intro Γ hΓ
 (repeat first|refine tA rfl ?_ |refine aU rfl ?_ |refine Aa ?_)
 refine aB ?_
 refine aL (α:={x:Nat×W×W // x.2.1.length*x.1+x.2.2.length≤s.length*n∧x.2.1.length≤20000000∧x.1≤100000}) [] [] rfl rfl (fun s=>[(0,eT s.1.2.1),(1,eI .i64 s.1.1),(5,eT s.1.2.2)]) (fun s=>[]) 0 (fun s=>s.1.1) (⟨⟨n,s,[]⟩,by simp;omega⟩) hΓ rfl (by (simp[cX,zC,hΓ])) ?_;rintro⟨⟨k,t,o⟩,hk,ht,hkb⟩;(try dsimp only[cA,cB])
 have hk:t.length*k+o.length≤s.length*n:=hk
 have ht:t.length≤20000000:=ht
 have hkb:k≤100000:=hkb
 by_cases h0:k=0
 ·subst h0
  (repeat first|refine tA rfl ?_ |refine s2 rfl fun _ _hb=>?_ |refine aU rfl ?_ |refine Aa ?_)
  ((refine aC rfl ?_ ?_<;>rintro⟨⟩);all_goals try(exfalso;(simp only[oZ] at *;omega)))
  refine aE ?_
  (repeat first|refine tA rfl ?_ |refine aU rfl ?_ |refine Aa ?_)
  refine aR ⟨_,rfl,[],eT o,[],⟨by intro i hi;omega,by decide⟩,rfl,trivial,o,by omega,rfl,rfl,rfl⟩
 ·have h1:t.length*1≤t.length*k:=Nat.mul_le_mul_left _ (by omega)
  have e2:((k:Int) / 2)=((k / 2:Nat):Int):=by omega
  obtain⟨j,hj|hj⟩:∃j,k=2*j∨k=2*j+1:=⟨k / 2,by omega⟩
  ·have hd:k / 2=j:=by omega
   have hm:t.length*k=t.length*j+t.length*j:=by rw [hj,Nat.mul_comm 2 j,Nat.mul_two,Nat.mul_add]
   (repeat first|refine tA rfl ?_ |refine s2 rfl fun _ _hb=>?_ |refine aU rfl ?_ |refine Aa ?_)
   ((refine aC rfl ?_ ?_<;>rintro⟨⟩);all_goals try(exfalso;(simp only[oZ] at *;omega)))
   refine aK ?_
   refine aB ?_
   (repeat first|(refine sA rfl ?_ ?_;first|exact tI|omega) |refine s2 rfl fun _ _hb=>?_ |refine aU rfl ?_ |refine Aa ?_)
   ((refine aC rfl ?_ ?_<;>rintro⟨⟩);all_goals try(exfalso;(simp only[oZ] at *;omega)))
   refine aK ?_
   (repeat first|(refine sA rfl ?_ ?_;first|exact tI|omega) |refine aU rfl ?_ |refine Aa ?_)
   refine⟨⟨⟨k / 2,t++t,o⟩,by dsimp only;rw [hd,List.length_append,Nat.add_mul];omega,by simp;omega,by dsimp only;omega⟩,by dsimp only;(omega),[],?_⟩
   (simp[cX,zC,hΓ,cN]<;>rfl)
  ·have hd:k / 2=j:=by omega
   have hm:t.length*k=t.length*j+t.length*j+t.length:=by rw [hj,Nat.mul_add,Nat.mul_comm 2 j,Nat.mul_two,Nat.mul_add,Nat.mul_one]
   (repeat first|refine tA rfl ?_ |refine s2 rfl fun _ _hb=>?_ |refine aU rfl ?_ |refine Aa ?_)
   ((refine aC rfl ?_ ?_<;>rintro⟨⟩);all_goals try(exfalso;(simp only[oZ] at *;omega)))
   refine aK ?_
   refine aB ?_
   (repeat first|(refine sA rfl ?_ ?_;first|exact tI|omega) |refine s2 rfl fun _ _hb=>?_ |refine aU rfl ?_ |refine Aa ?_)
   ((refine aC rfl ?_ ?_<;>rintro⟨⟩);all_goals try(exfalso;(simp only[oZ] at *;omega)))
   (repeat first|(refine sA rfl ?_ ?_;first|exact tI|omega) |refine aU rfl ?_ |refine Aa ?_)
   refine⟨⟨⟨k / 2,t++t,o++t⟩,by dsimp only;rw [hd,List.length_append,List.length_append,Nat.add_mul];omega,by simp;omega,by dsimp only;omega⟩,by dsimp only;(omega),[],?_⟩
   (simp[cX,zC,hΓ,cN]<;>rfl)
end Go.Am
