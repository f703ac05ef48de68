/-
  Systems as texts and back: walked: any that are not too big will do.
-/
import Derived.Test.YtkkihplpglchjaaGreatDoorPart22
import Derived.Test.YtkkihplpglchjaaGreatDoorPart18
import Derived.Test.YtkkihplpglchjaaGreatDoorPart21
set_option linter.constructorNameAsVariable false
set_option linter.unusedSimpArgs false
set_option linter.unusedVariables false
namespace Go.Am
open Go Go.Proofs
set_option maxHeartbeats 1000000
attribute [local irreducible] A1 BZ Lex Bj Ai Spec
variable {TB:Bh}
abbrev cn(r:Eb×Bool):E:=.t [(true,(Bf r.1)),(false,[.d (bD r.2)])]
theorem Rx(w0:W)(hs:w0.length≤1000000):Spec Tryz.prog TB 188 [] 0 [eT w0] (C1 (fun _:Eb×Bool=>True) cn):=by
 refine eR Tryz.func188 rfl (by kernel_rfl) rfl ?_;intro Γ hΓ
 (repeat first|refine tA rfl ?_ |refine aU rfl ?_ |refine Aa ?_)
 refine aB ?_
 refine aL (α:={k:Nat // k≤w0.length}) [0] [] rfl rfl (fun s=>[(2,.o (.ptr 0 3 0 0)),(4,eI .i64 s.1)]) (fun s=>[(0,.cells 163 3 [Bf ⟨0,0,0⟩])]) 1 (fun s=>w0.length - s.1) (⟨0,by omega⟩) hΓ rfl (by (simp[cX,zC,hΓ,cN])) ?_;rintro⟨k,hk⟩;(try dsimp only[cA,cB])
 by_cases hlt:k < w0.length
 ·obtain⟨c,hc⟩:=get_some (l:=w0) (k:=(k:Int).toNat) (by omega)
  have hcl:=c.toNat_lt
  have hla:=HQ (TB:=TB) w0 k c hc
  (repeat first|refine tA rfl ?_ |refine s2 rfl fun _ _hb=>?_ |refine aU rfl ?_ |refine Aa ?_)
  ((refine aC rfl ?_ ?_<;>rintro⟨⟩);all_goals try(exfalso;(simp only[oZ] at *;omega)))
  refine aK ?_
  refine aS (aB ?_)
  (repeat' first|refine tA rfl ?_ |(refine s4 rfl ‹_› rfl ?_ ?_;omega) |refine s2 rfl fun _ _hb=>?_ |refine s3 rfl ?_ ?_<;>rintro rfl |refine aU rfl ?_ |refine Aa ?_|(refine aC rfl ?_ ?_<;>rintro⟨⟩));all_goals try contradiction
  all_goals first| (exfalso;omega;done)|skip
  ·(repeat first| (refine Af rfl ?_;refine gA rfl ?_;first| refine gS (fun _ _=>Ls rfl rfl (by omega) (by omega)) ?_))
   (refine pW rfl ?_ rfl (by rfl);refine Ae [] rfl rfl (HP (TB:=TB) (w0.take (k:Int).toNat) (by simp;omega)) ⟨rfl,by decide,by decide⟩ rfl trivial ?_;rintro x0 σ1 nx1 ⟨⟨n1,o1⟩,_,rfl,rfl,rfl⟩ _)
   (repeat first|(refine sA rfl ?_ ?_;first|exact tI|omega)|(refine Af rfl ?_;refine gA rfl ?_;first| refine gS (fun _ _=>C5 rfl rfl (by omega) (by omega)) ?_) |refine aU rfl ?_ |refine Aa ?_)
   (refine pW rfl ?_ rfl (by rfl);refine Ae [] rfl rfl (HP (TB:=TB) (w0.drop ((k:Int)+1).toNat) (by simp;omega)) ⟨rfl,by decide,by decide⟩ rfl trivial ?_;rintro x0 σ1 nx1 ⟨⟨n2,o2⟩,_,rfl,rfl,rfl⟩ _)
   (repeat' first|refine tA rfl ?_ |refine sP rfl (hla) rfl ?_|(refine Af rfl ?_;refine gA rfl ?_;first| refine gS (fun _ _=>Av rfl rfl (by rfl) (by rfl)) ?_) |refine s3 rfl ?_ ?_<;>rintro rfl |refine aU rfl ?_ |refine Aa ?_|(refine aC rfl ?_ ?_<;>rintro⟨⟩))
   all_goals first
    | exact aR ⟨_,rfl,[],cn (⟨n1,(c.toNat:Int) - 97,n2⟩,o2),[],⟨fun i hi=>absurd hi (Nat.not_lt_zero i),List.nodup_nil⟩,rfl,trivial,(⟨n1,(c.toNat:Int) - 97,n2⟩,o2),trivial,rfl,rfl,rfl⟩
    | exact aR ⟨_,rfl,[],cn (⟨n1,(c.toNat:Int) - 97,n2⟩,false),[],⟨fun i hi=>absurd hi (Nat.not_lt_zero i),List.nodup_nil⟩,rfl,trivial,(⟨n1,(c.toNat:Int) - 97,n2⟩,false),trivial,rfl,rfl,rfl⟩
  all_goals
   refine aK ?_
   (repeat first|(refine sA rfl ?_ ?_;first|exact tI|omega) |refine aU rfl ?_ |refine Aa ?_)
   refine⟨⟨k+1,by omega⟩,by dsimp only;(omega),[0],?_⟩
   (simp[cX,zC,hΓ,cN]<;>rfl)
 ·(repeat first|refine tA rfl ?_ |refine s2 rfl fun _ _hb=>?_ |refine aU rfl ?_ |refine Aa ?_)
  ((refine aC rfl ?_ ?_<;>rintro⟨⟩);all_goals try(exfalso;(simp only[oZ] at *;omega)))
  refine aE ?_
  (repeat first|refine tA rfl ?_|(refine Af rfl ?_;refine gA rfl ?_;first| refine gS (fun _ _=>Av rfl rfl (by rfl) (by rfl)) ?_) |refine aU rfl ?_ |refine Aa ?_)
  exact aR ⟨_,rfl,[],cn (⟨0,0,0⟩,false),[],⟨fun i hi=>absurd hi (Nat.not_lt_zero i),List.nodup_nil⟩,rfl,trivial,(⟨0,0,0⟩,false),trivial,rfl,rfl,rfl⟩
theorem GZ(y:Sys)(hb:y.es.length≤100000):Spec Tryz.prog TB 189 [] 0 [Dr y] (C1 (fun r:W=>r.length≤1000000) eT):=by
 have hv:=CP (TB:=TB) y
 refine eR Tryz.func189 rfl (by kernel_rfl) rfl ?_;intro Γ hΓ
 (repeat first|refine tA rfl ?_ |refine s2 rfl fun _ _hb=>?_ |(refine sC rfl (hv) ?_;intro _ _hb) |refine aU rfl ?_ |refine Aa ?_)
 (refine aC rfl ?_ ?_<;>rintro⟨⟩)
 ·(repeat first|refine tA rfl ?_ |refine aU rfl ?_ |refine Aa ?_)
  exact aR ⟨_,rfl,[],eT [],[],⟨fun i hi=>absurd hi (Nat.not_lt_zero i),List.nodup_nil⟩,rfl,trivial,[],Nat.zero_le _,rfl,rfl,rfl⟩
 have hok:Bw y=true:=by (simp at _hb;subst _hb;assumption)
 have hh:=BY hok
 refine aK ?_
 (repeat first|refine aU rfl ?_)
 refine rG ⟨E7 [(2,1),(6,1)],Vx [0,1,4,5,2,3,6,7,8]⟩ (by kernel_rfl) ?_
 (repeat first|refine tA rfl ?_)
 (refine pW rfl ?_ rfl (by rfl);refine Ae [] rfl rfl (DO (TB:=TB) y.al) ⟨rfl,by decide,by decide⟩ rfl trivial ?_;rintro x0 σ1 nx1 ⟨w1,hw1,rfl,rfl,rfl⟩ _)
 (repeat first|(refine sA rfl ?_ ?_;simp only[oZ] at *;omega))
 (refine pW rfl ?_ rfl (by rfl);refine Ae [] rfl rfl (Gh (TB:=TB) y.st (by omega)) ⟨rfl,by decide,by decide⟩ rfl trivial ?_;rintro x0 σ1 nx1 ⟨w2,hw2,rfl,rfl,rfl⟩ _)
 (repeat first|(refine sA rfl ?_ ?_;first|exact tI|simp only[oZ] at *;omega) |refine aU rfl ?_ |refine Aa ?_)
 refine aB ?_
 refine aL (α:={z:Nat×W // z.1≤y.es.length∧z.2.length≤10+9*z.1}) [1] [] rfl rfl (fun s=>[(3,eT s.1.2),(4,eI .i64 s.1.1)]) (fun s=>[]) 0 (fun s=>y.es.length - s.1.1) (⟨⟨0,w1++[32]++w2⟩,by simp;omega⟩) hΓ rfl (by (simp[cX,zC,hΓ])) ?_;rintro⟨⟨k,w⟩,hk,hw⟩;(try dsimp only[cA,cB])
 have hk:k≤y.es.length:=hk
 have hw:w.length≤10+9*k:=hw
 by_cases hlt:k < y.es.length
 ·obtain⟨e,he⟩:=get_some hlt
  have he':=get_map (g:=Dk) he
  have hee:(y.es.map Dk)[((k:Nat):Int).toNat]? = some (Dk e):=by rw [Int.toNat_natCast];exact he'
  have hb:=CQ hok (List.mem_of_getElem? he)
  unfold Dc at hb
  simp only [Bool.and_eq_true,decide_eq_true_eq] at hb
  (repeat first|refine sN rfl ?_ |refine tA rfl ?_ |refine s2 rfl fun _ _hb=>?_ |refine aU rfl ?_ |refine Aa ?_)
  ((refine aC rfl ?_ ?_<;>rintro⟨⟩);all_goals try(exfalso;(simp only[oZ] at *;omega)))
  refine aK ?_
  refine aS (aB ?_)
  (repeat first|refine tA rfl ?_ |(refine s4 rfl ‹_› rfl ?_ ?_;omega) |refine aU rfl ?_ |refine Aa ?_)
  refine rG ⟨E7 [(3,10),(7,10),(11,10),(4,1001),(12,1001)],Vx [0,1,2,3,6,7,10,11,4,5,8,9,12,13,14]⟩ (by kernel_rfl) ?_
  (repeat first|(refine sA rfl ?_ ?_;first|exact tI|simp only[oZ] at *;omega))
  (refine Af rfl ?_;refine BR ?_ rfl ⟨rfl,rfl⟩;refine Ae [] rfl rfl (Gh (TB:=TB) e.f (by omega)) ⟨rfl,by decide,by decide⟩ rfl trivial ?_;rintro x0 σ1 nx1 ⟨d1,hd1,rfl,rfl,rfl⟩ _;refine⟨CK 0 rfl rfl,?_⟩)
  (repeat first|(refine sA rfl ?_ ?_;simp only[oZ] at *;omega) |refine sP rfl (EU e.l (by omega) (by omega)) rfl ?_)
  (refine Af rfl ?_;refine BR ?_ rfl ⟨rfl,rfl⟩;refine Ae [] rfl rfl (Gh (TB:=TB) e.t (by omega)) ⟨rfl,by decide,by decide⟩ rfl trivial ?_;rintro x0 σ1 nx1 ⟨d2,hd2,rfl,rfl,rfl⟩ _;refine⟨CK 0 rfl rfl,?_⟩)
  (repeat first|(refine sA rfl ?_ ?_;first|exact tI|omega|simp only[oZ] at *;omega) |refine aU rfl ?_ |refine Aa ?_)
  refine⟨⟨⟨k+1,w++[32]++d1++[UInt8.ofNat (97+e.l.toNat)]++d2⟩,by dsimp only;omega,by simp;omega⟩,by dsimp only;(omega),[],?_⟩
  (simp[cX,zC,hΓ,cN]<;>rfl)
 ·have hke:k=y.es.length:=by omega
  (repeat first|refine sN rfl ?_ |refine tA rfl ?_ |refine s2 rfl fun _ _hb=>?_ |refine aU rfl ?_ |refine Aa ?_)
  ((refine aC rfl ?_ ?_<;>rintro⟨⟩);all_goals try(exfalso;(simp only[oZ] at *;omega)))
  refine aE ?_
  (repeat first|refine tA rfl ?_ |refine aU rfl ?_ |refine Aa ?_)
  exact aR ⟨_,rfl,[],eT w,[],⟨fun i hi=>absurd hi (Nat.not_lt_zero i),List.nodup_nil⟩,rfl,trivial,w,by show w.length≤_;omega,rfl,rfl,rfl⟩
abbrev YR(r:Sys×Bool):E:=.t [(true,[.d (iD r.1.al),.d (iD r.1.st),.d (FK r.1.es)]),(false,[.d (bD r.2)])]
def Jj(al n:Int):List Eb→Ab
 | []=>[(1,.cells 29 3 [[.d (iD al),.d (iD n),.d (.v (.slice none 0 0))]])]
 | e::l=>[(1,.cells 29 3 [[.d (iD al),.d (iD n),.arr 2 3 0 (l.length+1)]]),(2,.cells 163 3 ((e::l).map Bf))]
theorem Hh(w0:W)(hs:w0.length≤10000):Spec Tryz.prog TB 155 [] 0 [eT w0] (C1 (fun r:Sys×Bool=>r.1.es.length≤w0.length+1) YR):=by
  refine eR Tryz.func155 rfl (by kernel_rfl) rfl ?_;intro Γ hΓ
  (repeat first|refine tA rfl ?_ |refine aU rfl ?_ |refine Aa ?_)
  (refine pW rfl ?_ rfl (by rfl);refine Ae [] rfl rfl (Kd (TB:=TB) w0 (by omega) 32) ⟨rfl,by decide,by decide⟩ rfl trivial ?_;rintro x0 σ1 nx1 ⟨ps,⟨hp1,hp2,hp3⟩,rfl,rfl,rfl⟩ _)
  (repeat first|refine sN rfl ?_ |refine tA rfl ?_ |refine s2 rfl fun _ _hb=>?_ |refine aU rfl ?_ |refine Aa ?_)
  by_cases hl2:ps.length < 2
  · ((refine aC rfl ?_ ?_<;>rintro⟨⟩);all_goals try(exfalso;(simp only[oZ] at *;omega)))
    (repeat first|refine tA rfl ?_|(refine Af rfl ?_;refine gA rfl ?_;first| refine gS (fun _ _=>Av rfl rfl (by rfl) (by rfl)) ?_) |refine aU rfl ?_ |refine Aa ?_)
    exact aR ⟨_,rfl,[],YR (⟨0,0,[]⟩,false),[],⟨fun i hi=>absurd hi (Nat.not_lt_zero i),List.nodup_nil⟩,rfl,trivial,(⟨0,0,[]⟩,false),Nat.zero_le _,rfl,rfl,rfl⟩
  ((refine aC rfl ?_ ?_<;>rintro⟨⟩);all_goals try(exfalso;(simp only[oZ] at *;omega)))
  refine aK ?_
  obtain⟨p0,h0⟩:=get_some (l:=ps) (k:=(0:Int).toNat) (by simp;omega)
  have h0':=get_map (g:=BD) h0
  obtain⟨p1,h1⟩:=get_some (l:=ps) (k:=(1:Int).toNat) (by simp;omega)
  have h1':=get_map (g:=BD) h1
  have hp1l:=hp3 p1 (List.mem_of_getElem? h1)
  (repeat first|refine tA rfl ?_ |(refine s4 rfl ‹_› rfl ?_ ?_;omega) |refine aU rfl ?_)
  (refine pW rfl ?_ rfl (by rfl);refine Ae [] rfl rfl (FR (TB:=TB) p0) ⟨rfl,by decide,by decide⟩ rfl trivial ?_;rintro x0 σ1 nx1 ⟨⟨n,ok⟩,_,rfl,rfl,rfl⟩ _)
  (repeat first|refine tA rfl ?_ |(refine s4 rfl ‹_› rfl ?_ ?_;omega) |refine aU rfl ?_ |refine Aa ?_)
  (refine pW rfl ?_ rfl (by rfl);refine Ae [] rfl rfl (HP (TB:=TB) p1 (by omega)) ⟨rfl,by decide,by decide⟩ rfl trivial ?_;rintro x0 σ1 nx1 ⟨⟨st,ok2⟩,_,rfl,rfl,rfl⟩ _)
  (repeat first|refine tA rfl ?_ |refine s2 rfl fun _ _hb=>?_ |refine s3 rfl ?_ ?_<;>rintro rfl |refine aU rfl ?_ |refine Aa ?_)
  (repeat' first|refine tA rfl ?_ |refine s2 rfl fun _ _hb=>?_ |refine aU rfl ?_ |refine Aa ?_|(refine aC rfl ?_ ?_<;>rintro⟨⟩));all_goals try contradiction
  all_goals first
    | ((repeat first|refine tA rfl ?_|(refine Af rfl ?_;refine gA rfl ?_;first| refine gS (fun _ _=>Av rfl rfl (by rfl) (by rfl)) ?_) |refine Aa ?_)
       exact aR ⟨_,rfl,[],YR (⟨0,0,[]⟩,false),[],⟨fun i hi=>absurd hi (Nat.not_lt_zero i),List.nodup_nil⟩,rfl,trivial,(⟨0,0,[]⟩,false),Nat.zero_le _,rfl,rfl,rfl⟩
       done)
    | skip
  refine aK ?_
  (repeat first|refine tA rfl ?_|(refine Af rfl ?_;refine gA rfl ?_;first| refine gS (fun _ _=>MD rfl rfl (by rfl) (by rfl)) ?_) |refine aU rfl ?_ |refine Aa ?_)
  refine aB ?_
  refine aL (α:={z:Nat×List Eb // (2≤z.1∧z.1≤ps.length)∧z.2.length+2=z.1}) [0,4] [] rfl rfl (fun s=>[(2,.o (.ptr 0 3 0 0)),(9,.o (.ptr 1 3 0 0)),(10,eI .i64 s.1.1)]) (fun s=>((0,.cells 29 3 [[.d (iD 0),.d (iD 0),.d (.l [])]])::Jj n st s.1.2)) 3 (fun s=>ps.length - s.1.1) (⟨⟨2,[]⟩,by simp;omega⟩) hΓ rfl (by (simp[cX,zC,hΓ,Jj,cN])) ?_;rintro⟨⟨k,l⟩,hk,hl⟩;(try dsimp only[cA,cB])
  have hk:2≤k∧k≤ps.length:=hk
  have hl:l.length+2=k:=hl
  (repeat first|refine sN rfl ?_ |refine tA rfl ?_ |refine s2 rfl fun _ _hb=>?_ |refine aU rfl ?_ |refine Aa ?_)
  ((refine aC rfl ?_ ?_<;>rintro⟨⟩);all_goals try (simp at _hb;done))
  · have hlt:k < ps.length:=by (simp only[oZ] at *;omega)
    obtain⟨w,hw⟩:=get_some (l:=ps) (k:=k) hlt
    have hw':=get_map (g:=BD) hw
    have hwl:=hp3 w (List.mem_of_getElem? hw)
    refine aK ?_
    refine aS (aB ?_)
    (repeat first|refine tA rfl ?_ |(refine s4 rfl ‹_› rfl ?_ ?_;omega) |refine aU rfl ?_)
    (refine pW rfl ?_ rfl (by rfl);refine Ae [] rfl rfl (Rx (TB:=TB) w (by omega)) ⟨rfl,by decide,by decide⟩ rfl trivial ?_;rintro x0 σ1 nx1 ⟨⟨⟨e1,e2,e3⟩,ok3⟩,_,rfl,rfl,rfl⟩ _)
    (repeat first|refine tA rfl ?_ |refine s2 rfl fun _ _hb=>?_ |refine aU rfl ?_ |refine Aa ?_)
    (refine aC rfl ?_ ?_<;>rintro⟨⟩)
    · (repeat first|refine tA rfl ?_|(refine Af rfl ?_;refine gA rfl ?_;first| refine gS (fun _ _=>Av rfl rfl (by rfl) (by rfl)) ?_) |refine aU rfl ?_ |refine Aa ?_)
      exact aR ⟨_,rfl,[],YR (⟨0,0,[]⟩,false),[],⟨fun i hi=>absurd hi (Nat.not_lt_zero i),List.nodup_nil⟩,rfl,trivial,(⟨0,0,[]⟩,false),Nat.zero_le _,rfl,rfl,rfl⟩
    refine aK ?_
    cases l with
    | nil=>
      (repeat first|refine tA rfl ?_ |refine aU rfl ?_)
      (refine pW rfl ?_ rfl (by rfl);refine Qn 61 rfl ?_;refine CC rfl rfl rfl (by intro r hr;simp at hr;subst hr;rfl) (by rfl) (Nat.le_of_ble_eq_true rfl) (by simp) (fun h=>?_) (fun _=>?_))
      · exact absurd h (by simp)
      (repeat first|(refine sA rfl ?_ ?_;first|exact tI|omega) |refine aU rfl ?_ |refine Aa ?_)
      refine⟨⟨⟨k+1,[⟨e1,e2,e3⟩]⟩,⟨by dsimp only;omega,by dsimp only;omega⟩,by simp at hl;simp;omega⟩,by dsimp only;(omega),[0,1,4],?_⟩
      (simp[cX,zC,hΓ,cN,Jj,Ag,eC]<;>rfl)
    | cons r0 l=>
      (repeat first|refine tA rfl ?_ |refine aU rfl ?_)
      (refine pW rfl ?_ rfl (by rfl);refine Ax rfl rfl rfl (by first| (simp;done)|(simp;(omega))) rfl (by intro r hr;simp at hr;subst hr;rfl) (by rfl) (Nat.le_of_ble_eq_true rfl) (by simp at hl ⊢;omega) ?_)
      (repeat first|(refine sA rfl ?_ ?_;first|exact tI|omega) |refine aU rfl ?_ |refine Aa ?_)
      refine⟨⟨⟨k+1,r0::(l++[⟨e1,e2,e3⟩])⟩,⟨by dsimp only;omega,by dsimp only;omega⟩,by simp at hl ⊢;omega⟩,by dsimp only;(omega),[0,1,4],?_⟩
      (simp[cX,zC,hΓ,cN,Jj,Ag,eC]<;>rfl)
  refine aE ?_
  have hkn:k=ps.length:=by (simp only[oZ] at *;omega)
  have hll:l.length≤w0.length+1:=by omega
  cases l with
  | nil=>
    refine Ai.AF [1] [(0,eT w0),(2,.o (.ptr 0 3 0 0)),(9,.o (.ip (B9 ⟨n,st,[]⟩)))] ⟨⟨_,rfl,.inl rfl⟩,⟨_,rfl,.inl rfl⟩,⟨_,rfl,.inr (.o (.box rfl (.cons .d (.cons .d (.cons .nl .nil)))))⟩,trivial⟩ ?_
    (repeat first|refine tA rfl ?_ |refine aU rfl ?_)
    (refine pW rfl ?_ rfl (by rfl);refine Ae [] rfl rfl (GZ (TB:=TB) ⟨n,st,[]⟩ (by simp)) ⟨rfl,by decide,by decide⟩ rfl trivial ?_;rintro x0 σ1 nx1 ⟨w9,hw9,rfl,rfl,rfl⟩ _)
    (repeat first|refine tA rfl ?_ |refine s2 rfl fun _ _hb=>?_ |refine Aa ?_)
    (refine aC rfl ?_ ?_<;>rintro⟨⟩)
    · (repeat first|refine tA rfl ?_|(refine Af rfl ?_;refine gA rfl ?_;first| refine gS (fun _ _=>Av rfl rfl (by rfl) (by rfl)) ?_) |refine aU rfl ?_ |refine Aa ?_)
      exact aR ⟨_,rfl,[],YR (⟨0,0,[]⟩,false),[],⟨fun i hi=>absurd hi (Nat.not_lt_zero i),List.nodup_nil⟩,rfl,trivial,(⟨0,0,[]⟩,false),Nat.zero_le _,rfl,rfl,rfl⟩
    refine aK ?_
    (repeat first|refine tA rfl ?_ |refine aU rfl ?_ |refine Aa ?_)
    exact aR ⟨_,rfl,[],YR (⟨n,st,[]⟩,true),[],⟨fun i hi=>absurd hi (Nat.not_lt_zero i),List.nodup_nil⟩,rfl,trivial,(⟨n,st,[]⟩,true),Nat.zero_le _,rfl,rfl,rfl⟩
  | cons r0 l=>
    refine Ai.AF [1,2] [(0,eT w0),(2,.o (.ptr 0 3 0 0)),(9,.o (.ip (B9 ⟨n,st,r0::l⟩)))] ⟨⟨_,rfl,.inl rfl⟩,⟨_,rfl,.inl rfl⟩,⟨_,rfl,.inr (.o (.box rfl (.cons .d (.cons .d (.cons (.full rfl (by simp [Function.comp_def]) (by simp)) .nil)))))⟩,trivial⟩ ?_
    (repeat first|refine tA rfl ?_ |refine aU rfl ?_)
    (refine pW rfl ?_ rfl (by rfl);refine Ae [] rfl rfl (GZ (TB:=TB) ⟨n,st,r0::l⟩ (by simp at hll ⊢;omega)) ⟨rfl,by decide,by decide⟩ rfl trivial ?_;rintro x0 σ1 nx1 ⟨w9,hw9,rfl,rfl,rfl⟩ _)
    (repeat first|refine tA rfl ?_ |refine s2 rfl fun _ _hb=>?_ |refine Aa ?_)
    (refine aC rfl ?_ ?_<;>rintro⟨⟩)
    · (repeat first|refine tA rfl ?_|(refine Af rfl ?_;refine gA rfl ?_;first| refine gS (fun _ _=>Av rfl rfl (by rfl) (by rfl)) ?_) |refine aU rfl ?_ |refine Aa ?_)
      exact aR ⟨_,rfl,[],YR (⟨0,0,[]⟩,false),[],⟨fun i hi=>absurd hi (Nat.not_lt_zero i),List.nodup_nil⟩,rfl,trivial,(⟨0,0,[]⟩,false),Nat.zero_le _,rfl,rfl,rfl⟩
    refine aK ?_
    (repeat first|refine tA rfl ?_ |refine aU rfl ?_ |refine Aa ?_)
    exact aR ⟨_,rfl,[],YR (⟨n,st,r0::l⟩,true),[],⟨fun i hi=>absurd hi (Nat.not_lt_zero i),List.nodup_nil⟩,rfl,trivial,(⟨n,st,r0::l⟩,true),hll,rfl,rfl,rfl⟩
def OU(s:Sys)(p:BT)(o:Sys):Int:=if Bw s && (A5 p && Bw o) then Ey .i64 (Ud .i64 s.al p.al) o.al else -1
theorem Mc(s:Sys)(p:BT)(o:Sys):Pure Tryz.prog TB 151 [Dr s,BL p,Dr o] (eI .i64 (OU s p o)):=by
 unfold OU
 refine eN Tryz.func151 rfl (by kernel_rfl) rfl ?_;intro Γ hΓ
 (repeat' first|refine tA rfl ?_ |refine s2 rfl fun _ _hb=>?_ |(refine sC rfl (CP s) ?_;intro _ _hb)|(refine sC rfl (Bg p) ?_;intro _ _hb)|(refine sC rfl (CP o) ?_;intro _ _hb) |refine s3 rfl ?_ ?_<;>rintro rfl |refine aU rfl ?_ |refine Aa ?_|(refine aC rfl ?_ ?_<;>rintro⟨⟩)|refine aK ?_|refine aE ?_|refine aB ?_|refine aR ⟨_,rfl,?_⟩)
 all_goals first
  | (show E.o _=E.o _;simp_all;done)
  | trace_state
def ED(m n:Nat):Nat:=(List.range n).countP (m.testBit ·)
theorem RU(m n:Nat):ED m (n+1)=if m.testBit n then ED m n+1 else ED m n:=by
 unfold ED
 rw [List.range_succ,List.countP_append]
 cases h:m.testBit n<;>simp [h]
theorem W9(m n:Nat):ED m n≤n:=by
 unfold ED
 have:=List.countP_le_length (p:=(m.testBit ·)) (l:=List.range n)
 rwa [List.length_range] at this
theorem Ke(m:Nat)(hm:m < 2 ^ 62)(n:Nat)(hn:n≤60):Pure Tryz.prog TB 184 [eI .i64 (m:Nat),eI .i64 (n:Nat)] (eI .i64 (ED m n:Nat)):=by
 refine eG Tryz.func184 rfl (by kernel_rfl) rfl ?_;intro Γ hΓ
 (repeat first|refine tA rfl ?_ |refine aU rfl ?_ |refine Aa ?_)
 refine aB ?_
 refine aL (α:={k:Nat // k≤n}) [0,1] [] rfl rfl (fun ⟨k,hk⟩=>[(5,eI .i64 (ED m k:Nat)),(6,eI .i64 k)]) (fun ⟨k,hk⟩=>[]) 0 (fun ⟨k,hk⟩=>n - k) (⟨0,by omega⟩) hΓ rfl (by (simp[cX,zC,hΓ]<;>rfl)) ?_;rintro⟨k,hk⟩;(try dsimp only[cA,cB])
 by_cases hlt:k < n
 ·have hr:=W9 m k
  have hs:=RU m k
  have hh:=CS (TB:=TB) (m:Nat) (k:Int) (by omega) (by omega)
  rw [Jb hm (by omega)] at hh
  (repeat first|refine tA rfl ?_ |refine s2 rfl fun _ _hb=>?_ |refine aU rfl ?_ |refine Aa ?_)
  ((refine aC rfl ?_ ?_<;>rintro⟨⟩);all_goals try(exfalso;(simp only[oZ] at *;omega)))
  refine aK ?_
  refine aS (aB ?_)
  (repeat first|refine tA rfl ?_ |(refine sC rfl (hh) ?_;intro _ _hb) |refine aU rfl ?_ |refine Aa ?_)
  (refine aC rfl ?_ ?_<;>rintro⟨⟩)
  ·have hb:m.testBit k=true:=by simpa using _hb
   rw [if_pos hb] at hs
   (repeat first|(refine sA rfl ?_ ?_;first|exact tI|omega) |refine aU rfl ?_ |refine Aa ?_)
   refine⟨⟨k+1,by omega⟩,by dsimp only;(omega),[],?_⟩
   simp[cX,zC,hΓ,hs]
  ·have hb:m.testBit k=false:=by simpa using _hb
   rw [if_neg (by simp [hb])] at hs
   refine aK ?_
   (repeat first|(refine sA rfl ?_ ?_;first|exact tI|omega) |refine aU rfl ?_ |refine Aa ?_)
   refine⟨⟨k+1,by omega⟩,by dsimp only;(omega),[],?_⟩
   simp[cX,zC,hΓ,hs]
 ·obtain rfl:k=n:=by omega
  (repeat first|refine tA rfl ?_ |refine s2 rfl fun _ _hb=>?_ |refine aU rfl ?_ |refine Aa ?_)
  ((refine aC rfl ?_ ?_<;>rintro⟨⟩);all_goals try(exfalso;(simp only[oZ] at *;omega)))
  refine aE ?_
  (repeat first|refine tA rfl ?_ |refine aU rfl ?_ |refine Aa ?_)
  (subst_vars;exact aR ⟨_,rfl,rfl⟩)
def Wf(al n:Int)(l:List Eb):Ab:=(0,.cells 29 3 [[.d (iD 0),.d (iD 0),.d (.l [])]])::Jj al n l
theorem Uh{y:Sys}(hs:Bw y=true)(hl:y.es.length≤100000)(m:Nat)(hm:m < 2 ^ 62):Spec Tryz.prog TB 152 [] 0 [Dr y,eI .i64 (m:Nat)] (C1 (fun r:Sys=>r.es.length≤y.es.length) Dr):=by
 have hh:=BY hs
 obtain⟨n0,hn0,hn1⟩:∃n0:Nat,y.st=n0∧n0≤16:=⟨y.st.toNat,by omega,by omega⟩
 have hrk:=Ke (TB:=TB) m hm n0 (by omega)
 rw [←hn0] at hrk
 refine eR Tryz.func152 rfl (by kernel_rfl) rfl ?_;intro Γ hΓ
 (repeat first|refine tA rfl ?_ |refine aU rfl ?_ |refine Aa ?_)
 refine rG (Nn [(7,1),(8,1)]) (by kernel_rfl) ?_
 (repeat first|refine tX rfl ?_ |refine sP rfl (hrk) rfl ?_|(refine Af rfl ?_;refine gA rfl ?_;first| refine gS (fun _ _=>MD rfl rfl (by rfl) (by rfl)) ?_) |refine aU rfl ?_ |refine Aa ?_)
 refine aB ?_
 refine aL (α:={z:Nat×List Eb // z.1≤y.es.length∧z.2.length≤z.1}) [1,2] [] rfl rfl (fun s=>[(4,.o (.ptr 0 3 0 0)),(5,.o (.ptr 1 3 0 0)),(6,eI .i64 s.1.1)]) (fun s=>Wf y.al (ED m n0:Nat) s.1.2) 3 (fun s=>y.es.length - s.1.1) (⟨⟨0,[]⟩,by simp⟩) hΓ rfl (by (simp[cX,zC,hΓ,Wf,Jj,cN])) ?_;rintro⟨⟨k,l⟩,hk,hl2⟩;(try dsimp only[cA,cB])
 have hk:k≤y.es.length:=hk
 have hl2:l.length≤k:=hl2
 by_cases hlt:k < y.es.length
 ·obtain⟨e,he⟩:=get_some hlt
  have he':=get_map (g:=Dk) he
  have hee:(y.es.map Dk)[((k:Nat):Int).toNat]? = some (Dk e):=by rw [Int.toNat_natCast];exact he'
  have hb:=CQ hs (List.mem_of_getElem? he)
  unfold Dc at hb
  simp only [Bool.and_eq_true,decide_eq_true_eq] at hb
  obtain⟨f0,hf0⟩:∃f0:Nat,e.f=f0:=⟨e.f.toNat,by omega⟩
  obtain⟨t0,ht0⟩:∃t0:Nat,e.t=t0:=⟨e.t.toNat,by omega⟩
  have hh1:=CS (TB:=TB) (m:Nat) e.f (by omega) (by omega)
  have hh2:=CS (TB:=TB) (m:Nat) e.t (by omega) (by omega)
  have hr1:=Ke (TB:=TB) m hm f0 (by omega)
  have hr2:=Ke (TB:=TB) m hm t0 (by omega)
  rw [←hf0] at hr1
  rw [←ht0] at hr2
  (repeat first|refine sN rfl ?_ |refine tA rfl ?_ |refine s2 rfl fun _ _hb=>?_ |refine aU rfl ?_ |refine Aa ?_)
  ((refine aC rfl ?_ ?_<;>rintro⟨⟩);all_goals try(exfalso;(simp only[oZ] at *;omega)))
  refine aK ?_
  refine aS (aB ?_)
  (repeat' first|refine tA rfl ?_ |(refine s4 rfl ‹_› rfl ?_ ?_;omega) |(refine sC rfl (hh1) ?_;intro _ _hb)|(refine sC rfl (hh2) ?_;intro _ _hb) |refine s3 rfl ?_ ?_<;>rintro rfl |refine aU rfl ?_ |refine Aa ?_|(refine aC rfl ?_ ?_<;>rintro⟨⟩));all_goals try contradiction
  ·obtain⟨eN,heN⟩:∃eN:Eb,eN=⟨(ED m f0:Nat),e.l,(ED m t0:Nat)⟩:=⟨_,rfl⟩
   cases l with
   | nil=>
    refine rG (Nn [(1,11),(4,13),(7,13),(10,13),(14,1),(16,1)]) (by kernel_rfl) ?_
    (repeat first|refine tA rfl ?_ |refine sP rfl (hr1) rfl ?_|refine sP rfl (hr2) rfl ?_|(refine Af rfl ?_;refine gA rfl ?_;first| refine gS (fun _ _=>Av rfl rfl (by rfl) (by rfl)) ?_))
    (refine pW rfl ?_ rfl (by rfl);refine Qn 38 rfl ?_;refine CC rfl rfl rfl (by intro r hr;simp at hr;subst hr;rfl) (by rfl) (Nat.le_of_ble_eq_true rfl) (by simp) (fun h=>?_) (fun _=>?_))
    ·exact absurd h (by simp)
    (repeat first|(refine sX rfl ?_ ?_;first|exact tI|omega) |refine aU rfl ?_ |refine Aa ?_)
    refine⟨⟨⟨k+1,[eN]⟩,by dsimp only;omega,by simp⟩,by dsimp only;(omega),[0,1,4],?_⟩
    (simp[cX,zC,hΓ,cN,Wf,Jj,Ag,eC,heN]<;>rfl)
   | cons r0 l=>
    refine rG (Nn [(1,11),(4,13),(7,13),(10,13),(14,1),(16,1)]) (by kernel_rfl) ?_
    (repeat first|refine tA rfl ?_ |refine sP rfl (hr1) rfl ?_|refine sP rfl (hr2) rfl ?_|(refine Af rfl ?_;refine gA rfl ?_;first| refine gS (fun _ _=>Av rfl rfl (by rfl) (by rfl)) ?_))
    (refine pW rfl ?_ rfl (by rfl);refine Ax rfl rfl rfl (by first| (simp;done)|(simp;(omega))) rfl (by intro r hr;simp at hr;subst hr;rfl) (by rfl) (Nat.le_of_ble_eq_true rfl) (by simp at hl2 ⊢;omega) ?_)
    (repeat first|(refine sX rfl ?_ ?_;first|exact tI|omega) |refine aU rfl ?_ |refine Aa ?_)
    refine⟨⟨⟨k+1,r0::(l++[eN])⟩,by dsimp only;omega,by simp at hl2 ⊢;omega⟩,by dsimp only;(omega),[0,1,4],?_⟩
    (simp[cX,zC,hΓ,cN,Wf,Jj,Ag,eC,heN]<;>rfl)
  all_goals
   refine aK ?_
   (repeat first|(refine sA rfl ?_ ?_;first|exact tI|omega) |refine aU rfl ?_ |refine Aa ?_)
   refine⟨⟨⟨k+1,l⟩,by dsimp only;omega,by dsimp only;omega⟩,by dsimp only;(omega),[0,1,2],?_⟩
   cases l<;>(simp[cX,zC,hΓ,cN,Wf,Jj]<;>rfl)
 ·have hke:k=y.es.length:=by omega
  (repeat first|refine sN rfl ?_ |refine tA rfl ?_ |refine s2 rfl fun _ _hb=>?_ |refine aU rfl ?_ |refine Aa ?_)
  ((refine aC rfl ?_ ?_<;>rintro⟨⟩);all_goals try(exfalso;(simp only[oZ] at *;omega)))
  refine aE ?_
  cases l with
  | nil=>
   refine Ai.AF [1] [(4,.o (.ptr 0 3 0 0)),(5,.o (.ip (B9 ⟨y.al,(ED m n0:Nat),[]⟩)))] ⟨⟨_,rfl,.inl rfl⟩,⟨_,rfl,.inr (.o (.box rfl (.cons .d (.cons .d (.cons .nl .nil)))))⟩,trivial⟩ ?_
   (repeat first|refine tA rfl ?_ |refine aU rfl ?_ |refine Aa ?_)
   exact aR ⟨_,rfl,[],Dr ⟨y.al,(ED m n0:Nat),[]⟩,[],⟨fun i hi=>absurd hi (Nat.not_lt_zero i),List.nodup_nil⟩,rfl,trivial,⟨y.al,(ED m n0:Nat),[]⟩,Nat.zero_le _,rfl,rfl,rfl⟩
  | cons r0 l=>
   refine Ai.AF [1,2] [(4,.o (.ptr 0 3 0 0)),(5,.o (.ip (B9 ⟨y.al,(ED m n0:Nat),r0::l⟩)))] ⟨⟨_,rfl,.inl rfl⟩,⟨_,rfl,.inr (.o (.box rfl (.cons .d (.cons .d (.cons (.full rfl (by simp [Function.comp_def]) (by simp)) .nil)))))⟩,trivial⟩ ?_
   (repeat first|refine tA rfl ?_ |refine aU rfl ?_ |refine Aa ?_)
   exact aR ⟨_,rfl,[],Dr ⟨y.al,(ED m n0:Nat),r0::l⟩,[],⟨fun i hi=>absurd hi (Nat.not_lt_zero i),List.nodup_nil⟩,rfl,trivial,⟨y.al,(ED m n0:Nat),r0::l⟩,by show (r0::l).length≤_;omega,rfl,rfl,rfl⟩
theorem Ru(n:Int)(h0:0≤n)(h1:n≤16):Pure Tryz.prog TB 153 [eI .i64 n] (eI .i64 ((2 ^ n.toNat:Nat):Int)):=by
 have hsh:IntKind.i64.wrap (1*2 ^ (min n.toNat IntKind.i64.bits))=((2 ^ n.toNat:Nat):Int):=by
  have e:min n.toNat IntKind.i64.bits=n.toNat:=by
   have:IntKind.i64.bits=64:=rfl
   omega
  rw [e,Int.one_mul]
  have h2:2 ^ n.toNat < 2 ^ 17:=Nat.pow_lt_pow_right (by omega) (by omega)
  have h3:(2:Int) ^ n.toNat=((2 ^ n.toNat:Nat):Int):=by push_cast;rfl
  rw [h3]
  generalize 2 ^ n.toNat=p at *
  exact IntWalk.i64_in _ (by omega)
 refine eN Tryz.func153 rfl (by kernel_rfl) rfl ?_;intro Γ hΓ
 (repeat' first|(refine sA rfl ?_ ?_;first|exact tI|omega)|(refine Af rfl ?_;refine gA rfl ?_;first| refine gS (fun _ _=>W8 rfl rfl h0 hsh) ?_) |refine aU rfl ?_ |refine Aa ?_|(refine aC rfl ?_ ?_<;>rintro⟨⟩)|refine aK ?_|refine aE ?_|refine aB ?_|refine aR ⟨_,rfl,?_⟩)
 rfl
abbrev cR(r:Cy×Bool):E:=.t [(true,(Xu r.1).map .d),(false,[.d (bD r.2)])]
theorem XN(m:Nat)(al:Int):GY m ⟨al,[],[]⟩:=⟨Nat.zero_le _,Nat.zero_le _,fun r hr=>by cases hr⟩
theorem NK(x:Sys)(p:BT)(o:Sys)(hx:x.es.length≤100000)(hp:GY 1000000 p):Spec Tryz.prog TB 117 [] 0 [Dr x,BL p,Dr o] (C1 (fun r:Cy×Bool=>r.1.s.es.length≤x.es.length∧∀m,GY m p→GY m r.1.q) cR):=by
 have hif:=Mc (TB:=TB) x p o
 have hif0:OU x p o < 0∨(0≤OU x p o∧Bw x=true):=by
  unfold OU
  cases h:Bw x
  ·left;simp
  ·rcases Int.lt_or_le (OU x p o) 0 with h1|h1
   ·left;unfold OU at h1;rw [h] at h1;exact h1
   ·right;refine⟨?_,rfl⟩;unfold OU at h1;rw [h] at h1;exact h1
 generalize OU x p o=ai at *
 refine eR Tryz.func117 rfl (by kernel_rfl) rfl ?_;intro Γ hΓ
 (repeat first|refine tA rfl ?_ |refine s2 rfl fun _ _hb=>?_ |refine sP rfl (hif) rfl ?_ |refine aU rfl ?_ |refine Aa ?_)
 rcases hif0 with h0|⟨h0,hs⟩
 ·((refine aC rfl ?_ ?_<;>rintro⟨⟩);all_goals try(exfalso;(simp only[oZ] at *;omega)))
  (repeat first|refine tA rfl ?_|(refine Af rfl ?_;refine gA rfl ?_;first| refine gS (fun _ _=>Av rfl rfl (by rfl) (by rfl)) ?_) |refine aU rfl ?_ |refine Aa ?_)
  exact aR ⟨_,rfl,[],cR (⟨⟨0,0,[]⟩,⟨0,[],[]⟩,0⟩,false),[],⟨fun i hi=>absurd hi (Nat.not_lt_zero i),List.nodup_nil⟩,rfl,trivial,(⟨⟨0,0,[]⟩,⟨0,[],[]⟩,0⟩,false),⟨Nat.zero_le _,fun m _=>XN m 0⟩,rfl,rfl,rfl⟩
 have hh:=BY hs
 have hbt:=Ru (TB:=TB) x.st (by omega) (by omega)
 have hpw:2 ^ x.st.toNat≤2 ^ 16:=Nat.pow_le_pow_right (by omega) (by omega)
 have hpp:0 < 2 ^ x.st.toNat:=Nat.two_pow_pos _
 have hm1:((2 ^ x.st.toNat:Nat):Int) - 1=((2 ^ x.st.toNat - 1:Nat):Int):=by omega
 have hkp:=Uh (TB:=TB) hs hx (2 ^ x.st.toNat - 1) (by omega)
 rw [←hm1] at hkp
 generalize 2 ^ x.st.toNat=pw at *
 ((refine aC rfl ?_ ?_<;>rintro⟨⟩);all_goals try(exfalso;(simp only[oZ] at *;omega)))
 refine aK ?_
 (repeat first|refine aU rfl ?_)
 refine rG ⟨E7 [(5,1),(7,1),(10,1)],Vx [0,1,2,3,4,6,8,5,7,9,10,11]⟩ (by kernel_rfl) ?_
 (repeat first|(refine sX rfl ?_ ?_;first|exact tI|omega) |refine sP rfl (hbt) rfl ?_)
 (refine pW rfl ?_ rfl (by rfl);refine Ae [] rfl rfl (hkp) ⟨rfl,by decide,by decide⟩ rfl trivial ?_;rintro x0 σ1 nx1 ⟨s1,hs1,rfl,rfl,rfl⟩ _)
 (refine pW rfl ?_ rfl (by rfl);refine Bu [] rfl rfl 0 (Kf p hp) (by decide) ⟨rfl,by decide,by decide⟩ rfl (by simp[cX,zC,hΓ,cN]) ?_;rintro x0 σ1 nx1 ⟨l,hl,rfl,rfl,rfl⟩ _)
 (repeat first|refine tX rfl ?_|(refine Af rfl ?_;refine gA rfl ?_;first| refine gS (fun _ _=>Av rfl rfl (by rfl) (by rfl)) ?_) |refine Aa ?_)
 refine Ai.Ar [] [] rfl rfl [(6,.o (.ptr 0 7 0 0)),(7,eB true)] [(0,.cells 31 7 [[.d (iD s1.al),.d (iD s1.st),.d (FK s1.es),.d (iD p.al),.arr 1 1 0 l.length,.arr 2 1 0 p.ac.length,.d (iD ai)]]),(1,.cells 90 1 (Az l)),(2,.cells 4 1 (p.ac.map AZ)),(3,.sld 3 (sI l))] [0,1,2,3] (rl hΓ rfl) (by (simp[cX,zC,hΓ,cN,B2,Ag,eC])) ?_;(try dsimp only[cA,cB])
 refine Ai.AF [0,1,2,3] [(6,.o (.ip (Xu ⟨s1,⟨p.al,l.map (·.2),p.ac⟩,ai⟩))),(7,eB true)] ⟨⟨_,rfl,.inr (.o (.box rfl (.cons .d (.cons .d (.cons .d (.cons .d (.cons (.Ln (s:=3) rfl rfl) (.cons (.full rfl (by simp [Function.comp_def]) (by simp)) (.cons .d .nil)))))))))⟩,⟨_,rfl,.inl rfl⟩,trivial⟩ ?_
 exact aR ⟨_,rfl,[],cR (⟨s1,⟨p.al,l.map (·.2),p.ac⟩,ai⟩,true),[],⟨fun i hi=>absurd hi (Nat.not_lt_zero i),List.nodup_nil⟩,rfl,trivial,(⟨s1,⟨p.al,l.map (·.2),p.ac⟩,ai⟩,true),⟨hs1,fun m hm=>by rw [hl];exact hm⟩,rfl,rfl,rfl⟩
theorem Rw(b:List UInt8)(hb:b.length≤2000)(p:Int)(h0:0≤p∧p < 800000000)(al:Int):∃(n q:Int),(p≤q∧q≤p+2)∧Spec Tryz.prog TB 157 [(0,AV b p)] 1 [.o (.ptr 0 2 0 0),eI .i64 al] (fun x σ nx=>x=eI .i64 n∧σ=[(0,AV b q)]∧nx=1):=by
 obtain⟨c,c1,c2,hp⟩:=AX (TB:=TB) b hb p 12 (by omega)
 obtain⟨n1,m1,k1⟩:=BQ (TB:=TB) b hb (p+1) (by omega) [64,-1,63,0] (by decide) (by decide)
 by_cases hc:c=0
 ·subst hc
  refine⟨n1,p+1+1,by omega,?_⟩
  refine eR Tryz.func157 rfl (by kernel_rfl) rfl ?_;intro Γ hΓ
  (repeat first|refine tA rfl ?_ |refine aU rfl ?_ |refine Aa ?_)
  (refine pW rfl ?_ rfl (by rfl);refine Ae [0] rfl rfl (hp) ⟨rfl,by decide,by decide⟩ rfl (by simp[cX,zC,hΓ]) ?_;rintro x0 σ1 nx1 ⟨rfl,rfl,rfl⟩ _)
  (repeat first|refine s2 rfl fun _ _hb=>?_ |refine Aa ?_)
  ((refine aC rfl ?_ ?_<;>rintro⟨⟩);all_goals try (simp at _hb;done))
  (repeat first|refine tA rfl ?_ |refine aU rfl ?_)
  (refine pW rfl ?_ rfl (by rfl);refine Ae [0] rfl rfl (k1) ⟨rfl,by decide,by decide⟩ rfl (by simp[cX,zC,hΓ]) ?_;rintro x0 σ1 nx1 ⟨rfl,rfl,rfl⟩ _)
  (repeat first|refine tA rfl ?_ |refine Aa ?_)
  refine aR ⟨_,rfl,?_⟩
  refine⟨[0],_,[(0,AV b (p+1+1))],⟨by first|(simp;done)|decide|(intro i hi;match i with|0=>rfl),by decide⟩,rfl,by (simp[cX,zC,hΓ]),rfl,rfl,rfl⟩
 ·refine⟨al,p+1,by omega,?_⟩
  refine eR Tryz.func157 rfl (by kernel_rfl) rfl ?_;intro Γ hΓ
  (repeat first|refine tA rfl ?_ |refine aU rfl ?_ |refine Aa ?_)
  (refine pW rfl ?_ rfl (by rfl);refine Ae [0] rfl rfl (hp) ⟨rfl,by decide,by decide⟩ rfl (by simp[cX,zC,hΓ]) ?_;rintro x0 σ1 nx1 ⟨rfl,rfl,rfl⟩ _)
  (repeat first|refine s2 rfl fun _ _hb=>?_ |refine Aa ?_)
  ((refine aC rfl ?_ ?_<;>rintro⟨⟩);all_goals try(exfalso;(simp only[oZ] at *;omega)))
  refine aK ?_
  (repeat first|refine tA rfl ?_ |refine aU rfl ?_ |refine Aa ?_)
  refine aR ⟨_,rfl,?_⟩
  refine⟨[0],_,[(0,AV b (p+1))],⟨by first|(simp;done)|decide|(intro i hi;match i with|0=>rfl),by decide⟩,rfl,by (simp[cX,zC,hΓ]),rfl,rfl,rfl⟩
theorem Rz(b:List UInt8)(hb:b.length≤2000)(p:Int)(h0:0≤p∧p < 800000000)(y:Sys)(hy:y.es.length≤100000):Spec Tryz.prog TB 159 [(0,AV b p)] 1 [.o (.ptr 0 2 0 0),Dr y] (Ld b p 5 (fun s=>s.es.length≤y.es.length+1)):=by
 obtain⟨k,k0,k1,hk⟩:=AX (TB:=TB) b hb p y.es.length (by omega)
 obtain⟨c,c0,c1,hc⟩:=AX (TB:=TB) b hb (p+1) 30 (by omega)
 refine eR Tryz.func159 rfl (by kernel_rfl) rfl ?_;intro Γ hΓ
 (repeat first|refine tA rfl ?_ |refine aU rfl ?_ |refine Aa ?_)
 refine R.UC [(0,2),(1,2),(2,2),(3,2),(5,2),(6,2),(9,3),(4,1),(7,1),(8,0),(10,5)] mixed (by kernel_rfl) rfl (by kernel_rfl) ?_
 (repeat ((refine R.Af rfl ?_;first|(refine R.yQ (md:=false) rfl rfl rfl ?_ ?_;exact tI) |refine R.yP rfl rfl rfl rfl ?_ )))
 (refine R.Af rfl ?_;refine R.Ih (fun _=>?_) rfl rfl;refine Ba rfl rfl rfl rfl (by simp) (by rfl) (by rfl) (by rfl) (by rfl) ?_)
 (refine R.Af rfl ?_;refine R.Ih (fun _=>?_) rfl rfl;refine Ax rfl rfl rfl (by simp) rfl (by intro r hr;simp only [List.map_map,List.mem_map] at hr;obtain⟨_,_,rfl⟩:=hr;rfl) (by rfl) (Nat.le_of_ble_eq_true rfl) (by simp;omega) ?_)
 (repeat ((refine R.Af rfl ?_;first|refine R.yA rfl rfl rfl rfl ?_|refine R.Ci (fun _ _ _=>Av rfl rfl (by rfl) (by rfl)) rfl rfl ?_ )))
 refine R.Nu ?_
 refine Ai.Ar [0] [] rfl rfl [(4,.o (.ptr 1 3 0 0)),(5,.o (.ptr 3 3 0 0))] [(0,AV b p),(1,.cells 29 3 [[.d (iD 0),.d (iD 0),.d (.l [])]]),(2,.cells 163 3 (y.es.map Bf)),(3,.cells 29 3 [[.d (iD y.al),.d (iD y.st),.arr 2 3 0 y.es.length]])] [0,1,3,4] (rl hΓ rfl) (by (simp[cX,zC,hΓ,cN,Ag,B2,eC])) ?_;(try dsimp only[cA,cB])
 (repeat first|refine tA rfl ?_ |refine aU rfl ?_ |refine Aa ?_)
 (refine pW rfl ?_ rfl (by rfl);refine Ae [0] rfl rfl (hk) ⟨rfl,by decide,by decide⟩ rfl (by simp[cX,zC,hΓ,cN]) ?_;rintro x0 σ1 nx1 ⟨rfl,rfl,rfl⟩ _)
 (repeat first|refine tA rfl ?_ |refine aU rfl ?_ |refine Aa ?_)
 (refine pW rfl ?_ rfl (by rfl);refine Ae [0] rfl rfl (hc) ⟨rfl,by decide,by decide⟩ rfl (by simp[cX,zC,hΓ,cN]) ?_;rintro x0 σ1 nx1 ⟨rfl,rfl,rfl⟩ _)
 refine Aa ?_
 refine Ai.Ar [0] [] rfl rfl [(4,.o (.ptr 1 3 0 0)),(5,.o (.ptr 3 3 0 0)),(6,eI .i64 y.es.length),(7,eI .i64 k),(24,eI .i64 c)] [(0,AV b (p+1+1)),(1,.cells 29 3 [[.d (iD 0),.d (iD 0),.d (.l [])]]),(2,.cells 163 3 (y.es.map Bf)),(3,.cells 29 3 [[.d (iD y.al),.d (iD y.st),.arr 2 3 0 y.es.length]])] [0,1,2,3] (rl hΓ rfl) (by (simp[cX,zC,hΓ,cN])) ?_;(try dsimp only[cA,cB])
 refine aB ?_
 (repeat first|refine tA rfl ?_ |refine s2 rfl fun _ _hb=>?_ |refine aU rfl ?_ |refine Aa ?_)
 (refine aC rfl ?_ ?_<;>rintro⟨⟩)
 ·obtain⟨z,z1,hz⟩:=BQ (TB:=TB) b hb (p+1+1) (by omega) [64,-1,1,63] (by decide) (by decide)
  (repeat first|refine tA rfl ?_ |refine aU rfl ?_)
  (refine pW rfl ?_ rfl (by rfl);refine Ae [0] rfl rfl (hz) ⟨rfl,by decide,by decide⟩ rfl (by simp[cX,zC,hΓ,cN]) ?_;rintro x0 σ1 nx1 ⟨rfl,rfl,rfl⟩ _)
  (repeat first|refine tA rfl ?_ |refine aU rfl ?_ |refine Aa ?_)
  refine Ai.Ar [] [] rfl rfl [(4,.o (.ptr 1 3 0 0))] [(0,AV b (p+1+1+1)),(1,.cells 29 3 [[.d (iD (z)),.d (iD (y.st)),.arr 2 3 0 (y.es).length]]),(2,.cells 163 3 ((y.es).map Bf))] [0,1,2] (rl hΓ rfl) (by (simp[cX,zC,hΓ,cN,Ag,eC])) ?_;(try dsimp only[cA,cB]);refine Ai.AF [1,2] [(4,.o (.ip (B9 ⟨z,y.st,y.es⟩)))] ⟨⟨_,rfl,.inr (.o (.box rfl (.cons .d (.cons .d (.cons (.full rfl (by simp [Function.comp_def]) (by simp)) .nil)))))⟩,trivial⟩ ?_;refine aR ⟨_,rfl,[0],Dr ⟨z,y.st,y.es⟩,[(0,AV b (p+1+1+1))],⟨by intro i hi;match i with|0=>rfl,by decide⟩,rfl,by (simp[cX,zC,hΓ,cN]),p+1+1+1,⟨z,y.st,y.es⟩,by omega,by first|(simp;done)|(simp;omega),rfl,rfl,rfl⟩
 (repeat first|refine tA rfl ?_ |refine s2 rfl fun _ _hb=>?_ |refine aU rfl ?_ |refine Aa ?_)
 (refine aC rfl ?_ ?_<;>rintro⟨⟩)
 ·obtain⟨z,z1,hz⟩:=BQ (TB:=TB) b hb (p+1+1) (by omega) [0,17,-1,16,1] (by decide) (by decide)
  (repeat first|refine tA rfl ?_ |refine aU rfl ?_)
  (refine pW rfl ?_ rfl (by rfl);refine Ae [0] rfl rfl (hz) ⟨rfl,by decide,by decide⟩ rfl (by simp[cX,zC,hΓ,cN]) ?_;rintro x0 σ1 nx1 ⟨rfl,rfl,rfl⟩ _)
  (repeat first|refine tA rfl ?_ |refine aU rfl ?_ |refine Aa ?_)
  refine Ai.Ar [] [] rfl rfl [(4,.o (.ptr 1 3 0 0))] [(0,AV b (p+1+1+1)),(1,.cells 29 3 [[.d (iD (y.al)),.d (iD (z)),.arr 2 3 0 (y.es).length]]),(2,.cells 163 3 ((y.es).map Bf))] [0,1,2] (rl hΓ rfl) (by (simp[cX,zC,hΓ,cN,Ag,eC])) ?_;(try dsimp only[cA,cB]);refine Ai.AF [1,2] [(4,.o (.ip (B9 ⟨y.al,z,y.es⟩)))] ⟨⟨_,rfl,.inr (.o (.box rfl (.cons .d (.cons .d (.cons (.full rfl (by simp [Function.comp_def]) (by simp)) .nil)))))⟩,trivial⟩ ?_;refine aR ⟨_,rfl,[0],Dr ⟨y.al,z,y.es⟩,[(0,AV b (p+1+1+1))],⟨by intro i hi;match i with|0=>rfl,by decide⟩,rfl,by (simp[cX,zC,hΓ,cN]),p+1+1+1,⟨y.al,z,y.es⟩,by omega,by first|(simp;done)|(simp;omega),rfl,rfl,rfl⟩
 (repeat first|refine tA rfl ?_ |refine s2 rfl fun _ _hb=>?_ |refine aU rfl ?_ |refine Aa ?_)
 (refine aC rfl ?_ ?_<;>rintro⟨⟩)
 ·by_cases hz:y.es.length=0
  ·(repeat' first|refine tA rfl ?_ |refine s2 rfl fun _ _hb=>?_ |refine aU rfl ?_ |refine Aa ?_|(refine aC rfl ?_ ?_<;>rintro⟨⟩));all_goals try contradiction
   all_goals first
    | (exfalso;(simp only[oZ] at *;omega);done)
    | (refine aK ?_;(repeat first|refine tA rfl ?_ |refine aU rfl ?_ |refine Aa ?_);refine Ai.Ar [] [] rfl rfl [(4,.o (.ptr 1 3 0 0))] [(0,AV b (p+1+1)),(1,.cells 29 3 [[.d (iD (y.al)),.d (iD (y.st)),.arr 2 3 0 (y.es).length]]),(2,.cells 163 3 ((y.es).map Bf))] [0,1,2] (rl hΓ rfl) (by (simp[cX,zC,hΓ,cN,Ag,eC])) ?_;(try dsimp only[cA,cB]);refine Ai.AF [1,2] [(4,.o (.ip (B9 ⟨y.al,y.st,y.es⟩)))] ⟨⟨_,rfl,.inr (.o (.box rfl (.cons .d (.cons .d (.cons (.full rfl (by simp [Function.comp_def]) (by simp)) .nil)))))⟩,trivial⟩ ?_;refine aR ⟨_,rfl,[0],Dr ⟨y.al,y.st,y.es⟩,[(0,AV b (p+1+1))],⟨by intro i hi;match i with|0=>rfl,by decide⟩,rfl,by (simp[cX,zC,hΓ,cN]),p+1+1,⟨y.al,y.st,y.es⟩,by omega,by first|(simp;done)|(simp;omega),rfl,rfl,rfl⟩)
  obtain⟨⟨e1,e2,e3⟩,he⟩:=get_some (l:=y.es) (k:=k.toNat) (by omega)
  have he':(y.es.map Bf)[0+k.toNat]? = some (Bf ⟨e1,e2,e3⟩):=by rw [Nat.zero_add];simp [he]
  obtain⟨z,z1,hz2⟩:=BQ (TB:=TB) b hb (p+1+1) (by omega) [-1,16,0,2] (by decide) (by decide)
  have hset:(y.es.map Bf).set (0+k.toNat) (Bf ⟨z,e2,e3⟩)=(y.es.set k.toNat ⟨z,e2,e3⟩).map Bf:=by rw [Nat.zero_add,List.map_set]
  (repeat first|refine tA rfl ?_ |refine s2 rfl fun _ _hb=>?_ |refine aU rfl ?_ |refine Aa ?_)
  ((refine aC rfl ?_ ?_<;>rintro⟨⟩);all_goals try(exfalso;(simp only[oZ] at *;omega)))
  refine rG (Nn [(1,13),(5,1008),(6,2),(7,2),(8,1)]) (by kernel_rfl) ?_
  (repeat first|refine tA rfl ?_)
  (refine Af rfl ?_;refine BR ?_ rfl ⟨rfl,rfl⟩;refine Ae [0] rfl rfl (hz2) ⟨rfl,by decide,by decide⟩ rfl (by simp[cX,zC,hΓ,cN]) ?_;rintro x0 σ1 nx1 ⟨rfl,rfl,rfl⟩ _;refine⟨CK 3 rfl rfl,?_⟩)
  (repeat first|(refine sA rfl ?_ ?_;first|exact tI|omega) |refine t4 rfl ‹_› rfl ?_ |refine aU rfl ?_ |refine Aa ?_)
  refine Ai.Ar [] [] rfl rfl [(4,.o (.ptr 1 3 0 0))] [(0,AV b (p+1+1+1)),(1,.cells 29 3 [[.d (iD (y.al)),.d (iD (y.st)),.arr 2 3 0 (y.es.set k.toNat ⟨z,e2,e3⟩).length]]),(2,.cells 163 3 ((y.es.set k.toNat ⟨z,e2,e3⟩).map Bf))] [0,1,2] (rl hΓ rfl) (by (simp[cX,zC,hΓ,cN,Ag,eC,hset])) ?_;(try dsimp only[cA,cB]);refine Ai.AF [1,2] [(4,.o (.ip (B9 ⟨y.al,y.st,y.es.set k.toNat ⟨z,e2,e3⟩⟩)))] ⟨⟨_,rfl,.inr (.o (.box rfl (.cons .d (.cons .d (.cons (.full rfl (by simp [Function.comp_def]) (by simp)) .nil)))))⟩,trivial⟩ ?_;refine aR ⟨_,rfl,[0],Dr ⟨y.al,y.st,y.es.set k.toNat ⟨z,e2,e3⟩⟩,[(0,AV b (p+1+1+1))],⟨by intro i hi;match i with|0=>rfl,by decide⟩,rfl,by (simp[cX,zC,hΓ,cN]),p+1+1+1,⟨y.al,y.st,y.es.set k.toNat ⟨z,e2,e3⟩⟩,by omega,by first|(simp;done)|(simp;omega),rfl,rfl,rfl⟩
 (repeat first|refine tA rfl ?_ |refine s2 rfl fun _ _hb=>?_ |refine aU rfl ?_ |refine Aa ?_)
 (refine aC rfl ?_ ?_<;>rintro⟨⟩)
 ·by_cases hz:y.es.length=0
  ·(repeat' first|refine tA rfl ?_ |refine s2 rfl fun _ _hb=>?_ |refine aU rfl ?_ |refine Aa ?_|(refine aC rfl ?_ ?_<;>rintro⟨⟩));all_goals try contradiction
   all_goals first
    | (exfalso;(simp only[oZ] at *;omega);done)
    | (refine aK ?_;(repeat first|refine tA rfl ?_ |refine aU rfl ?_ |refine Aa ?_);refine Ai.Ar [] [] rfl rfl [(4,.o (.ptr 1 3 0 0))] [(0,AV b (p+1+1)),(1,.cells 29 3 [[.d (iD (y.al)),.d (iD (y.st)),.arr 2 3 0 (y.es).length]]),(2,.cells 163 3 ((y.es).map Bf))] [0,1,2] (rl hΓ rfl) (by (simp[cX,zC,hΓ,cN,Ag,eC])) ?_;(try dsimp only[cA,cB]);refine Ai.AF [1,2] [(4,.o (.ip (B9 ⟨y.al,y.st,y.es⟩)))] ⟨⟨_,rfl,.inr (.o (.box rfl (.cons .d (.cons .d (.cons (.full rfl (by simp [Function.comp_def]) (by simp)) .nil)))))⟩,trivial⟩ ?_;refine aR ⟨_,rfl,[0],Dr ⟨y.al,y.st,y.es⟩,[(0,AV b (p+1+1))],⟨by intro i hi;match i with|0=>rfl,by decide⟩,rfl,by (simp[cX,zC,hΓ,cN]),p+1+1,⟨y.al,y.st,y.es⟩,by omega,by first|(simp;done)|(simp;omega),rfl,rfl,rfl⟩)
  obtain⟨⟨e1,e2,e3⟩,he⟩:=get_some (l:=y.es) (k:=k.toNat) (by omega)
  have he':(y.es.map Bf)[0+k.toNat]? = some (Bf ⟨e1,e2,e3⟩):=by rw [Nat.zero_add];simp [he]
  obtain⟨z,z1,hz2⟩:=BQ (TB:=TB) b hb (p+1+1) (by omega) [-1,16,0,3] (by decide) (by decide)
  have hset:(y.es.map Bf).set (0+k.toNat) (Bf ⟨e1,e2,z⟩)=(y.es.set k.toNat ⟨e1,e2,z⟩).map Bf:=by rw [Nat.zero_add,List.map_set]
  (repeat first|refine tA rfl ?_ |refine s2 rfl fun _ _hb=>?_ |refine aU rfl ?_ |refine Aa ?_)
  ((refine aC rfl ?_ ?_<;>rintro⟨⟩);all_goals try(exfalso;(simp only[oZ] at *;omega)))
  refine rG (Nn [(1,13),(5,1008),(6,2),(7,2),(8,1)]) (by kernel_rfl) ?_
  (repeat first|refine tA rfl ?_)
  (refine Af rfl ?_;refine BR ?_ rfl ⟨rfl,rfl⟩;refine Ae [0] rfl rfl (hz2) ⟨rfl,by decide,by decide⟩ rfl (by simp[cX,zC,hΓ,cN]) ?_;rintro x0 σ1 nx1 ⟨rfl,rfl,rfl⟩ _;refine⟨CK 3 rfl rfl,?_⟩)
  (repeat first|(refine sA rfl ?_ ?_;first|exact tI|omega) |refine t4 rfl ‹_› rfl ?_ |refine aU rfl ?_ |refine Aa ?_)
  refine Ai.Ar [] [] rfl rfl [(4,.o (.ptr 1 3 0 0))] [(0,AV b (p+1+1+1)),(1,.cells 29 3 [[.d (iD (y.al)),.d (iD (y.st)),.arr 2 3 0 (y.es.set k.toNat ⟨e1,e2,z⟩).length]]),(2,.cells 163 3 ((y.es.set k.toNat ⟨e1,e2,z⟩).map Bf))] [0,1,2] (rl hΓ rfl) (by (simp[cX,zC,hΓ,cN,Ag,eC,hset])) ?_;(try dsimp only[cA,cB]);refine Ai.AF [1,2] [(4,.o (.ip (B9 ⟨y.al,y.st,y.es.set k.toNat ⟨e1,e2,z⟩⟩)))] ⟨⟨_,rfl,.inr (.o (.box rfl (.cons .d (.cons .d (.cons (.full rfl (by simp [Function.comp_def]) (by simp)) .nil)))))⟩,trivial⟩ ?_;refine aR ⟨_,rfl,[0],Dr ⟨y.al,y.st,y.es.set k.toNat ⟨e1,e2,z⟩⟩,[(0,AV b (p+1+1+1))],⟨by intro i hi;match i with|0=>rfl,by decide⟩,rfl,by (simp[cX,zC,hΓ,cN]),p+1+1+1,⟨y.al,y.st,y.es.set k.toNat ⟨e1,e2,z⟩⟩,by omega,by first|(simp;done)|(simp;omega),rfl,rfl,rfl⟩
 (repeat first|refine tA rfl ?_ |refine s2 rfl fun _ _hb=>?_ |refine aU rfl ?_ |refine Aa ?_)
 (refine aC rfl ?_ ?_<;>rintro⟨⟩)
 ·by_cases hz:y.es.length=0
  ·(repeat' first|refine tA rfl ?_ |refine s2 rfl fun _ _hb=>?_ |refine aU rfl ?_ |refine Aa ?_|(refine aC rfl ?_ ?_<;>rintro⟨⟩));all_goals try contradiction
   all_goals first
    | (exfalso;(simp only[oZ] at *;omega);done)
    | (refine aK ?_;(repeat first|refine tA rfl ?_ |refine aU rfl ?_ |refine Aa ?_);refine Ai.Ar [] [] rfl rfl [(4,.o (.ptr 1 3 0 0))] [(0,AV b (p+1+1)),(1,.cells 29 3 [[.d (iD (y.al)),.d (iD (y.st)),.arr 2 3 0 (y.es).length]]),(2,.cells 163 3 ((y.es).map Bf))] [0,1,2] (rl hΓ rfl) (by (simp[cX,zC,hΓ,cN,Ag,eC])) ?_;(try dsimp only[cA,cB]);refine Ai.AF [1,2] [(4,.o (.ip (B9 ⟨y.al,y.st,y.es⟩)))] ⟨⟨_,rfl,.inr (.o (.box rfl (.cons .d (.cons .d (.cons (.full rfl (by simp [Function.comp_def]) (by simp)) .nil)))))⟩,trivial⟩ ?_;refine aR ⟨_,rfl,[0],Dr ⟨y.al,y.st,y.es⟩,[(0,AV b (p+1+1))],⟨by intro i hi;match i with|0=>rfl,by decide⟩,rfl,by (simp[cX,zC,hΓ,cN]),p+1+1,⟨y.al,y.st,y.es⟩,by omega,by first|(simp;done)|(simp;omega),rfl,rfl,rfl⟩)
  obtain⟨⟨e1,e2,e3⟩,he⟩:=get_some (l:=y.es) (k:=k.toNat) (by omega)
  have he':(y.es.map Bf)[0+k.toNat]? = some (Bf ⟨e1,e2,e3⟩):=by rw [Nat.zero_add];simp [he]
  obtain⟨z,z1,hz2⟩:=BQ (TB:=TB) b hb (p+1+1) (by omega) [-1,6,70,5,0] (by decide) (by decide)
  have hset:(y.es.map Bf).set (0+k.toNat) (Bf ⟨e1,z,e3⟩)=(y.es.set k.toNat ⟨e1,z,e3⟩).map Bf:=by rw [Nat.zero_add,List.map_set]
  (repeat first|refine tA rfl ?_ |refine s2 rfl fun _ _hb=>?_ |refine aU rfl ?_ |refine Aa ?_)
  ((refine aC rfl ?_ ?_<;>rintro⟨⟩);all_goals try(exfalso;(simp only[oZ] at *;omega)))
  refine rG (Nn [(1,13),(5,1008),(6,2),(7,2),(8,1)]) (by kernel_rfl) ?_
  (repeat first|refine tA rfl ?_)
  (refine Af rfl ?_;refine BR ?_ rfl ⟨rfl,rfl⟩;refine Ae [0] rfl rfl (hz2) ⟨rfl,by decide,by decide⟩ rfl (by simp[cX,zC,hΓ,cN]) ?_;rintro x0 σ1 nx1 ⟨rfl,rfl,rfl⟩ _;refine⟨CK 3 rfl rfl,?_⟩)
  (repeat first|(refine sA rfl ?_ ?_;first|exact tI|omega) |refine t4 rfl ‹_› rfl ?_ |refine aU rfl ?_ |refine Aa ?_)
  refine Ai.Ar [] [] rfl rfl [(4,.o (.ptr 1 3 0 0))] [(0,AV b (p+1+1+1)),(1,.cells 29 3 [[.d (iD (y.al)),.d (iD (y.st)),.arr 2 3 0 (y.es.set k.toNat ⟨e1,z,e3⟩).length]]),(2,.cells 163 3 ((y.es.set k.toNat ⟨e1,z,e3⟩).map Bf))] [0,1,2] (rl hΓ rfl) (by (simp[cX,zC,hΓ,cN,Ag,eC,hset])) ?_;(try dsimp only[cA,cB]);refine Ai.AF [1,2] [(4,.o (.ip (B9 ⟨y.al,y.st,y.es.set k.toNat ⟨e1,z,e3⟩⟩)))] ⟨⟨_,rfl,.inr (.o (.box rfl (.cons .d (.cons .d (.cons (.full rfl (by simp [Function.comp_def]) (by simp)) .nil)))))⟩,trivial⟩ ?_;refine aR ⟨_,rfl,[0],Dr ⟨y.al,y.st,y.es.set k.toNat ⟨e1,z,e3⟩⟩,[(0,AV b (p+1+1+1))],⟨by intro i hi;match i with|0=>rfl,by decide⟩,rfl,by (simp[cX,zC,hΓ,cN]),p+1+1+1,⟨y.al,y.st,y.es.set k.toNat ⟨e1,z,e3⟩⟩,by omega,by first|(simp;done)|(simp;omega),rfl,rfl,rfl⟩
 (repeat first|refine tA rfl ?_ |refine s2 rfl fun _ _hb=>?_ |refine aU rfl ?_ |refine Aa ?_)
 (refine aC rfl ?_ ?_<;>rintro⟨⟩)
 ·by_cases hz:y.es.length=0
  ·(repeat' first|refine tA rfl ?_ |refine s2 rfl fun _ _hb=>?_ |refine aU rfl ?_ |refine Aa ?_|(refine aC rfl ?_ ?_<;>rintro⟨⟩));all_goals try contradiction
   all_goals first
    | (exfalso;(simp only[oZ] at *;omega);done)
    | (refine aK ?_;(repeat first|refine tA rfl ?_ |refine aU rfl ?_ |refine Aa ?_);refine Ai.Ar [] [] rfl rfl [(4,.o (.ptr 1 3 0 0))] [(0,AV b (p+1+1)),(1,.cells 29 3 [[.d (iD (y.al)),.d (iD (y.st)),.arr 2 3 0 (y.es).length]]),(2,.cells 163 3 ((y.es).map Bf))] [0,1,2] (rl hΓ rfl) (by (simp[cX,zC,hΓ,cN,Ag,eC])) ?_;(try dsimp only[cA,cB]);refine Ai.AF [1,2] [(4,.o (.ip (B9 ⟨y.al,y.st,y.es⟩)))] ⟨⟨_,rfl,.inr (.o (.box rfl (.cons .d (.cons .d (.cons (.full rfl (by simp [Function.comp_def]) (by simp)) .nil)))))⟩,trivial⟩ ?_;refine aR ⟨_,rfl,[0],Dr ⟨y.al,y.st,y.es⟩,[(0,AV b (p+1+1))],⟨by intro i hi;match i with|0=>rfl,by decide⟩,rfl,by (simp[cX,zC,hΓ,cN]),p+1+1,⟨y.al,y.st,y.es⟩,by omega,by first|(simp;done)|(simp;omega),rfl,rfl,rfl⟩)
  obtain⟨⟨e1,e2,e3⟩,he⟩:=get_some (l:=y.es) (k:=k.toNat) (by omega)
  have he':(y.es.map Bf)[0+k.toNat]? = some (Bf ⟨e1,e2,e3⟩):=by rw [Nat.zero_add];simp [he]
  (repeat first|refine tA rfl ?_ |refine s2 rfl fun _ _hb=>?_ |refine aU rfl ?_ |refine Aa ?_)
  ((refine aC rfl ?_ ?_<;>rintro⟨⟩);all_goals try(exfalso;(simp only[oZ] at *;omega)))
  refine rG (Nn [(1,13),(3,13),(6,12),(8,1),(10,1)]) (by kernel_rfl) ?_
  (repeat first|(refine sA rfl ?_ ?_;first|exact tI|omega) |refine t4 rfl ‹_› rfl ?_)
  (refine pW rfl ?_ rfl (by rfl);refine Ax rfl rfl rfl (by first| (simp;done)|(simp;(omega))) rfl (by intro r hr;simp at hr;subst hr;rfl) (by rfl) (Nat.le_of_ble_eq_true rfl) (by simp;omega) ?_)
  (repeat first|refine tA rfl ?_ |refine aU rfl ?_ |refine Aa ?_)
  refine Ai.Ar [] [] rfl rfl [(4,.o (.ptr 1 3 0 0))] [(0,AV b (p+1+1)),(1,.cells 29 3 [[.d (iD (y.al)),.d (iD (y.st)),.arr 2 3 0 (y.es++[(⟨e1,e2,e3⟩:Eb)]).length]]),(2,.cells 163 3 ((y.es++[(⟨e1,e2,e3⟩:Eb)]).map Bf))] [0,1,4] (rl hΓ rfl) (by (simp[cX,zC,hΓ,cN,Ag,eC])) ?_;(try dsimp only[cA,cB]);refine Ai.AF [1,2] [(4,.o (.ip (B9 ⟨y.al,y.st,y.es++[(⟨e1,e2,e3⟩:Eb)]⟩)))] ⟨⟨_,rfl,.inr (.o (.box rfl (.cons .d (.cons .d (.cons (.full rfl (by simp [Function.comp_def]) (by simp)) .nil)))))⟩,trivial⟩ ?_;refine aR ⟨_,rfl,[0],Dr ⟨y.al,y.st,y.es++[(⟨e1,e2,e3⟩:Eb)]⟩,[(0,AV b (p+1+1))],⟨by intro i hi;match i with|0=>rfl,by decide⟩,rfl,by (simp[cX,zC,hΓ,cN]),p+1+1,⟨y.al,y.st,y.es++[(⟨e1,e2,e3⟩:Eb)]⟩,by omega,by first|(simp;done)|(simp;omega),rfl,rfl,rfl⟩
 (repeat first|refine tA rfl ?_ |refine s2 rfl fun _ _hb=>?_ |refine aU rfl ?_ |refine Aa ?_)
 (refine aC rfl ?_ ?_<;>rintro⟨⟩)
 ·obtain⟨d1,_,_,hd1⟩:=AX (TB:=TB) b hb (p+1+1) 4 (by omega)
  obtain⟨d2,_,_,hd2⟩:=AX (TB:=TB) b hb (p+1+1+1) 3 (by omega)
  obtain⟨d3,_,_,hd3⟩:=AX (TB:=TB) b hb (p+1+1+1+1) 4 (by omega)
  refine rG ⟨E7 [(1,13),(3,1008),(5,1008),(7,1008),(10,1),(12,1)],Vx [0,1,2,4,6,3,5,7,8,9,10,11,12]⟩ (by kernel_rfl) ?_
  (repeat first|refine tA rfl ?_)
  (refine Af rfl ?_;refine BR ?_ rfl ⟨rfl,rfl⟩;refine Ae [0] rfl rfl (hd1) ⟨rfl,by decide,by decide⟩ rfl (by simp[cX,zC,hΓ,cN]) ?_;rintro x0 σ1 nx1 ⟨rfl,rfl,rfl⟩ _;refine⟨CK 3 rfl rfl,?_⟩)
  (refine Af rfl ?_;refine BR ?_ rfl ⟨rfl,rfl⟩;refine Ae [0] rfl rfl (hd2) ⟨rfl,by decide,by decide⟩ rfl (by simp[cX,zC,hΓ,cN]) ?_;rintro x0 σ1 nx1 ⟨rfl,rfl,rfl⟩ _;refine⟨CK 3 rfl rfl,?_⟩)
  (refine Af rfl ?_;refine BR ?_ rfl ⟨rfl,rfl⟩;refine Ae [0] rfl rfl (hd3) ⟨rfl,by decide,by decide⟩ rfl (by simp[cX,zC,hΓ,cN]) ?_;rintro x0 σ1 nx1 ⟨rfl,rfl,rfl⟩ _;refine⟨CK 3 rfl rfl,?_⟩)
  (repeat first|refine tA rfl ?_|(refine Af rfl ?_;refine gA rfl ?_;first| refine gS (fun _ _=>Av rfl rfl (by rfl) (by rfl)) ?_))
  (refine pW rfl ?_ rfl (by rfl);refine Ax rfl rfl rfl (by first| (simp;done)|(simp;(omega))) rfl (by intro r hr;simp at hr;subst hr;rfl) (by rfl) (Nat.le_of_ble_eq_true rfl) (by simp;omega) ?_)
  (repeat first|refine tA rfl ?_ |refine aU rfl ?_ |refine Aa ?_)
  refine Ai.Ar [] [] rfl rfl [(4,.o (.ptr 1 3 0 0))] [(0,AV b (p+1+1+1+1+1)),(1,.cells 29 3 [[.d (iD (y.al)),.d (iD (y.st)),.arr 2 3 0 (y.es++[(⟨d1,d2,d3⟩:Eb)]).length]]),(2,.cells 163 3 ((y.es++[(⟨d1,d2,d3⟩:Eb)]).map Bf))] [0,1,4] (rl hΓ rfl) (by (simp[cX,zC,hΓ,cN,Ag,eC])) ?_;(try dsimp only[cA,cB]);refine Ai.AF [1,2] [(4,.o (.ip (B9 ⟨y.al,y.st,y.es++[(⟨d1,d2,d3⟩:Eb)]⟩)))] ⟨⟨_,rfl,.inr (.o (.box rfl (.cons .d (.cons .d (.cons (.full rfl (by simp [Function.comp_def]) (by simp)) .nil)))))⟩,trivial⟩ ?_;refine aR ⟨_,rfl,[0],Dr ⟨y.al,y.st,y.es++[(⟨d1,d2,d3⟩:Eb)]⟩,[(0,AV b (p+1+1+1+1+1))],⟨by intro i hi;match i with|0=>rfl,by decide⟩,rfl,by (simp[cX,zC,hΓ,cN]),p+1+1+1+1+1,⟨y.al,y.st,y.es++[(⟨d1,d2,d3⟩:Eb)]⟩,by omega,by first|(simp;done)|(simp;omega),rfl,rfl,rfl⟩
 refine aK ?_
 (repeat first|refine tA rfl ?_ |refine aU rfl ?_ |refine Aa ?_)
 refine Ai.Ar [] [] rfl rfl [(4,.o (.ptr 1 3 0 0))] [(0,AV b (p+1+1)),(1,.cells 29 3 [[.d (iD (y.al)),.d (iD (y.st)),.arr 2 3 0 (y.es).length]]),(2,.cells 163 3 ((y.es).map Bf))] [0,1,2] (rl hΓ rfl) (by (simp[cX,zC,hΓ,cN,Ag,eC])) ?_;(try dsimp only[cA,cB]);refine Ai.AF [1,2] [(4,.o (.ip (B9 ⟨y.al,y.st,y.es⟩)))] ⟨⟨_,rfl,.inr (.o (.box rfl (.cons .d (.cons .d (.cons (.full rfl (by simp [Function.comp_def]) (by simp)) .nil)))))⟩,trivial⟩ ?_;refine aR ⟨_,rfl,[0],Dr ⟨y.al,y.st,y.es⟩,[(0,AV b (p+1+1))],⟨by intro i hi;match i with|0=>rfl,by decide⟩,rfl,by (simp[cX,zC,hΓ,cN]),p+1+1,⟨y.al,y.st,y.es⟩,by omega,by first|(simp;done)|(simp;omega),rfl,rfl,rfl⟩
def Sh:List W:=[[97,98,32,50,32,48,97,49,32,49,98,48],[97,98,99,32,51,32,48,97,49,32,49,98,50,32,50,99,48],[97,98,32,51,32,48,97,48,32,48,97,49,32,48,98,48,32,49,98,50,32,50,97,50],[98,99,32,50,32,48,98,49,32,49,99,48],[98,99,32,51,32,48,98,49,32,48,99,48,32,49,99,50,32,50,98,50,32,50,99,50],[45,32,49],[97,32,49,32,48,97,48],[97,99,32,52,32,48,97,49,32,48,97,50,32,49,99,51,32,50,97,50,32,51,97,48,32,51,99,51],[97,98,99,32,52,32,48,97,48,32,48,98,49,32,49,98,50,32,49,99,48,32,50,99,51,32,51,97,49],[97,98,32,53,32,48,97,48,32,48,97,49,32,48,98,48,32,49,97,50,32,49,98,50,32,50,97,51,32,50,98,51,32,51,97,52,32,51,98,52],[97,98,100,32,51,32,48,97,49,32,48,100,48,32,49,98,48,32,49,100,50]]
theorem UO:∀w∈Sh,w.length≤60:=by decide
theorem Ry:Pure Tryz.prog TB 182 [] (Bp Sh):=by
 refine eN Tryz.func182 rfl (by kernel_rfl) rfl ?_;intro Γ hΓ
 (repeat first|refine tA rfl ?_ |refine aU rfl ?_ |refine Aa ?_)
 refine aR ⟨_,rfl,rfl⟩
theorem N8(b:List UInt8)(hb:b.length≤2000)(p:Int)(h0:0≤p∧p < 700000000):Spec Tryz.prog TB 149 [(0,AV b p)] 1 [.o (.ptr 0 2 0 0)] (Ld b p 410 (fun s=>s.es.length≤400)):=by
 obtain⟨c,c1,c2,hp⟩:=AX (TB:=TB) b hb p 3 (by omega)
 obtain⟨w,hw,ho⟩:=Qt (TB:=TB) b hb (p+1) (by omega) Sh (by decide) (by decide)
 have hwl:=UO w hw
 have hpa:=Hh (TB:=TB) w (by omega)
 have hrand:∀q:Int,p≤q∧q≤p+2→∃(n1 n2 n3:Int),(0≤n2∧n2≤8)∧Spec Tryz.prog TB 77 [(0,AV b q)] 1 [.o (.ptr 0 2 0 0),Ay [3,6,7,5,1,0,12]] (fun x σ nx=>x=eI .i64 n1∧σ=[(0,AV b (q+1))]∧nx=1)∧
  Spec Tryz.prog TB 77 [(0,AV b (q+1))] 1 [.o (.ptr 0 2 0 0),Ay [3,2,4,1,5]] (fun x σ nx=>x=eI .i64 n2∧σ=[(0,AV b (q+1+1))]∧nx=1)∧
  Spec Tryz.prog TB 77 [(0,AV b (q+1+1))] 1 [.o (.ptr 0 2 0 0),Ay [3,2,4,6]] (fun x σ nx=>x=eI .i64 n3∧σ=[(0,AV b (q+1+1+1))]∧nx=1):=fun q hq=>by
  obtain⟨n1,m1,k1⟩:=BQ (TB:=TB) b hb q (by omega) [3,6,7,5,1,0,12] (by decide) (by decide)
  obtain⟨n2,m2,k2⟩:=BQ (TB:=TB) b hb (q+1) (by omega) [3,2,4,1,5] (by decide) (by decide)
  obtain⟨n3,m3,k3⟩:=BQ (TB:=TB) b hb (q+1+1) (by omega) [3,2,4,6] (by decide) (by decide)
  exact⟨n1,n2,n3,by simp at m2;omega,k1,k2,k3⟩
 refine eR Tryz.func149 rfl (by kernel_rfl) rfl ?_;intro Γ hΓ
 (repeat first|refine tA rfl ?_ |refine aU rfl ?_ |refine Aa ?_)
 (refine pW rfl ?_ rfl (by rfl);refine Ae [0] rfl rfl (hp) ⟨rfl,by decide,by decide⟩ rfl (by simp[cX,zC,hΓ,cN]) ?_;rintro x0 σ1 nx1 ⟨rfl,rfl,rfl⟩ _)
 (repeat first|refine s2 rfl fun _ _hb=>?_ |refine Aa ?_)
 (refine aC rfl ?_ ?_<;>rintro⟨⟩)
 ·(repeat first|refine tA rfl ?_ |refine sP rfl (Ry) rfl ?_ |refine aU rfl ?_)
  (refine pW rfl ?_ rfl (by rfl);refine Ae [0] rfl rfl (ho) ⟨rfl,by decide,by decide⟩ rfl (by simp[cX,zC,hΓ,cN]) ?_;rintro x0 σ1 nx1 ⟨rfl,rfl,rfl⟩ _)
  (refine pW rfl ?_ rfl (by rfl);refine Ae [] rfl rfl (hpa) ⟨rfl,by decide,by decide⟩ rfl trivial ?_;rintro x0 σ1 nx1 ⟨⟨y,ok⟩,hy,rfl,rfl,rfl⟩ _)
  have hy1:y.es.length≤w.length+1:=hy
  (repeat first|refine tA rfl ?_ |refine aU rfl ?_ |refine Aa ?_)
  (refine aC rfl ?_ ?_<;>rintro⟨⟩)
  ·(repeat first|refine tA rfl ?_ |refine aU rfl ?_ |refine Aa ?_)
   exact aR ⟨_,rfl,[0],Dr y,[(0,AV b (p+1+1))],⟨by intro i hi;match i with|0=>rfl,by decide⟩,rfl,by (simp[cX,zC,hΓ,cN]),p+1+1,y,by omega,by show y.es.length≤400;omega,rfl,rfl,rfl⟩
  refine aK ?_
  obtain⟨n1,n2,n3,m2,k1,k2,k3⟩:=hrand (p+1+1) (by omega)
  have f:=Hr (TB:=TB) b hb (p+1+1+1+1+1) (by omega) n1 n2 n3 (by omega)
  (repeat first|refine tA rfl ?_ |refine aU rfl ?_)
  (refine pW rfl ?_ rfl (by rfl);refine Ae [0] rfl rfl (k1) ⟨rfl,by decide,by decide⟩ rfl (by simp[cX,zC,hΓ,cN]) ?_;rintro x0 σ1 nx1 ⟨rfl,rfl,rfl⟩ _)
  (repeat first|refine tA rfl ?_)
  (refine pW rfl ?_ rfl (by rfl);refine Ae [0] rfl rfl (k2) ⟨rfl,by decide,by decide⟩ rfl (by simp[cX,zC,hΓ,cN]) ?_;rintro x0 σ1 nx1 ⟨rfl,rfl,rfl⟩ _)
  (repeat first|refine tA rfl ?_)
  (refine pW rfl ?_ rfl (by rfl);refine Ae [0] rfl rfl (k3) ⟨rfl,by decide,by decide⟩ rfl (by simp[cX,zC,hΓ,cN]) ?_;rintro x0 σ1 nx1 ⟨rfl,rfl,rfl⟩ _)
  (refine pW rfl ?_ rfl (by rfl);refine Bu [0] rfl rfl 1 (f) (by decide) ⟨rfl,by decide,by decide⟩ rfl (by simp[cX,zC,hΓ,cN]) ?_;rintro x0 σ1 nx1 ⟨q,y2,hq,hy2,rfl,rfl,rfl⟩ _)
  (repeat first|refine tA rfl ?_ |refine Aa ?_)
  exact aR ⟨_,rfl,[0],Dr y2,[(0,AV b q)],⟨by intro i hi;match i with|0=>rfl,by decide⟩,rfl,by (simp[cX,zC,hΓ,cN]),q,y2,by omega,hy2.2.2,rfl,rfl,rfl⟩
 refine aK ?_
 obtain⟨n1,n2,n3,m2,k1,k2,k3⟩:=hrand (p+1) (by omega)
 have f:=Hr (TB:=TB) b hb (p+1+1+1+1) (by omega) n1 n2 n3 (by omega)
 (repeat first|refine tA rfl ?_ |refine aU rfl ?_)
 (refine pW rfl ?_ rfl (by rfl);refine Ae [0] rfl rfl (k1) ⟨rfl,by decide,by decide⟩ rfl (by simp[cX,zC,hΓ,cN]) ?_;rintro x0 σ1 nx1 ⟨rfl,rfl,rfl⟩ _)
 (repeat first|refine tA rfl ?_)
 (refine pW rfl ?_ rfl (by rfl);refine Ae [0] rfl rfl (k2) ⟨rfl,by decide,by decide⟩ rfl (by simp[cX,zC,hΓ,cN]) ?_;rintro x0 σ1 nx1 ⟨rfl,rfl,rfl⟩ _)
 (repeat first|refine tA rfl ?_)
 (refine pW rfl ?_ rfl (by rfl);refine Ae [0] rfl rfl (k3) ⟨rfl,by decide,by decide⟩ rfl (by simp[cX,zC,hΓ,cN]) ?_;rintro x0 σ1 nx1 ⟨rfl,rfl,rfl⟩ _)
 (refine pW rfl ?_ rfl (by rfl);refine Bu [0] rfl rfl 1 (f) (by decide) ⟨rfl,by decide,by decide⟩ rfl (by simp[cX,zC,hΓ,cN]) ?_;rintro x0 σ1 nx1 ⟨q,y2,hq,hy2,rfl,rfl,rfl⟩ _)
 (repeat first|refine tA rfl ?_ |refine Aa ?_)
 exact aR ⟨_,rfl,[0],Dr y2,[(0,AV b q)],⟨by intro i hi;match i with|0=>rfl,by decide⟩,rfl,by (simp[cX,zC,hΓ,cN]),q,y2,by omega,hy2.2.2,rfl,rfl,rfl⟩
abbrev VR(r:Sys×BT×Sys):E:=.t [(true,(B9 r.1).map .d),(true,(BF r.2.1).map .d),(true,(B9 r.2.2).map .d)]
structure av (r:Sys×BT×Sys):Prop where
 a:r.1.es.length≤400
 b:GY 41 r.2.1
 c:r.2.2.es.length≤400
def XG(b:List UInt8)(p m:Int)(x:E)(σ:Ab)(nx:Nat):Prop:=∃(p':Int) (r:Sys×BT×Sys),(p≤p'∧p'≤p+m)∧av r∧x=VR r∧σ=[(0,AV b p')]∧nx=1
theorem GY.upto{m n:Nat}{a:BT}(h:GY m a)(hm:m≤n):GY n a:=⟨by have:=h.nx;omega,by have:=h.ac;omega,fun r hr=>by have:=h.row r hr;omega⟩
theorem YS{C X:Int→Sys→Prop}{Y:Prop}(h:∀q s,C q s→X q s)(hk:(∀q s,C q s→X q s)→Y):Y:=hk h
theorem Mk(b:List UInt8)(hb:b.length≤2000)(p:Int)(h0:0≤p∧p < 600000000):Spec Tryz.prog TB 116 [(0,AV b p)] 1 [.o (.ptr 0 2 0 0)] (XG b p 2000):=by
 have f1:=Mi (TB:=TB) b hb p (by omega)
 refine eR Tryz.func116 rfl (by kernel_rfl) rfl ?_;intro Γ hΓ
 (repeat first|refine tA rfl ?_ |refine aU rfl ?_ |refine Aa ?_)
 (refine pW rfl ?_ rfl (by rfl);refine Ae [0] rfl rfl (f1) ⟨rfl,by decide,by decide⟩ rfl (by simp[cX,zC,hΓ,cN]) ?_;rintro x0 σ1 nx1 ⟨p1,y1,hp1,hs1,rfl,rfl,rfl⟩ _)
 (repeat first|refine tA rfl ?_ |refine aU rfl ?_ |refine Aa ?_)
 have f2:=Mi (TB:=TB) b hb p1 (by omega)
 (refine pW rfl ?_ rfl (by rfl);refine Ae [0] rfl rfl (f2) ⟨rfl,by decide,by decide⟩ rfl (by simp[cX,zC,hΓ,cN]) ?_;rintro x0 σ1 nx1 ⟨p2,y2,hp2,hs2,rfl,rfl,rfl⟩ _)
 (repeat first|refine tA rfl ?_ |refine aU rfl ?_ |refine Aa ?_)
 obtain⟨c,c1,c2,hc⟩:=AX (TB:=TB) b hb p2 4 (by omega)
 (refine pW rfl ?_ rfl (by rfl);refine Ae [0] rfl rfl (hc) ⟨rfl,by decide,by decide⟩ rfl (by simp[cX,zC,hΓ,cN]) ?_;rintro x0 σ1 nx1 ⟨rfl,rfl,rfl⟩ _)
 apply YS (C:=fun q s=>(p≤q∧q≤p+1300)∧s.es.length≤400)
 case hk=>
  intro hk
  (repeat first|refine s2 rfl fun _ _hb=>?_ |refine Aa ?_)
  (refine aC rfl ?_ ?_<;>rintro⟨⟩)
  ·(repeat first|refine tA rfl ?_ |refine aU rfl ?_)
   have f3:=N8 (TB:=TB) b hb (p2+1) (by omega)
   (refine pW rfl ?_ rfl (by rfl);refine Ae [0] rfl rfl (f3) ⟨rfl,by decide,by decide⟩ rfl (by simp[cX,zC,hΓ,cN]) ?_;rintro x0 σ1 nx1 ⟨p3,y3,hp3,hs3,rfl,rfl,rfl⟩ _)
   (repeat first|refine tA rfl ?_)
   refine Aa ?_
   refine Ai.Ar [0] [] rfl rfl [(2,.o (.ptr 1 3 0 0)),(3,.o (.ptr 2 3 0 0)),(4,.o (.ptr 3 3 0 0)),(5,.o (.ptr 4 3 0 0)),(6,.o (.ptr 5 3 0 0))] [(0,AV b p3),(1,.cells 29 3 [[.d (iD 0),.d (iD 0),.d (.l [])]]),(2,.cells 26 3 [[.d (iD 0),.d (.l []),.d (.l [])]]),(3,.cells 29 3 [[.d (iD 0),.d (iD 0),.d (.l [])]]),(4,.cells 29 3 [(B9 y3).map .d]),(5,.cells 29 3 [(B9 y2).map .d])] [0,1,2,3,4,5] (rl hΓ rfl) (by (simp[cX,zC,hΓ,cN,Ag,eC])) ?_;(try dsimp only[cA,cB])
   exact hk p3 y3 ⟨by omega,hs3⟩
  ·refine aK ?_
   generalize hp3:p2+1=p3 at *
   refine Ai.Ar [0] [] rfl rfl [(2,.o (.ptr 1 3 0 0)),(3,.o (.ptr 2 3 0 0)),(4,.o (.ptr 3 3 0 0)),(5,.o (.ptr 4 3 0 0)),(6,.o (.ptr 5 3 0 0))] [(0,AV b p3),(1,.cells 29 3 [[.d (iD 0),.d (iD 0),.d (.l [])]]),(2,.cells 26 3 [[.d (iD 0),.d (.l []),.d (.l [])]]),(3,.cells 29 3 [[.d (iD 0),.d (iD 0),.d (.l [])]]),(4,.cells 29 3 [(B9 y1).map .d]),(5,.cells 29 3 [(B9 y2).map .d])] [0,1,2,3,4,5] (rl hΓ rfl) (by (simp[cX,zC,hΓ,cN,Ag,eC])) ?_;(try dsimp only[cA,cB])
   exact hk p3 y1 ⟨by omega,hs1.2⟩
 case h =>
  intro p3 y3 ⟨hp3,hs3⟩
  (repeat first|refine tA rfl ?_ |refine aU rfl ?_)
  obtain⟨c3,c4,c5,hc2⟩:=AX (TB:=TB) b hb p3 4 (by omega)
  (refine pW rfl ?_ rfl (by rfl);refine Ae [0] rfl rfl (hc2) ⟨rfl,by decide,by decide⟩ rfl (by simp[cX,zC,hΓ,cN]) ?_;rintro x0 σ1 nx1 ⟨rfl,rfl,rfl⟩ _)
  apply YS (C:=fun q s=>(p≤q∧q≤p+1800)∧s.es.length≤400)
  case hk=>
   intro hk
   (repeat first|refine s2 rfl fun _ _hb=>?_ |refine Aa ?_)
   (refine aC rfl ?_ ?_<;>rintro⟨⟩)
   ·(repeat first|refine tA rfl ?_ |refine aU rfl ?_)
    have f3:=N8 (TB:=TB) b hb (p3+1) (by omega)
    (refine pW rfl ?_ rfl (by rfl);refine Ae [0] rfl rfl (f3) ⟨rfl,by decide,by decide⟩ rfl (by simp[cX,zC,hΓ,cN]) ?_;rintro x0 σ1 nx1 ⟨p4,y4,hp4,hs4,rfl,rfl,rfl⟩ _)
    (repeat first|refine tA rfl ?_)
    refine Aa ?_
    refine Ai.Ar [0] [] rfl rfl [(2,.o (.ptr 1 3 0 0)),(3,.o (.ptr 2 3 0 0)),(4,.o (.ptr 3 3 0 0)),(5,.o (.ptr 4 3 0 0)),(6,.o (.ptr 5 3 0 0))] [(0,AV b p4),(1,.cells 29 3 [[.d (iD 0),.d (iD 0),.d (.l [])]]),(2,.cells 26 3 [[.d (iD 0),.d (.l []),.d (.l [])]]),(3,.cells 29 3 [[.d (iD 0),.d (iD 0),.d (.l [])]]),(4,.cells 29 3 [(B9 y3).map .d]),(5,.cells 29 3 [(B9 y4).map .d])] [0,1,2,3,4,5] (rl hΓ rfl) (by (simp[cX,zC,hΓ,cN,Ag,eC])) ?_;(try dsimp only[cA,cB])
    exact hk p4 y4 ⟨by omega,hs4⟩
   ·refine aK ?_
    generalize hp4:p3+1=p4 at *
    refine Ai.Ar [0] [] rfl rfl [(2,.o (.ptr 1 3 0 0)),(3,.o (.ptr 2 3 0 0)),(4,.o (.ptr 3 3 0 0)),(5,.o (.ptr 4 3 0 0)),(6,.o (.ptr 5 3 0 0))] [(0,AV b p4),(1,.cells 29 3 [[.d (iD 0),.d (iD 0),.d (.l [])]]),(2,.cells 26 3 [[.d (iD 0),.d (.l []),.d (.l [])]]),(3,.cells 29 3 [[.d (iD 0),.d (iD 0),.d (.l [])]]),(4,.cells 29 3 [(B9 y3).map .d]),(5,.cells 29 3 [(B9 y2).map .d])] [0,1,2,3,4,5] (rl hΓ rfl) (by (simp[cX,zC,hΓ,cN,Ag,eC])) ?_;(try dsimp only[cA,cB])
    exact hk p4 y2 ⟨by omega,hs2.2⟩
  case h=>
   intro p4 y4 ⟨hp4,hs4⟩
   have f8:=Ns (TB:=TB) b hb p4 (by omega) (Ud .i64 y3.al y4.al)
   (repeat first|refine aU rfl ?_)
   refine rG ⟨E7 [(0,14),(3,14),(5,15),(7,1048),(8,15),(9,1032),(10,1032),(11,1)],Vx [0,1,2,3,4,5,6,8,7,9,10,11]⟩ (by kernel_rfl) ?_
   (repeat first|refine tA rfl ?_)
   (refine Af rfl ?_;refine BR ?_ rfl ⟨rfl,rfl⟩;refine Ae [0] rfl rfl (f8) ⟨rfl,by decide,by decide⟩ rfl (by simp[cX,zC,hΓ,cN]) ?_;rintro x0 σ1 nx1 ⟨p5,a5,hp5,ha5,rfl,rfl,rfl⟩ _;refine⟨Hq 4 5 rfl rfl rfl,?_⟩)
   (refine Af rfl ?_;refine RR ?_ rfl ⟨rfl,rfl⟩;refine Di rfl rfl rfl rfl (by rfl) rfl (Nat.le_of_ble_eq_true rfl) ?_;refine⟨CK 5 rfl rfl,?_⟩)
   (refine Af rfl ?_;refine RR ?_ rfl ⟨rfl,rfl⟩;refine Di rfl rfl rfl rfl (by rfl) rfl (Nat.le_of_ble_eq_true rfl) ?_;refine⟨CK 5 rfl rfl,?_⟩)
   (repeat first|refine tA rfl ?_ |refine Aa ?_)
   exact aR ⟨_,rfl,[0],VR (y3,a5,y4),[(0,AV b p5)],⟨by intro i hi;match i with|0=>rfl,by decide⟩,rfl,by (simp[cX,zC,hΓ,cN]),p5,(y3,a5,y4),by omega,⟨hs3,ha5.upto (by omega),hs4⟩,rfl,rfl,rfl⟩
end Go.Am
