/-
  The law that weakest assumptions are learned: walked.
-/
import Derived.Test.YtgpbfllcjdfelaaGreatDoorPart37
import Derived.Test.YtgpbfllcjdfelaaGreatDoorPart38
set_option linter.all false
namespace Go.Am
open Go Go.Proofs
set_option maxHeartbeats 1000000
set_option maxRecDepth 4000
attribute [local irreducible] AO BS Lex A4 Au Spec
theorem Ms{TB:Bi}(b:List UInt8)(hb:b.length<=9223372036854775807):Spec Tryz.prog TB 46 [] 0 [.o (.d (Xa b))] (C7 (λ_:BE=>True) FU):=by
 obtain⟨b',g,j⟩:=Ul (TB:=TB) b hb;have hp:=Uv (TB:=TB) b' g 0 (by omega);refine eR Tryz.func46 rfl (by kernel_rfl) rfl ?_;intro Γ a;(repeat first |refine sN rfl ?_ |((first|refine sA rfl ?_ ?_|refine s4 rfl ‹_› rfl ?_ ?_);first|exact tI|omega|simp only[oZ] at *;omega) |refine s2 rfl λ_ c=>?_ |refine s3 rfl ?_ ?_<;>rintro rfl |refine aU rfl ?_ |refine Aa ?_);(refine pW rfl ?_ rfl (by rfl);refine BJ [] rfl rfl 0 (j) (by decide) ⟨rfl,by decide,by decide⟩ rfl (by simp[cX,zC,a,cN]) ?_;rintro h e f ⟨rfl,rfl,rfl⟩ _);(repeat first |refine sN rfl ?_ |((first|refine sA rfl ?_ ?_|refine s4 rfl ‹_› rfl ?_ ?_);first|exact tI|omega|simp only[oZ] at *;omega) |refine s2 rfl λ_ c=>?_ |refine s3 rfl ?_ ?_<;>rintro rfl |refine aU rfl ?_ |refine Aa ?_);(refine pW rfl ?_ rfl (by rfl);refine Ag [1] rfl rfl (hp) ⟨rfl,by decide,by decide⟩ rfl (by simp[cX,zC,a,cN]) ?_;rintro h e f ⟨q,r,_,_,rfl,rfl,rfl⟩ _);(repeat first |refine sN rfl ?_ |((first|refine sA rfl ?_ ?_|refine s4 rfl ‹_› rfl ?_ ?_);first|exact tI|omega|simp only[oZ] at *;omega) |refine s2 rfl λ_ c=>?_ |refine s3 rfl ?_ ?_<;>rintro rfl |refine aU rfl ?_ |refine Aa ?_);exact aR ⟨_,rfl,[],FU r,[],⟨λi hi=>absurd hi (mt i),mV⟩,rfl,trivial,r,trivial,rfl,rfl,rfl⟩
theorem UA{tabs:List (Nat×Obj)}[hTb:Fa ⟨tabs,none⟩](b:List UInt8):Pure Tryz.prog ⟨tabs,none⟩ 10 [.o (.d (Xa b))] (eB true):=by
 refine eG Tryz.func10 rfl (by kernel_rfl) rfl ?_;intro Γ u;(repeat first |refine sN rfl ?_ |((first|refine sA rfl ?_ ?_|refine s4 rfl ‹_› rfl ?_ ?_);first|exact tI|omega|simp only[oZ] at *;omega) |refine s2 rfl λ_ a=>?_ |refine s3 rfl ?_ ?_<;>rintro rfl |refine aU rfl ?_ |refine Aa ?_);(refine aC rfl ?_ ?_<;>rintro⟨⟩)
 ·(repeat first |refine sN rfl ?_ |((first|refine sA rfl ?_ ?_|refine s4 rfl ‹_› rfl ?_ ?_);first|exact tI|omega|simp only[oZ] at *;omega) |refine s2 rfl λ_ a=>?_ |refine s3 rfl ?_ ?_<;>rintro rfl |refine aU rfl ?_ |refine Aa ?_)
  (subst_vars;exact aR ⟨_,rfl,rfl⟩)
 have h:b.length<=9223372036854775807:=by first|omega|simp only[oZ] at *;omega
 refine aK ?_;(repeat first |refine sN rfl ?_ |((first|refine sA rfl ?_ ?_|refine s4 rfl ‹_› rfl ?_ ?_);first|exact tI|omega|simp only[oZ] at *;omega) |refine s2 rfl λ_ a=>?_ |refine s3 rfl ?_ ?_<;>rintro rfl |refine aU rfl ?_ |refine Aa ?_);(refine pW rfl ?_ rfl (by rfl);refine Ag [] rfl rfl (Ms (TB:=⟨tabs,none⟩) b h) ⟨rfl,by decide,by decide⟩ rfl trivial ?_;rintro z l n ⟨t,_,rfl,rfl,rfl⟩ _);(repeat first |refine sN rfl ?_ |((first|refine sA rfl ?_ ?_|refine s4 rfl ‹_› rfl ?_ ?_);first|exact tI|omega|simp only[oZ] at *;omega) |refine s2 rfl λ_ a=>?_ |refine s3 rfl ?_ ?_<;>rintro rfl);refine Aa ?_;refine Au.AM [0] [(3,.o (.ip (Tv t)))] ⟨⟨_,rfl,.inr (.o (.box rfl (TP.refl (Tv t))))⟩,trivial⟩ ?_;have g:=MW (TB:=⟨tabs,none⟩) t;have f:Pure Tryz.prog ⟨tabs,none⟩ 47 [FU t] (Se (TF t)):=NY (TB:=⟨tabs,none⟩) t
 cases hw:TF t with
 | none=>
  rw [hw] at g f;have ag:=Zm (TB:=⟨tabs,none⟩) Xl;(repeat first |refine sN rfl ?_ |((first|refine sA rfl ?_ ?_|refine s4 rfl ‹_› rfl ?_ ?_);first|exact tI|omega|simp only[oZ] at *;omega) |refine s2 rfl λ_ a=>?_ |refine sP rfl (g) rfl ?_|refine sP rfl (f) rfl ?_ |refine s3 rfl ?_ ?_<;>rintro rfl |refine aU rfl ?_ |refine Aa ?_)
  (repeat' first |refine sN rfl ?_ |((first|refine sA rfl ?_ ?_|refine s4 rfl ‹_› rfl ?_ ?_);first|exact tI|omega|simp only[oZ] at *;omega) |refine s2 rfl λ_ a=>?_ |refine sP rfl (ag) rfl ?_ |refine s3 rfl ?_ ?_<;>rintro rfl |refine aU rfl ?_ |refine Aa ?_|(refine aC rfl ?_ ?_<;>rintro⟨⟩));all_goals try contradiction
  all_goals (subst_vars;exact aR ⟨_,rfl,rfl⟩)
 | some m=>
  rw [hw] at g f;have ag:=Zm (TB:=⟨tabs,none⟩) m;obtain⟨s,q,al⟩:=t;unfold TF at hw;split at hw
  ·rename_i ht
   obtain⟨r,B,A⟩:=UB (p:=Xl) ht hw;have c:=(TH ht hw).1;have k:=JA (TB:=⟨tabs,none⟩) m
   have w:decide (HR m > 0)=true:=by unfold HR;rw [if_pos c];exact decide_eq_true (by omega)
   have y:Gn m=BT m (Bl m):=by unfold Gn;rw [if_pos c]
   rw [w,y] at k;have j:=HB (tabs:=tabs) (te:=⟨false,Xl,s,q,al⟩) (BT m (Bl m)) (fv c (io _));rw [r] at j;have e:=IG (TB:=⟨tabs,none⟩) (FH m (Bl m)) m
   have v:Dk (FH m (Bl m)) m=true:=by
    have i:=Gh c _ (io (Bl m));unfold Dk;rw [show AI (FH m (Bl m))=true from LQ (Al c).1 i.1 i.2.2.1,c];exact decide_eq_true rfl
   rw [v,NA c] at e;replace e:Pure Tryz.prog ⟨tabs,none⟩ 22 [Bm (FH m (Bl m)),Bm m] (eB true):=e;generalize FH m (Bl m)=x at *;generalize BT m (Bl m)=tb at *;(repeat first |refine sN rfl ?_ |((first|refine sA rfl ?_ ?_|refine s4 rfl ‹_› rfl ?_ ?_);first|exact tI|omega|simp only[oZ] at *;omega) |refine s2 rfl λ_ a=>?_ |refine sP rfl (g) rfl ?_|refine sP rfl (f) rfl ?_ |refine s3 rfl ?_ ?_<;>rintro rfl |refine aU rfl ?_ |refine Aa ?_)
   (repeat' first |refine sN rfl ?_ |((first|refine sA rfl ?_ ?_|refine s4 rfl ‹_› rfl ?_ ?_);first|exact tI|omega|simp only[oZ] at *;omega) |refine s2 rfl λ_ a=>?_ |refine sP rfl (ag) rfl ?_ |refine s3 rfl ?_ ?_<;>rintro rfl |refine aU rfl ?_ |refine Aa ?_|(refine aC rfl ?_ ?_<;>rintro⟨⟩));all_goals try contradiction
   refine aK ?_;(repeat first |refine sN rfl ?_ |((first|refine sA rfl ?_ ?_|refine s4 rfl ‹_› rfl ?_ ?_);first|exact tI|omega|simp only[oZ] at *;omega) |refine s2 rfl λ_ a=>?_ |refine sP rfl (k) rfl ?_ |refine s3 rfl ?_ ?_<;>rintro rfl |refine aU rfl ?_ |refine Aa ?_);(repeat first |refine sN rfl ?_ |((first|refine sA rfl ?_ ?_|refine s4 rfl ‹_› rfl ?_ ?_);first|exact tI|omega|simp only[oZ] at *;omega) |refine s2 rfl λ_ a=>?_ |refine sP rfl (j) rfl ?_|(refine Af rfl ?_;refine gA rfl ?_;first|refine gS (λ_ _=>AF rfl rfl (by rfl) (by rfl)) ?_) |refine s3 rfl ?_ ?_<;>rintro rfl |refine aU rfl ?_ |refine Aa ?_)
   (repeat' first |refine sN rfl ?_ |((first|refine sA rfl ?_ ?_|refine s4 rfl ‹_› rfl ?_ ?_);first|exact tI|omega|simp only[oZ] at *;omega) |refine s2 rfl λ_ a=>?_ |refine sP rfl (e) rfl ?_ |refine s3 rfl ?_ ?_<;>rintro rfl |refine aU rfl ?_ |refine Aa ?_|(refine aC rfl ?_ ?_<;>rintro⟨⟩));all_goals try contradiction
   all_goals first
    | (exfalso;first|omega|simp only[oZ] at *;omega;done)
    | (subst_vars;exact aR ⟨_,rfl,rfl⟩)
    | (subst_vars;refine aR ⟨_,rfl,?_⟩;dsimp only;rw [decide_eq_true (show ((x.nx.length:Nat):Int)=((m.nx.length:Nat):Int) by omega)])
    | (exfalso;grind;done)
  ·cases hw
end Go.Am
