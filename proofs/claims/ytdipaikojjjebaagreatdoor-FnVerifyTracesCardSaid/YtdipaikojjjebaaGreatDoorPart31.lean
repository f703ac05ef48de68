/-
  Whether two lists of numbers, or of truths, are the same: walked.
-/
import Derived.Test.YtdipaikojjjebaaGreatDoorPart28
set_option linter.all false
namespace Go.Am
open Go Go.Proofs
set_option maxHeartbeats 1000000
set_option maxRecDepth 4000
attribute [local irreducible] A1 Cr Lex Bs Aj Spec
variable {TB:BA}
theorem WS(a b:List Int):Pure Tryz.prog TB 74 [AX a,AX b] (eB (decide (a=b))):=by
  refine eN Tryz.func74 rfl (by kernel_rfl) rfl ?_;intro Γ c;refine Aj.bound 0 rfl λj=>?_;have j:=j (a.map DJ) .refl;rw[f7]at j;(repeat first|refine sN rfl ?_|refine tA rfl ?_|refine s2 rfl λ_ d=>?_|refine aU rfl ?_|apply Aa);(refine aC rfl ?_ ?_<;>rintro⟨⟩)
  · (repeat first|refine tA rfl ?_|refine aU rfl ?_|apply Aa)
    refine aR ⟨_,rfl,?_⟩
    have r:a≠b:=λh=>by subst h;(simp only[oZ] at *;omega)
    show E.o _=E.o _;congr;grind
  apply aK
  have s:a.length=b.length:=by (simp only[oZ] at *;omega)
  (repeat first|refine tA rfl ?_|refine aU rfl ?_|apply Aa);apply aB;refine Aj.BC (α:={k:Nat // k<=a.length/\a.take k=b.take k}) (λ⟨k,hk,e⟩=>[(0,AX a),(1,AX b),(5,eI .i64 k)]) (λ⟨k,hk,e⟩=>[]) 0 (λ⟨k,hk,e⟩=>a.length-k) (⟨0,by omega,by simp⟩) [] (GX c rfl rfl) (by (simp[cX,zC,c])) ?_;rintro⟨k,hk,e⟩;(try dsimp only);(repeat first|refine sN rfl ?_|refine tA rfl ?_|refine s2 rfl λ_ d=>?_|refine aU rfl ?_|apply Aa)
  ((refine aC rfl ?_ ?_<;>rintro⟨⟩);all_goals try (simp at d;done))
  · have f:k<a.length:=by (simp only[oZ] at *;omega)
    obtain⟨x,n⟩:=get_some (l:=a) (k:=k) f;obtain⟨y,m⟩:=get_some (l:=b) (k:=k) (by omega);have q:=get_map (g:=DJ) n;have p:=get_map (g:=DJ) m;apply aK;refine aS (aB ?_);(repeat first|refine aU rfl ?_);refine rG (Hf []) (by kernel_rfl) ?_;(repeat first|refine tA rfl ?_|(refine s4 rfl ‹_› rfl ?_ ?_;omega)|refine s2 rfl λ_ d=>?_|apply Aa);(refine aC rfl ?_ ?_<;>rintro⟨⟩)
    all_goals first
      | ((repeat first|refine tA rfl ?_|refine aU rfl ?_|apply Aa)
         refine aR ⟨_,rfl,?_⟩
         show E.o _=E.o _;congr;grind
         done)
      | (apply aK
         (repeat first|(refine sA rfl ?_ ?_;first|exact tI|omega)|refine aU rfl ?_|apply Aa);refine⟨⟨k+1,by omega,by rw[gt,gt,n,m];grind⟩,by dsimp only;(omega),[],?_⟩
         simp[cX,zC,c])
  · apply aE
    (repeat first|refine tA rfl ?_|refine aU rfl ?_|apply Aa);refine aR ⟨_,rfl,?_⟩
    have i:a.length<=k:=by (simp only[oZ] at *;omega)
    rw[lF i,lF (by omega)]at e
    show E.o _=E.o _;congr;grind
theorem TK(a b:List Bool):Pure Tryz.prog TB 73 [Ny a,Ny b] (eB (decide (a=b))):=by
  refine eN Tryz.func73 rfl (by kernel_rfl) rfl ?_;intro Γ c;refine Aj.bound 0 rfl λj=>?_;have j:=j (a.map MF) .refl;rw[f7]at j;(repeat first|refine sN rfl ?_|refine tA rfl ?_|refine s2 rfl λ_ d=>?_|refine aU rfl ?_|apply Aa);(refine aC rfl ?_ ?_<;>rintro⟨⟩)
  · (repeat first|refine tA rfl ?_|refine aU rfl ?_|apply Aa)
    refine aR ⟨_,rfl,?_⟩
    have r:a≠b:=λh=>by subst h;(simp only[oZ] at *;omega)
    show E.o _=E.o _;congr;grind
  apply aK
  have s:a.length=b.length:=by (simp only[oZ] at *;omega)
  (repeat first|refine tA rfl ?_|refine aU rfl ?_|apply Aa);apply aB;refine Aj.BC (α:={k:Nat // k<=a.length/\a.take k=b.take k}) (λ⟨k,hk,e⟩=>[(0,Ny a),(1,Ny b),(5,eI .i64 k)]) (λ⟨k,hk,e⟩=>[]) 0 (λ⟨k,hk,e⟩=>a.length-k) (⟨0,by omega,by simp⟩) [] (GX c rfl rfl) (by (simp[cX,zC,c])) ?_;rintro⟨k,hk,e⟩;(try dsimp only);(repeat first|refine sN rfl ?_|refine tA rfl ?_|refine s2 rfl λ_ d=>?_|refine aU rfl ?_|apply Aa)
  ((refine aC rfl ?_ ?_<;>rintro⟨⟩);all_goals try (simp at d;done))
  · have f:k<a.length:=by (simp only[oZ] at *;omega)
    obtain⟨x,n⟩:=get_some (l:=a) (k:=k) f;obtain⟨y,m⟩:=get_some (l:=b) (k:=k) (by omega);have q:=get_map (g:=MF) n;have p:=get_map (g:=MF) m;apply aK;refine aS (aB ?_);(repeat first|refine aU rfl ?_);refine rG (Hf []) (by kernel_rfl) ?_;(repeat first|refine tA rfl ?_|(refine s4 rfl ‹_› rfl ?_ ?_;omega)|refine s2 rfl λ_ d=>?_|apply Aa);(refine aC rfl ?_ ?_<;>rintro⟨⟩)
    all_goals first
      | ((repeat first|refine tA rfl ?_|refine aU rfl ?_|apply Aa)
         refine aR ⟨_,rfl,?_⟩
         show E.o _=E.o _;congr;grind
         done)
      | (apply aK
         (repeat first|(refine sA rfl ?_ ?_;first|exact tI|omega)|refine aU rfl ?_|apply Aa);refine⟨⟨k+1,by omega,by rw[gt,gt,n,m];grind⟩,by dsimp only;(omega),[],?_⟩
         simp[cX,zC,c])
  · apply aE
    (repeat first|refine tA rfl ?_|refine aU rfl ?_|apply Aa);refine aR ⟨_,rfl,?_⟩
    have i:a.length<=k:=by (simp only[oZ] at *;omega)
    rw[lF i,lF (by omega)]at e
    show E.o _=E.o _;congr;grind
theorem bB(a b:A5):Pure Tryz.prog TB 30 [Bp a,Bp b] (eB (decide (a.al=b.al/\a.nx=b.nx/\a.ac=b.ac))):=by
  have p:=TK (TB:=TB) a.ac b.ac;refine eN Tryz.func30 rfl (by kernel_rfl) rfl ?_;intro Γ d;refine Aj.bound 0 rfl λj=>?_;have j:=j (a.nx.map Ib) ⟨1,_,rfl,.refl⟩;rw[f7]at j;(repeat first|refine tA rfl ?_|refine s2 rfl λ_ c=>?_|(refine sC rfl (p) ?_;intro _ c)|refine s3 rfl ?_ ?_<;>rintro rfl|refine aU rfl ?_|apply Aa);(repeat' first|refine sN rfl ?_|refine tA rfl ?_|refine s2 rfl λ_ c=>?_|(refine sC rfl (p) ?_;intro _ c)|refine s3 rfl ?_ ?_<;>rintro rfl|refine aU rfl ?_|apply Aa|(refine aC rfl ?_ ?_<;>rintro⟨⟩))
  all_goals first
    | (refine aR ⟨_,rfl,?_⟩
       show E.o _=E.o _;congr;grind
       done)
    | skip
  · rename_i t bb e
    have u:a.ac=b.ac:=by simp at c;rw[c]at e;exact of_decide_eq_true e
    have hal:a.al=b.al:=by simpa using ‹decide (a.al≠b.al)=false›
    have s:a.nx.length=b.nx.length:=by (simp only[oZ] at *;omega)
    apply aK;(repeat first|refine tA rfl ?_|refine aU rfl ?_|apply Aa);apply aB;refine Aj.BC (α:={k:Nat // k<=a.nx.length/\a.nx.take k=b.nx.take k}) (λ⟨k,hk,f⟩=>[(2,.o (.ip (AU a))),(3,.o (.ip (AU b))),(5,eI .i64 k)]) (λ⟨k,hk,f⟩=>[]) 0 (λ⟨k,hk,f⟩=>a.nx.length-k) (⟨0,by omega,by simp⟩) [] (GX d rfl rfl) (by (simp[cX,zC,d])) ?_;rintro⟨k,hk,f⟩;(try dsimp only);(repeat first|refine sN rfl ?_|refine tA rfl ?_|refine s2 rfl λ_ c=>?_|refine aU rfl ?_|apply Aa)
    ((refine aC rfl ?_ ?_<;>rintro⟨⟩);all_goals try (simp at c;done))
    · have h:k<a.nx.length:=by (simp only[oZ] at *;omega)
      obtain⟨x,n⟩:=get_some (l:=a.nx) (k:=k) h;obtain⟨y,m⟩:=get_some (l:=b.nx) (k:=k) (by omega);have r:=get_map (g:=Ib) n;have q:=get_map (g:=Ib) m;have v:=WS (TB:=TB) x y;apply aK;refine aS (aB ?_);(repeat first|refine aU rfl ?_);refine rG (Hf []) (by kernel_rfl) ?_;(repeat first|refine tA rfl ?_|(refine s4 rfl ‹_› rfl ?_ ?_;omega)|refine s2 rfl λ_ c=>?_|(refine sC rfl (v) ?_;intro _ c)|apply Aa);(refine aC rfl ?_ ?_<;>rintro⟨⟩)
      all_goals first
        | ((repeat first|refine tA rfl ?_|refine aU rfl ?_|apply Aa)
           refine aR ⟨_,rfl,?_⟩
           show E.o _=E.o _;congr;grind
           done)
        | (apply aK
           (repeat first|(refine sA rfl ?_ ?_;first|exact tI|omega)|refine aU rfl ?_|apply Aa);refine⟨⟨k+1,by omega,by rw[gt,gt,n,m];grind⟩,by dsimp only;(omega),[],?_⟩
           simp[cX,zC,d])
    · apply aE
      (repeat first|refine tA rfl ?_|refine aU rfl ?_|apply Aa);refine aR ⟨_,rfl,?_⟩
      have i:a.nx.length<=k:=by (simp only[oZ] at *;omega)
      rw[lF i,lF (by omega)]at f
      show E.o _=E.o _;congr;grind
end Go.Am
