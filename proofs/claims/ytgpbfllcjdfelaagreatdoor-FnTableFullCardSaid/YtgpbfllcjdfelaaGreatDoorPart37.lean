/-
  What SameLanguage is asked about, drawn: walked.
-/
import Derived.Test.YtgpbfllcjdfelaaGreatDoorPart36
import Derived.Test.YtgpbfllcjdfelaaGreatDoorPart34
set_option linter.all false
namespace Go.Am
open Go Go.Proofs
set_option maxHeartbeats 1000000
set_option maxRecDepth 4000
attribute [local irreducible] AU BZ Lex Br Aj Spec
variable {TB:Bp}
theorem aAb(a b:List W):Pure Tryz.prog TB 105 [Bx a,Bx b] (eB (decide (a=b))):=by
  refine eN Tryz.func105 rfl (by kernel_rfl) rfl ?_;intro Γ d;refine Aj.bound 0 rfl λj=>?_;have j:=j (a.map BU) .refl;rw [gc] at j;(repeat first |refine sN rfl ?_ |((first|refine sA rfl ?_ ?_|refine s4 rfl ‹_› rfl ?_ ?_);first|exact tI|omega|simp only[oZ] at *;omega) |refine s2 rfl λ_ c=>?_ |refine s3 rfl ?_ ?_<;>rintro rfl |refine aU rfl ?_ |refine Aa ?_);(refine aC rfl ?_ ?_<;>rintro⟨⟩)
  · (repeat first |refine sN rfl ?_ |((first|refine sA rfl ?_ ?_|refine s4 rfl ‹_› rfl ?_ ?_);first|exact tI|omega|simp only[oZ] at *;omega) |refine s2 rfl λ_ c=>?_ |refine s3 rfl ?_ ?_<;>rintro rfl |refine aU rfl ?_ |refine Aa ?_)
    refine aR ⟨_,rfl,?_⟩
    have r:a≠b:=λh=>by subst h;first|omega|simp only[oZ] at *;omega
    show E.o _=E.o _;congr;grind
  refine aK ?_
  have s:a.length=b.length:=by first|omega|simp only[oZ] at *;omega
  (repeat first |refine sN rfl ?_ |((first|refine sA rfl ?_ ?_|refine s4 rfl ‹_› rfl ?_ ?_);first|exact tI|omega|simp only[oZ] at *;omega) |refine s2 rfl λ_ c=>?_ |refine s3 rfl ?_ ?_<;>rintro rfl |refine aU rfl ?_ |refine Aa ?_);refine aB ?_;refine Aj.Cq (Z:={k:Nat // k<=a.length/\a.take k=b.take k}) (λ⟨k,hk,e⟩=>[(0,Bx a),(1,Bx b),(5,eI .i64 k)]) (λ⟨k,hk,e⟩=>[]) 0 (λ⟨k,hk,e⟩=>a.length - k) (⟨0,by omega,by simp⟩) [] (JT d rfl rfl) (by ((repeat' first|exact tI|rfl|refine And.intro ?_ ?_)<;>(simp[cX,zC,d]))) ?_;rintro⟨k,hk,e⟩;(try dsimp only);(repeat first |refine sN rfl ?_ |((first|refine sA rfl ?_ ?_|refine s4 rfl ‹_› rfl ?_ ?_);first|exact tI|omega|simp only[oZ] at *;omega) |refine s2 rfl λ_ c=>?_ |refine s3 rfl ?_ ?_<;>rintro rfl |refine aU rfl ?_ |refine Aa ?_)
  ((refine aC rfl ?_ ?_<;>rintro⟨⟩);all_goals try (simp at c;done))
  · have f:k < a.length:=by first|omega|simp only[oZ] at *;omega
    obtain⟨x,n⟩:=get_some (l:=a) (k:=k) f;obtain⟨y,m⟩:=get_some (l:=b) (k:=k) (by omega);have q:=get_map (g:=BU) n;have p:=get_map (g:=BU) m;refine aK ?_;refine aS (aB ?_);(repeat first |refine sN rfl ?_ |((first|refine sA rfl ?_ ?_|refine s4 rfl ‹_› rfl ?_ ?_);first|exact tI|omega|simp only[oZ] at *;omega) |refine s2 rfl λ_ c=>?_ |refine s3 rfl ?_ ?_<;>rintro rfl |refine aU rfl ?_ |refine Aa ?_);refine rG (It []) (by kernel_rfl) ?_;(repeat first |refine sN rfl ?_ |((first|refine sA rfl ?_ ?_|refine s4 rfl ‹_› rfl ?_ ?_);first|exact tI|omega|simp only[oZ] at *;omega) |refine s2 rfl λ_ c=>?_ |refine s3 rfl ?_ ?_<;>rintro rfl |refine aU rfl ?_ |refine Aa ?_);(refine aC rfl ?_ ?_<;>rintro⟨⟩)
    all_goals first
      | ((repeat first |refine sN rfl ?_ |((first|refine sA rfl ?_ ?_|refine s4 rfl ‹_› rfl ?_ ?_);first|exact tI|omega|simp only[oZ] at *;omega) |refine s2 rfl λ_ c=>?_ |refine s3 rfl ?_ ?_<;>rintro rfl |refine aU rfl ?_ |refine Aa ?_)
         refine aR ⟨_,rfl,?_⟩
         show E.o _=E.o _;congr;grind
         done)
      | (refine aK ?_
         (repeat first |refine sN rfl ?_ |((first|refine sA rfl ?_ ?_|refine s4 rfl ‹_› rfl ?_ ?_);first|exact tI|omega|simp only[oZ] at *;omega) |refine s2 rfl λ_ c=>?_ |refine s3 rfl ?_ ?_<;>rintro rfl |refine aU rfl ?_ |refine Aa ?_);refine⟨⟨k+1,by first|omega|simp only[oZ] at *;omega,by rw [io,io,n,m];grind⟩,by dsimp only;(first|omega|simp only[oZ] at *;omega),[],?_⟩
         simp[cX,zC,d])
  · refine aE ?_
    (repeat first |refine sN rfl ?_ |((first|refine sA rfl ?_ ?_|refine s4 rfl ‹_› rfl ?_ ?_);first|exact tI|omega|simp only[oZ] at *;omega) |refine s2 rfl λ_ c=>?_ |refine s3 rfl ?_ ?_<;>rintro rfl |refine aU rfl ?_ |refine Aa ?_);refine aR ⟨_,rfl,?_⟩
    have i:a.length<=k:=by first|omega|simp only[oZ] at *;omega
    rw [kD i,kD (by omega)] at e
    show E.o _=E.o _;congr;grind
theorem aAl(a b c d:List W):Pure Tryz.prog TB 44 [.a [.d (Bd a),.d (Bd b)],.a [.d (Bd c),.d (Bd d)]] (eB (decide (a=c/\b=d))):=by
 refine eN Tryz.func44 rfl (by kernel_rfl) rfl ?_;intro Γ f;(repeat' first |refine sN rfl ?_ |((first|refine sA rfl ?_ ?_|refine s4 rfl ‹_› rfl ?_ ?_);first|exact tI|omega|simp only[oZ] at *;omega) |refine s2 rfl λ_ e=>?_ |(refine sC rfl (aAb a c) ?_;intro _ e)|(refine sC rfl (aAb b d) ?_;intro _ e) |refine s3 rfl ?_ ?_<;>rintro rfl |refine aU rfl ?_ |refine Aa ?_ |refine rE (by kernel_rfl) ?_|(refine aC rfl ?_ ?_<;>rintro⟨⟩)|refine aK ?_|refine aE ?_|refine aB ?_|refine aR ⟨_,rfl,?_⟩)
 all_goals (show E.o _=E.o _;congr;grind)
theorem aAg(a b:List Int):Pure Tryz.prog TB 56 [AW a,AW b] (eB (decide (a=b))):=by
  refine eN Tryz.func56 rfl (by kernel_rfl) rfl ?_;intro Γ c;refine Aj.bound 0 rfl λj=>?_;have j:=j (a.map CN) .refl;rw [gc] at j;(repeat first|refine sN rfl ?_ |refine tA rfl ?_ |refine s2 rfl λ_ d=>?_ |refine aU rfl ?_ |refine Aa ?_);(refine aC rfl ?_ ?_<;>rintro⟨⟩)
  · (repeat first|refine tA rfl ?_ |refine aU rfl ?_ |refine Aa ?_)
    refine aR ⟨_,rfl,?_⟩
    have r:a≠b:=λh=>by subst h;(simp only[oZ] at *;omega)
    show E.o _=E.o _;congr;grind
  refine aK ?_
  have s:a.length=b.length:=by (simp only[oZ] at *;omega)
  (repeat first|refine tA rfl ?_ |refine aU rfl ?_ |refine Aa ?_);refine aB ?_;refine Aj.Cq (Z:={k:Nat // k<=a.length/\a.take k=b.take k}) (λ⟨k,hk,e⟩=>[(0,AW a),(1,AW b),(5,eI .i64 k)]) (λ⟨k,hk,e⟩=>[]) 0 (λ⟨k,hk,e⟩=>a.length - k) (⟨0,by omega,by simp⟩) [] (JT c rfl rfl) (by (simp[cX,zC,c])) ?_;rintro⟨k,hk,e⟩;(try dsimp only);(repeat first|refine sN rfl ?_ |refine tA rfl ?_ |refine s2 rfl λ_ d=>?_ |refine aU rfl ?_ |refine Aa ?_)
  ((refine aC rfl ?_ ?_<;>rintro⟨⟩);all_goals try (simp at d;done))
  · have f:k < a.length:=by (simp only[oZ] at *;omega)
    obtain⟨x,n⟩:=get_some (l:=a) (k:=k) f;obtain⟨y,m⟩:=get_some (l:=b) (k:=k) (by omega);have q:=get_map (g:=CN) n;have p:=get_map (g:=CN) m;refine aK ?_;refine aS (aB ?_);(repeat first|refine aU rfl ?_);refine rG (It []) (by kernel_rfl) ?_;(repeat first|refine tA rfl ?_ |(refine s4 rfl ‹_› rfl ?_ ?_;omega) |refine s2 rfl λ_ d=>?_ |refine Aa ?_);(refine aC rfl ?_ ?_<;>rintro⟨⟩)
    all_goals first
      | ((repeat first|refine tA rfl ?_ |refine aU rfl ?_ |refine Aa ?_)
         refine aR ⟨_,rfl,?_⟩
         show E.o _=E.o _;congr;grind
         done)
      | (refine aK ?_
         (repeat first|(refine sA rfl ?_ ?_;first|exact tI|omega) |refine aU rfl ?_ |refine Aa ?_);refine⟨⟨k+1,by omega,by rw [io,io,n,m];grind⟩,by dsimp only;(omega),[],?_⟩
         simp[cX,zC,c])
  · refine aE ?_
    (repeat first|refine tA rfl ?_ |refine aU rfl ?_ |refine Aa ?_);refine aR ⟨_,rfl,?_⟩
    have i:a.length<=k:=by (simp only[oZ] at *;omega)
    rw [kD i,kD (by omega)] at e
    show E.o _=E.o _;congr;grind
theorem aAe(a b:List Bool):Pure Tryz.prog TB 55 [jl a,jl b] (eB (decide (a=b))):=by
  refine eN Tryz.func55 rfl (by kernel_rfl) rfl ?_;intro Γ c;refine Aj.bound 0 rfl λj=>?_;have j:=j (a.map IB) .refl;rw [gc] at j;(repeat first|refine sN rfl ?_ |refine tA rfl ?_ |refine s2 rfl λ_ d=>?_ |refine aU rfl ?_ |refine Aa ?_);(refine aC rfl ?_ ?_<;>rintro⟨⟩)
  · (repeat first|refine tA rfl ?_ |refine aU rfl ?_ |refine Aa ?_)
    refine aR ⟨_,rfl,?_⟩
    have r:a≠b:=λh=>by subst h;(simp only[oZ] at *;omega)
    show E.o _=E.o _;congr;grind
  refine aK ?_
  have s:a.length=b.length:=by (simp only[oZ] at *;omega)
  (repeat first|refine tA rfl ?_ |refine aU rfl ?_ |refine Aa ?_);refine aB ?_;refine Aj.Cq (Z:={k:Nat // k<=a.length/\a.take k=b.take k}) (λ⟨k,hk,e⟩=>[(0,jl a),(1,jl b),(5,eI .i64 k)]) (λ⟨k,hk,e⟩=>[]) 0 (λ⟨k,hk,e⟩=>a.length - k) (⟨0,by omega,by simp⟩) [] (JT c rfl rfl) (by (simp[cX,zC,c])) ?_;rintro⟨k,hk,e⟩;(try dsimp only);(repeat first|refine sN rfl ?_ |refine tA rfl ?_ |refine s2 rfl λ_ d=>?_ |refine aU rfl ?_ |refine Aa ?_)
  ((refine aC rfl ?_ ?_<;>rintro⟨⟩);all_goals try (simp at d;done))
  · have f:k < a.length:=by (simp only[oZ] at *;omega)
    obtain⟨x,n⟩:=get_some (l:=a) (k:=k) f;obtain⟨y,m⟩:=get_some (l:=b) (k:=k) (by omega);have q:=get_map (g:=IB) n;have p:=get_map (g:=IB) m;refine aK ?_;refine aS (aB ?_);(repeat first|refine aU rfl ?_);refine rG (It []) (by kernel_rfl) ?_;(repeat first|refine tA rfl ?_ |(refine s4 rfl ‹_› rfl ?_ ?_;omega) |refine s2 rfl λ_ d=>?_ |refine Aa ?_);(refine aC rfl ?_ ?_<;>rintro⟨⟩)
    all_goals first
      | ((repeat first|refine tA rfl ?_ |refine aU rfl ?_ |refine Aa ?_)
         refine aR ⟨_,rfl,?_⟩
         show E.o _=E.o _;congr;grind
         done)
      | (refine aK ?_
         (repeat first|(refine sA rfl ?_ ?_;first|exact tI|omega) |refine aU rfl ?_ |refine Aa ?_);refine⟨⟨k+1,by omega,by rw [io,io,n,m];grind⟩,by dsimp only;(omega),[],?_⟩
         simp[cX,zC,c])
  · refine aE ?_
    (repeat first|refine tA rfl ?_ |refine aU rfl ?_ |refine Aa ?_);refine aR ⟨_,rfl,?_⟩
    have i:a.length<=k:=by (simp only[oZ] at *;omega)
    rw [kD i,kD (by omega)] at e
    show E.o _=E.o _;congr;grind
theorem aAd(a b:AY):Pure Tryz.prog TB 15 [Bi a,Bi b] (eB (decide (a.al=b.al/\a.nx=b.nx/\a.ac=b.ac))):=by
  have p:=aAe (TB:=TB) a.ac b.ac;refine eN Tryz.func15 rfl (by kernel_rfl) rfl ?_;intro Γ d;refine Aj.bound 0 rfl λj=>?_;have j:=j (a.nx.map Iv) ⟨1,_,rfl,.refl⟩;rw [gc] at j;(repeat first|refine tA rfl ?_ |refine s2 rfl λ_ c=>?_ |(refine sC rfl (p) ?_;intro _ c) |refine s3 rfl ?_ ?_<;>rintro rfl |refine aU rfl ?_ |refine Aa ?_);(repeat' first|refine sN rfl ?_ |refine tA rfl ?_ |refine s2 rfl λ_ c=>?_ |(refine sC rfl (p) ?_;intro _ c) |refine s3 rfl ?_ ?_<;>rintro rfl |refine aU rfl ?_ |refine Aa ?_|(refine aC rfl ?_ ?_<;>rintro⟨⟩))
  all_goals first
    | (refine aR ⟨_,rfl,?_⟩
       show E.o _=E.o _;congr;grind
       done)
    | skip
  · rename_i t bb e
    have u:a.ac=b.ac:=by simp at c;rw [c] at e;exact of_decide_eq_true e
    have hal:a.al=b.al:=by simpa using ‹decide (a.al≠b.al)=false›
    have s:a.nx.length=b.nx.length:=by (simp only[oZ] at *;omega)
    refine aK ?_;(repeat first|refine tA rfl ?_ |refine aU rfl ?_ |refine Aa ?_);refine aB ?_;refine Aj.Cq (Z:={k:Nat // k<=a.nx.length/\a.nx.take k=b.nx.take k}) (λ⟨k,hk,f⟩=>[(2,.o (.ip (BP a))),(3,.o (.ip (BP b))),(5,eI .i64 k)]) (λ⟨k,hk,f⟩=>[]) 0 (λ⟨k,hk,f⟩=>a.nx.length - k) (⟨0,by omega,by simp⟩) [] (JT d rfl rfl) (by (simp[cX,zC,d])) ?_;rintro⟨k,hk,f⟩;(try dsimp only);(repeat first|refine sN rfl ?_ |refine tA rfl ?_ |refine s2 rfl λ_ c=>?_ |refine aU rfl ?_ |refine Aa ?_)
    ((refine aC rfl ?_ ?_<;>rintro⟨⟩);all_goals try (simp at c;done))
    · have h:k < a.nx.length:=by (simp only[oZ] at *;omega)
      obtain⟨x,n⟩:=get_some (l:=a.nx) (k:=k) h;obtain⟨y,m⟩:=get_some (l:=b.nx) (k:=k) (by omega);have r:=get_map (g:=Iv) n;have q:=get_map (g:=Iv) m;have v:=aAg (TB:=TB) x y;refine aK ?_;refine aS (aB ?_);(repeat first|refine aU rfl ?_);refine rG (It []) (by kernel_rfl) ?_;(repeat first|refine tA rfl ?_ |(refine s4 rfl ‹_› rfl ?_ ?_;omega) |refine s2 rfl λ_ c=>?_ |(refine sC rfl (v) ?_;intro _ c) |refine Aa ?_);(refine aC rfl ?_ ?_<;>rintro⟨⟩)
      all_goals first
        | ((repeat first|refine tA rfl ?_ |refine aU rfl ?_ |refine Aa ?_)
           refine aR ⟨_,rfl,?_⟩
           show E.o _=E.o _;congr;grind
           done)
        | (refine aK ?_
           (repeat first|(refine sA rfl ?_ ?_;first|exact tI|omega) |refine aU rfl ?_ |refine Aa ?_);refine⟨⟨k+1,by omega,by rw [io,io,n,m];grind⟩,by dsimp only;(omega),[],?_⟩
           simp[cX,zC,d])
    · refine aE ?_
      (repeat first|refine tA rfl ?_ |refine aU rfl ?_ |refine Aa ?_);refine aR ⟨_,rfl,?_⟩
      have i:a.nx.length<=k:=by (simp only[oZ] at *;omega)
      rw [kD i,kD (by omega)] at f
      show E.o _=E.o _;congr;grind
theorem aAo(te:FB)(x:A9):(if A1 (ca te) (WJ te) x then Bw (ca te) (A2 (WJ te)) 13 x else none)=Xx te x:=by
 unfold Xx;rw [ZW];by_cases a:A1 (ca te) (WJ te) x=true
 ·obtain⟨d,c,f,b,e⟩:=iX a
  rw [a,c,if_pos rfl,if_pos rfl];exact So (ZP d) 13 b.bd (by omega)
 ·rw [lB] at a;rw [a,if_neg Bool.false_ne_true,if_neg Bool.false_ne_true]
end Go.Am
namespace Go.Am
open Go Go.Proofs
set_option maxHeartbeats 1000000
set_option maxRecDepth 4000
attribute [local irreducible] AU BZ Lex Br Aj Spec
variable {tabs:List (Nat×Obj)}
theorem aAm(te:FB)(x:A9):(if Dx (ca te) (WJ te) x then some (Bn (ca te) (WJ te) x) else none)=fJ te x:=by
 rw [NR];cases b:A1 (ca te) (WJ te) x
 ·rw [Bool.false_and,if_neg Bool.false_ne_true]
  unfold fJ;rw [NR,<-Bool.and_assoc,ZW,b];rfl
 ·obtain⟨a,e,d,c,f⟩:=iX b
  rw [e,VZ (ZP a) c.bd (by omega),fI (ZP a) c.bd (by omega),lX];unfold fJ;rw [NR,a,d,lX,lX]
theorem aAn{te:FB}{x:A9}{a:AY}(h:fJ te x=some a):A1 (ca te) (WJ te) x=true/\Bb (GI te) (A2 (Bq te)) x=none/\Dk (GI te) (A2 (Bq te)) x/\a=Bn (GI te) (Bq te) x/\AL a=true/\a.al=Bq te/\a.nx.length=x.rows.length/\a.ac=x.rows.map (GI te):=by
 unfold fJ at h;by_cases b:(Ga te && Dx (GI te) (Bq te) x)=true
 ·rw [if_pos b] at h
  injection h with h
  subst h;rw [d5] at b;obtain⟨d,f,c⟩:=Vu b.2
  have e:A1 (ca te) (WJ te) x=true:=by rw [<-ZW,b.1,d];rfl
  exact⟨e,f,c,rfl,iH (Ny b.1) c (CE d).1.rl,rfl,by simp [Bn],rfl⟩
 ·rw [if_neg b] at h;cases h
end Go.Am
namespace Go.Am
open Go Go.Proofs
set_option maxHeartbeats 1000000
set_option maxRecDepth 4000
attribute [local irreducible] AU BZ Lex Br Aj Spec
variable {TB:Bp}
theorem aAi(a:AY):Pure Tryz.prog TB 15 [Bi a,Bi a] (eB true):=by
 have ag:=aAd (TB:=TB) a a;rw [decide_eq_true (⟨rfl,rfl,rfl⟩:a.al=a.al/\a.nx=a.nx/\a.ac=a.ac)] at ag;exact ag
end Go.Am
namespace Go.Am
open Go Go.Proofs
set_option maxHeartbeats 1000000
set_option maxRecDepth 4000
attribute [local irreducible] AU BZ Lex Br Aj Spec
variable {tabs:List (Nat×Obj)}
theorem aAh{p:AY}(hp:AL p=true){x:A9}(a:Dk (LA p) (A2 p.al) x)(g:x.rows.length<=12) :
 (Fv (Bn (LA p) p.al x) p && (NV (Bn (LA p) p.al x) p).isNone)=decide (x.rows.length=(CP p).nx.length):=by
 have c:=iH (Ax hp).1 a g
 have f:Fv (Bn (LA p) p.al x) p=true:=by
  unfold Fv;rw [c,hp];exact decide_eq_true rfl
 rw [f,lX,lV,decide_eq_true_eq,ga hp a];constructor
 ·intro h w e
  have d:NV (Bn (LA p) p.al x) p=none:=by simpa using h
  have:=fb f d w e;rwa [iE a e] at this
 ·intro h
  cases d:NV (Bn (LA p) p.al x) p with
  | none=>rfl
  | some v=>
   exfalso;obtain⟨_,b,i,_⟩:=fc d;have b:AD (A2 p.al) (DZ v):=b;exact i (by rw [iE a b,h _ b])
theorem aAc[FA ⟨tabs,none⟩](b:List UInt8):Pure Tryz.prog ⟨tabs,none⟩ 4 [.o (.d (RP b))] (eB true):=by
 refine eG Tryz.func4 rfl (by kernel_rfl) rfl ?_;intro Γ A;(repeat first |refine sN rfl ?_ |((first|refine sA rfl ?_ ?_|refine s4 rfl ‹_› rfl ?_ ?_);first|exact tI|omega|simp only[oZ] at *;omega) |refine s2 rfl λ_ c=>?_ |refine s3 rfl ?_ ?_<;>rintro rfl |refine aU rfl ?_ |refine Aa ?_);(refine aC rfl ?_ ?_<;>rintro⟨⟩)
 ·(repeat first |refine sN rfl ?_ |((first|refine sA rfl ?_ ?_|refine s4 rfl ‹_› rfl ?_ ?_);first|exact tI|omega|simp only[oZ] at *;omega) |refine s2 rfl λ_ c=>?_ |refine s3 rfl ?_ ?_<;>rintro rfl |refine aU rfl ?_ |refine Aa ?_)
  (subst_vars;exact aR ⟨_,rfl,rfl⟩)
 have r:b.length<=9223372036854775807:=by first|omega|simp only[oZ] at *;omega
 refine aK ?_;(repeat first |refine sN rfl ?_ |((first|refine sA rfl ?_ ?_|refine s4 rfl ‹_› rfl ?_ ?_);first|exact tI|omega|simp only[oZ] at *;omega) |refine s2 rfl λ_ c=>?_ |refine s3 rfl ?_ ?_<;>rintro rfl |refine aU rfl ?_ |refine Aa ?_);(refine pW rfl ?_ rfl (by rfl);refine Ae [] rfl rfl (PW (TB:=⟨tabs,none⟩) b r) ⟨rfl,by decide,by decide⟩ rfl trivial ?_;rintro I w z ⟨te,x,B,rfl,rfl,rfl⟩ _);have t:=B.sz (by omega) (by omega);have f:=PY (tabs:=tabs) (te:=te) x t;have e:=UY (c8 (TB:=⟨tabs,none⟩) te) x t;rw [aAm] at e;(repeat first |refine sN rfl ?_ |((first|refine sA rfl ?_ ?_|refine s4 rfl ‹_› rfl ?_ ?_);first|exact tI|omega|simp only[oZ] at *;omega) |refine s2 rfl λ_ c=>?_ |refine s3 rfl ?_ ?_<;>rintro rfl);refine Aa ?_;refine Aj.AH [0,1] [(3,.o (.ip (RN te.kn te.p te.s te.q te.al))),(4,.o (.ip [Bd x.rows,Bd x.cols]))] ⟨⟨_,rfl,.inr (.o (.box rfl (Vj.refl (RN te.kn te.p te.s te.q te.al))))⟩,⟨_,rfl,.inr (.o (.box rfl (Vj.refl [Bd x.rows,Bd x.cols])))⟩,trivial⟩ ?_
 cases n:fJ te x with
 | none=>
  rw [n] at f e;have ag:=aAi (TB:=⟨tabs,none⟩) kk;(repeat first |refine sN rfl ?_ |((first|refine sA rfl ?_ ?_|refine s4 rfl ‹_› rfl ?_ ?_);first|exact tI|omega|simp only[oZ] at *;omega) |refine s2 rfl λ_ c=>?_ |refine sP rfl (f) rfl ?_|refine sP rfl (e) rfl ?_ |refine s3 rfl ?_ ?_<;>rintro rfl |refine aU rfl ?_ |refine Aa ?_)
  (repeat' first |refine sN rfl ?_ |((first|refine sA rfl ?_ ?_|refine s4 rfl ‹_› rfl ?_ ?_);first|exact tI|omega|simp only[oZ] at *;omega) |refine s2 rfl λ_ c=>?_ |refine sP rfl (f) rfl ?_|refine sP rfl (e) rfl ?_|refine sP rfl (ag) rfl ?_ |refine s3 rfl ?_ ?_<;>rintro rfl |refine aU rfl ?_ |refine Aa ?_|(refine aC rfl ?_ ?_<;>rintro⟨⟩));all_goals try contradiction
  all_goals (subst_vars;exact aR ⟨_,rfl,rfl⟩)
 | some a=>
  obtain⟨F,M,l,g,G,Q,P,N⟩:=aAn n;obtain⟨y,L,K,j,J⟩:=iX F;have k:=j.rl;rw [n] at f e;have ag:=aAi (TB:=⟨tabs,none⟩) a;obtain⟨kn,p,s,q,al⟩:=te
  cases kn with
  | false=>
   (repeat first |refine sN rfl ?_ |((first|refine sA rfl ?_ ?_|refine s4 rfl ‹_› rfl ?_ ?_);first|exact tI|omega|simp only[oZ] at *;omega) |refine s2 rfl λ_ c=>?_ |refine sP rfl (f) rfl ?_|refine sP rfl (e) rfl ?_ |refine s3 rfl ?_ ?_<;>rintro rfl |refine aU rfl ?_ |refine Aa ?_)
   (repeat' first |refine sN rfl ?_ |((first|refine sA rfl ?_ ?_|refine s4 rfl ‹_› rfl ?_ ?_);first|exact tI|omega|simp only[oZ] at *;omega) |refine s2 rfl λ_ c=>?_ |refine sP rfl (f) rfl ?_|refine sP rfl (e) rfl ?_|refine sP rfl (ag) rfl ?_ |refine s3 rfl ?_ ?_<;>rintro rfl |refine aU rfl ?_ |refine Aa ?_|(refine aC rfl ?_ ?_<;>rintro⟨⟩));all_goals try contradiction
   all_goals (subst_vars;exact aR ⟨_,rfl,rfl⟩)
  | true=>
   have hp:AL p=true:=y;have v:=NX (TB:=⟨tabs,none⟩) p;rw [if_pos hp] at v;have u:=RZ (TB:=⟨tabs,none⟩) a p;have g:a=Bn (LA p) p.al x:=g;have h:=aAh hp l k;rw [<-g] at h;rw [h] at u
   have H:((CP p).nx.map Iv).length=(CP p).nx.length:=by simp
   have i:decide ((x.rows.length:Int)=((CP p).nx.length:Int))=decide (x.rows.length=(CP p).nx.length):=by
    congr 1;rw [eq_iff_iff];omega
   generalize CP p=m at *;(repeat first |refine sN rfl ?_ |((first|refine sA rfl ?_ ?_|refine s4 rfl ‹_› rfl ?_ ?_);first|exact tI|omega|simp only[oZ] at *;omega) |refine s2 rfl λ_ c=>?_ |refine sP rfl (f) rfl ?_|refine sP rfl (e) rfl ?_ |refine s3 rfl ?_ ?_<;>rintro rfl |refine aU rfl ?_ |refine Aa ?_)
   (repeat' first |refine sN rfl ?_ |((first|refine sA rfl ?_ ?_|refine s4 rfl ‹_› rfl ?_ ?_);first|exact tI|omega|simp only[oZ] at *;omega) |refine s2 rfl λ_ c=>?_ |refine sP rfl (f) rfl ?_|refine sP rfl (e) rfl ?_|refine sP rfl (ag) rfl ?_ |refine s3 rfl ?_ ?_<;>rintro rfl |refine aU rfl ?_ |refine Aa ?_|(refine aC rfl ?_ ?_<;>rintro⟨⟩));all_goals try contradiction
   refine aK ?_;(repeat first |refine sN rfl ?_ |((first|refine sA rfl ?_ ?_|refine s4 rfl ‹_› rfl ?_ ?_);first|exact tI|omega|simp only[oZ] at *;omega) |refine s2 rfl λ_ c=>?_ |refine sP rfl (v) rfl ?_ |refine s3 rfl ?_ ?_<;>rintro rfl |refine aU rfl ?_ |refine Aa ?_);refine Aj.AH [2,4] [(3,.o (.ip (RN true p s q al))),(4,.o (.ip [Bd x.rows,Bd x.cols])),(5,.o (.ip (BP a))),(9,.o (.ip (BP m))),(10,.o (.d (bD true)))] ⟨⟨_,rfl,.inl rfl⟩,⟨_,rfl,.inl rfl⟩,⟨_,rfl,.inr (.o (.box rfl (Vj.refl (BP a))))⟩,⟨_,rfl,.inr (.o (.box rfl (Vj.refl (BP m))))⟩,⟨_,rfl,.inl rfl⟩,trivial⟩ ?_;refine rG (It []) (by kernel_rfl) ?_
   (repeat' first |refine sN rfl ?_ |((first|refine sA rfl ?_ ?_|refine s4 rfl ‹_› rfl ?_ ?_);first|exact tI|omega|simp only[oZ] at *;omega) |refine s2 rfl λ_ c=>?_ |refine sP rfl (u) rfl ?_ |refine s3 rfl ?_ ?_<;>rintro rfl |refine aU rfl ?_ |refine Aa ?_|(refine aC rfl ?_ ?_<;>rintro⟨⟩));all_goals try contradiction
   subst_vars;refine aR ⟨_,rfl,?_⟩
   show eB (decide _ == decide _)=eB true
   rw [i];simp
end Go.Am
