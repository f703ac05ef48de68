/-
  The table of an automaton, and whether two tables are the same: walked.
-/
import Derived.Test.YtohfiindiidcfaaGreatDoorPart30
import Derived.Test.YtohfiindiidcfaaGreatDoorPart31
set_option linter.all false
namespace Go.Am
open Go Go.Proofs
set_option maxHeartbeats 1000000
set_option maxRecDepth 4000
attribute [local irreducible] A6 Cz Lex Bv Aj Spec
variable {TB:BF}
theorem Zw(a b:List Int):Pure Tryz.prog TB 40 [Ak a,Ak b] (eB (decide (a=b))):=by
  refine eN Tryz.func40 rfl (by kernel_rfl) rfl ?_;intro Γ c;refine Aj.bound 0 rfl λj=>?_;have j:=j (a.map Br) .refl;rw [gt] at j;(repeat first|refine sN rfl ?_ |refine tA rfl ?_ |refine s2 rfl λ_ d=>?_ |refine aU rfl ?_ |apply Aa);(refine aC rfl ?_ ?_<;>rintro⟨⟩)
  · (repeat first|refine tA rfl ?_ |refine aU rfl ?_ |apply Aa)
    refine aR ⟨_,rfl,?_⟩
    have r:a≠b:=λh=>by subst h;(simp only[oZ] at *;omega)
    show E.o _=E.o _;congr;grind
  apply aK
  have s:a.length=b.length:=by (simp only[oZ] at *;omega)
  (repeat first|refine tA rfl ?_ |refine aU rfl ?_ |apply Aa);apply aB;refine Aj.A4 (α:={k:Nat // k<=a.length/\a.take k=b.take k}) (λ⟨k,hk,e⟩=>[(0,Ak a),(1,Ak b),(5,eI .i64 k)]) (λ⟨k,hk,e⟩=>[]) 0 (λ⟨k,hk,e⟩=>a.length - k) (⟨0,by omega,by simp⟩) [] (Ed c rfl rfl) (by (simp[cX,zC,c])) ?_;rintro⟨k,hk,e⟩;(try dsimp only);(repeat first|refine sN rfl ?_ |refine tA rfl ?_ |refine s2 rfl λ_ d=>?_ |refine aU rfl ?_ |apply Aa)
  ((refine aC rfl ?_ ?_<;>rintro⟨⟩);all_goals try (simp at d;done))
  · have f:k < a.length:=by (simp only[oZ] at *;omega)
    obtain⟨x,n⟩:=get_some (l:=a) (k:=k) f;obtain⟨y,m⟩:=get_some (l:=b) (k:=k) (by omega);have q:=get_map (g:=Br) n;have p:=get_map (g:=Br) m;apply aK;refine aS (aB ?_);(repeat first|refine aU rfl ?_);refine rG (He []) (by kernel_rfl) ?_;(repeat first|refine tA rfl ?_ |(refine s4 rfl ‹_› rfl ?_ ?_;omega) |refine s2 rfl λ_ d=>?_ |apply Aa);(refine aC rfl ?_ ?_<;>rintro⟨⟩)
    all_goals first
      | ((repeat first|refine tA rfl ?_ |refine aU rfl ?_ |apply Aa)
         refine aR ⟨_,rfl,?_⟩
         show E.o _=E.o _;congr;grind
         done)
      | (apply aK
         (repeat first|(refine sA rfl ?_ ?_;first|exact tI|omega) |refine aU rfl ?_ |apply Aa);refine⟨⟨k+1,by omega,by rw [d8,d8,n,m];grind⟩,by dsimp only;(omega),[],?_⟩
         simp[cX,zC,c])
  · apply aE
    (repeat first|refine tA rfl ?_ |refine aU rfl ?_ |apply Aa);refine aR ⟨_,rfl,?_⟩
    have i:a.length<=k:=by (simp only[oZ] at *;omega)
    rw [gc i,gc (by omega)] at e
    show E.o _=E.o _;congr;grind
theorem Wk(a b:List Bool):Pure Tryz.prog TB 39 [O3 a,O3 b] (eB (decide (a=b))):=by
  refine eN Tryz.func39 rfl (by kernel_rfl) rfl ?_;intro Γ c;refine Aj.bound 0 rfl λj=>?_;have j:=j (a.map Ik) .refl;rw [gt] at j;(repeat first|refine sN rfl ?_ |refine tA rfl ?_ |refine s2 rfl λ_ d=>?_ |refine aU rfl ?_ |apply Aa);(refine aC rfl ?_ ?_<;>rintro⟨⟩)
  · (repeat first|refine tA rfl ?_ |refine aU rfl ?_ |apply Aa)
    refine aR ⟨_,rfl,?_⟩
    have r:a≠b:=λh=>by subst h;(simp only[oZ] at *;omega)
    show E.o _=E.o _;congr;grind
  apply aK
  have s:a.length=b.length:=by (simp only[oZ] at *;omega)
  (repeat first|refine tA rfl ?_ |refine aU rfl ?_ |apply Aa);apply aB;refine Aj.A4 (α:={k:Nat // k<=a.length/\a.take k=b.take k}) (λ⟨k,hk,e⟩=>[(0,O3 a),(1,O3 b),(5,eI .i64 k)]) (λ⟨k,hk,e⟩=>[]) 0 (λ⟨k,hk,e⟩=>a.length - k) (⟨0,by omega,by simp⟩) [] (Ed c rfl rfl) (by (simp[cX,zC,c])) ?_;rintro⟨k,hk,e⟩;(try dsimp only);(repeat first|refine sN rfl ?_ |refine tA rfl ?_ |refine s2 rfl λ_ d=>?_ |refine aU rfl ?_ |apply Aa)
  ((refine aC rfl ?_ ?_<;>rintro⟨⟩);all_goals try (simp at d;done))
  · have f:k < a.length:=by (simp only[oZ] at *;omega)
    obtain⟨x,n⟩:=get_some (l:=a) (k:=k) f;obtain⟨y,m⟩:=get_some (l:=b) (k:=k) (by omega);have q:=get_map (g:=Ik) n;have p:=get_map (g:=Ik) m;apply aK;refine aS (aB ?_);(repeat first|refine aU rfl ?_);refine rG (He []) (by kernel_rfl) ?_;(repeat first|refine tA rfl ?_ |(refine s4 rfl ‹_› rfl ?_ ?_;omega) |refine s2 rfl λ_ d=>?_ |apply Aa);(refine aC rfl ?_ ?_<;>rintro⟨⟩)
    all_goals first
      | ((repeat first|refine tA rfl ?_ |refine aU rfl ?_ |apply Aa)
         refine aR ⟨_,rfl,?_⟩
         show E.o _=E.o _;congr;grind
         done)
      | (apply aK
         (repeat first|(refine sA rfl ?_ ?_;first|exact tI|omega) |refine aU rfl ?_ |apply Aa);refine⟨⟨k+1,by omega,by rw [d8,d8,n,m];grind⟩,by dsimp only;(omega),[],?_⟩
         simp[cX,zC,c])
  · apply aE
    (repeat first|refine tA rfl ?_ |refine aU rfl ?_ |apply Aa);refine aR ⟨_,rfl,?_⟩
    have i:a.length<=k:=by (simp only[oZ] at *;omega)
    rw [gc i,gc (by omega)] at e
    show E.o _=E.o _;congr;grind
theorem Qo(a b:AX):Pure Tryz.prog TB 23 [Bc a,Bc b] (eB (decide (a.al=b.al/\a.nx=b.nx/\a.ac=b.ac))):=by
  have p:=Wk (TB:=TB) a.ac b.ac;refine eN Tryz.func23 rfl (by kernel_rfl) rfl ?_;intro Γ d;refine Aj.bound 0 rfl λj=>?_;have j:=j (a.nx.map ES) ⟨1,_,rfl,.refl⟩;rw [gt] at j;(repeat first|refine tA rfl ?_ |refine s2 rfl λ_ c=>?_ |(refine sC rfl (p) ?_;intro _ c) |refine s3 rfl ?_ ?_<;>rintro rfl |refine aU rfl ?_ |apply Aa);(repeat' first|refine sN rfl ?_ |refine tA rfl ?_ |refine s2 rfl λ_ c=>?_ |(refine sC rfl (p) ?_;intro _ c) |refine s3 rfl ?_ ?_<;>rintro rfl |refine aU rfl ?_ |apply Aa|(refine aC rfl ?_ ?_<;>rintro⟨⟩))
  all_goals first
    | (refine aR ⟨_,rfl,?_⟩
       show E.o _=E.o _;congr;grind
       done)
    | skip
  · rename_i t bb e
    have u:a.ac=b.ac:=by simp at c;rw [c] at e;exact of_decide_eq_true e
    have hal:a.al=b.al:=by simpa using ‹decide (a.al≠b.al)=false›
    have s:a.nx.length=b.nx.length:=by (simp only[oZ] at *;omega)
    apply aK;(repeat first|refine tA rfl ?_ |refine aU rfl ?_ |apply Aa);apply aB;refine Aj.A4 (α:={k:Nat // k<=a.nx.length/\a.nx.take k=b.nx.take k}) (λ⟨k,hk,f⟩=>[(2,.o (.ip (AT a))),(3,.o (.ip (AT b))),(5,eI .i64 k)]) (λ⟨k,hk,f⟩=>[]) 0 (λ⟨k,hk,f⟩=>a.nx.length - k) (⟨0,by omega,by simp⟩) [] (Ed d rfl rfl) (by (simp[cX,zC,d])) ?_;rintro⟨k,hk,f⟩;(try dsimp only);(repeat first|refine sN rfl ?_ |refine tA rfl ?_ |refine s2 rfl λ_ c=>?_ |refine aU rfl ?_ |apply Aa)
    ((refine aC rfl ?_ ?_<;>rintro⟨⟩);all_goals try (simp at c;done))
    · have h:k < a.nx.length:=by (simp only[oZ] at *;omega)
      obtain⟨x,n⟩:=get_some (l:=a.nx) (k:=k) h;obtain⟨y,m⟩:=get_some (l:=b.nx) (k:=k) (by omega);have r:=get_map (g:=ES) n;have q:=get_map (g:=ES) m;have v:=Zw (TB:=TB) x y;apply aK;refine aS (aB ?_);(repeat first|refine aU rfl ?_);refine rG (He []) (by kernel_rfl) ?_;(repeat first|refine tA rfl ?_ |(refine s4 rfl ‹_› rfl ?_ ?_;omega) |refine s2 rfl λ_ c=>?_ |(refine sC rfl (v) ?_;intro _ c) |apply Aa);(refine aC rfl ?_ ?_<;>rintro⟨⟩)
      all_goals first
        | ((repeat first|refine tA rfl ?_ |refine aU rfl ?_ |apply Aa)
           refine aR ⟨_,rfl,?_⟩
           show E.o _=E.o _;congr;grind
           done)
        | (apply aK
           (repeat first|(refine sA rfl ?_ ?_;first|exact tI|omega) |refine aU rfl ?_ |apply Aa);refine⟨⟨k+1,by omega,by rw [d8,d8,n,m];grind⟩,by dsimp only;(omega),[],?_⟩
           simp[cX,zC,d])
    · apply aE
      (repeat first|refine tA rfl ?_ |refine aU rfl ?_ |apply Aa);refine aR ⟨_,rfl,?_⟩
      have i:a.nx.length<=k:=by (simp only[oZ] at *;omega)
      rw [gc i,gc (by omega)] at f
      show E.o _=E.o _;congr;grind
theorem SY{t:EE}{al:Int}{A:W->Bool}(f:Kj Tryz.prog TB 123 170 t al A):Pure Tryz.prog TB 69 [EL t] (IK (Im A al Bu)):=by
 have c:Pure Tryz.prog TB 121 [EL t,Ef Bu] (IK (Im A al Bu)):=I7 f Bu ⟨by decide,by decide,λw a=>by simp [Bu] at a;subst a;simp,λw a=>by simp [Bu] at a;subst a;simp⟩
 rcases e:Im A al Bu with _|x<;>rw [e] at c<;>(
  refine eG Tryz.func69 rfl (by kernel_rfl) rfl ?_;intro Γ d;(repeat' first |refine sN rfl ?_ |((first|refine sA rfl ?_ ?_|refine s4 rfl ‹_› rfl ?_ ?_);first|exact tI|omega|simp only[oZ] at *;omega) |(refine s2 rfl λ_ b=>?_;try (simp only[pc,ph] at b;subst b)) |refine sP rfl (c) rfl ?_|(refine Af rfl ?_;refine gA rfl ?_;first|refine gS (λ_ _=>AB rfl rfl (by rfl) (by rfl)) ?_) |refine s3 rfl ?_ ?_<;>rintro rfl |refine aU rfl ?_ |apply Aa |refine rE (by kernel_rfl) ?_|(refine aC rfl ?_ ?_<;>rintro⟨⟩)|apply aK|apply aE|apply aB|refine aR ⟨_,rfl,?_⟩)
  all_goals rfl)
theorem ZD(l:List Int)(h:l.length<=1048576):Spec Tryz.prog TB 157 [] 0 [Ak l] (λx σ nx=>x=.o (.arr 0 1 0 l.length)/\nx=1/\σ=[(0,.cells 3 1 (l.map AE))]):=by
 refine eN Tryz.func157 rfl (by kernel_rfl) rfl ?_;intro Γ a;(repeat first|refine aU rfl ?_);(refine Af rfl ?_;refine CE (λ_ _=>CJ rfl) rfl ?_);(repeat first|refine tM rfl ?_ |refine aU rfl ?_ |apply Aa);(refine pW rfl ?_ rfl (by rfl);refine LK rfl ?_;intro d b);(repeat first|apply Aa);(refine aC rfl ?_ ?_<;>rintro⟨⟩)
 ·obtain rfl:l=[]:=by simpa using b rfl
  (repeat first|refine aU rfl ?_);(refine pW rfl ?_ rfl (by rfl);refine Hp 1 3 ?_);(repeat first|apply Aa);refine aR ⟨_,rfl,rfl,rfl,rfl⟩
 ·apply aK
  (repeat first|refine aU rfl ?_);(refine pW rfl ?_ rfl (by rfl);refine Bk rfl rfl rfl rfl (by simp) (by rfl) (by rfl) (by rfl) (by rfl) ?_);(repeat first|refine tM rfl ?_);(refine pW rfl ?_ rfl (by rfl);refine Al rfl rfl rfl (by first| (simp;done)|(simp;(omega))) rfl (by intro r c;simp only [o9,d9] at c;obtain⟨_,_,rfl⟩:=c;rfl) (by rfl) (am rfl) (by simp;omega) ?_);(repeat first|refine tM rfl ?_ |apply Aa);refine Aj.names [1] [(2,.o (.arr 0 1 0 l.length))] [(0,.cells 3 1 (l.map AE))] (by intro i hi;rw [a] at hi;omega) (by simp) (by simp[cX,zC,a]) (by simp[cX,zC,a]) ?_;refine aR ⟨_,rfl,rfl,rfl,rfl⟩
theorem ZB(l:List Bool)(h:l.length<=1048576):Spec Tryz.prog TB 156 [] 0 [O3 l] (λx σ nx=>x=.o (.arr 0 1 0 l.length)/\nx=1/\σ=[(0,.cells 4 1 (l.map AV))]):=by
 refine eN Tryz.func156 rfl (by kernel_rfl) rfl ?_;intro Γ a;(repeat first|refine aU rfl ?_);(refine Af rfl ?_;refine CE (λ_ _=>CJ rfl) rfl ?_);(repeat first|refine tM rfl ?_ |refine aU rfl ?_ |apply Aa);(refine pW rfl ?_ rfl (by rfl);refine LK rfl ?_;intro d b);(repeat first|apply Aa);(refine aC rfl ?_ ?_<;>rintro⟨⟩)
 ·obtain rfl:l=[]:=by simpa using b rfl
  (repeat first|refine aU rfl ?_);(refine pW rfl ?_ rfl (by rfl);refine Hp 1 4 ?_);(repeat first|apply Aa);refine aR ⟨_,rfl,rfl,rfl,rfl⟩
 ·apply aK
  (repeat first|refine aU rfl ?_);(refine pW rfl ?_ rfl (by rfl);refine Bk rfl rfl rfl rfl (by simp) (by rfl) (by rfl) (by rfl) (by rfl) ?_);(repeat first|refine tM rfl ?_);(refine pW rfl ?_ rfl (by rfl);refine Al rfl rfl rfl (by first| (simp;done)|(simp;(omega))) rfl (by intro r c;simp only [o9,d9] at c;obtain⟨_,_,rfl⟩:=c;rfl) (by rfl) (am rfl) (by simp;omega) ?_);(repeat first|refine tM rfl ?_ |apply Aa);refine Aj.names [1] [(2,.o (.arr 0 1 0 l.length))] [(0,.cells 4 1 (l.map AV))] (by intro i hi;rw [a] at hi;omega) (by simp) (by simp[cX,zC,a]) (by simp[cX,zC,a]) ?_;refine aR ⟨_,rfl,rfl,rfl,rfl⟩
theorem MJ(a:AX)(ha:Mz 1000000 a):AS Tryz.prog TB 108 0 [] 0 [Bc a] (KQ a):=by
 have y:=ha.nx;have x:=ha.ac;have t:=ZB (TB:=TB) a.ac (by omega);refine AS.Bj (AS.RL (m:=0) (am rfl) Tryz.func108 rfl (by kernel_rfl) (am rfl) ?_);intro Γ b;(repeat first|refine tA rfl ?_ |refine aU rfl ?_ |apply Aa);refine R.QJ [(6,3),(0,2),(1,2),(2,2),(3,2),(4,1),(5,1),(7,5)] mixed (by kernel_rfl) rfl (by kernel_rfl) ?_;(repeat ((refine R.Af rfl ?_;first|(refine R.yQ (md:=false) rfl rfl rfl ?_ ?_;exact tI) |refine R.yP rfl rfl rfl rfl ?_ )));(refine R.Af rfl ?_;refine R.JY (λ_=>?_) rfl rfl;refine Ai [] rfl rfl t ⟨rfl,by simp,by simp⟩ rfl trivial ?_;rintro u f h ⟨rfl,rfl,rfl⟩ _);(refine R.Af rfl ?_;refine R.JY (λ_=>?_) rfl rfl;refine Jj 1 1 64 rfl rfl rfl (by rfl) (by rfl) ?_);(repeat ((refine R.Af rfl ?_;first|refine R.yA rfl rfl rfl rfl ?_ )));refine R.QE ?_;apply aS;(repeat first|refine sN rfl ?_ |refine tA rfl ?_ |refine aU rfl ?_ |apply Aa);apply aB;refine Aj.en 3 ?_;refine aL (α:={s:Nat×Ii // s.1<=a.nx.length/\s.2.map (·.2)=a.nx.take s.1}) [2,3,13,14] [] rfl rfl (λs=>[(15,eI .i64 s.1.1)]) (λs=>[(0,.cells 29 3 [[.d (iD 0),.d (.l []),.d (.l [])]]),(1,.cells 4 1 (a.ac.map AV)),(2,.cells 64 1 (AA s.1.2)),(3,.cells 29 3 [[.d (iD a.al),.arr 2 1 0 s.1.2.length,.arr 1 1 0 a.ac.length]]),(4,.sld 3 (sI s.1.2))]) 5 (λs=>a.nx.length - s.1.1) (⟨⟨0,[]⟩,by simp⟩) b rfl (by (simp[cX,zC,b,cN,BR,Ae,eC]<;>rfl)) ?_;rintro⟨⟨k,l⟩,hk,e⟩;(try dsimp only[cA,cB]);have hk:k<=a.nx.length:=hk;have e:l.map (·.2)=a.nx.take k:=e
 have c:l.length=k:=by have:=congrArg List.length e;simp at this;omega
 (repeat first|refine s2 rfl λ_ z=>?_ |refine aU rfl ?_ |apply Aa)
 ((refine aC rfl ?_ ?_<;>rintro⟨⟩);all_goals try(exfalso;omega))
 ·have o:k < a.nx.length:=by (simp only[oZ] at *;omega)
  obtain⟨r,j⟩:=get_some (l:=a.nx) (k:=k) o;have w:=get_map (g:=ES) j;have n:=ha.row r (co j);have q:=ZD (TB:=TB) r (by omega);apply aK;refine aS (aB ?_);(repeat first|refine tA rfl ?_ |(refine s4 rfl ‹_› rfl ?_ ?_;omega) |refine aU rfl ?_ |apply Aa);refine rG (J6 [(1,13),(3,1008),(4,1008),(5,1),(7,1)]) (by kernel_rfl) ?_;(repeat first|refine tX rfl ?_);(refine Af rfl ?_;refine C6 ?_ rfl ⟨rfl,rfl⟩;refine Ai [] rfl rfl (q) ⟨rfl,by decide,by decide⟩ rfl (by simp[cX,zC,b,cN]) ?_;rintro u f h ⟨rfl,rfl,rfl⟩ _;refine⟨Fg 3 rfl rfl,?_⟩);(refine Af rfl ?_;refine C6 ?_ rfl ⟨rfl,rfl⟩;refine Bk rfl rfl rfl rfl (by simp [eC,E.Bj,C.Bj]) (by rfl) (by rfl) (by rfl) (by rfl) ?_;refine⟨Fg 3 rfl rfl,?_⟩);(refine pW rfl ?_ rfl (by rfl);refine Al rfl rfl rfl (CK _) rfl (by intro r n;simp at n;subst n;rfl) (by rfl) (am rfl) (by simp;omega) ?_);(repeat first|refine tA rfl ?_);apply Aa;refine Aj.Ay [2,3,13,14,15] [] rfl rfl [] [(0,.cells 29 3 [[.d (iD 0),.d (.l []),.d (.l [])]]),(1,.cells 4 1 (a.ac.map AV)),(2,.cells 64 1 (AA l++[[.arr 5 1 0 r.length]])),(3,.cells 29 3 [[.d (iD a.al),.arr 2 1 0 (l.length+1),.arr 1 1 0 a.ac.length]]),(4,.sld 3 (sI l)),(5,.cells 3 1 (r.map AE))] [0,1,7,3,4,5] (rl b rfl) (by (simp[cX,zC,b,cN,BR,Ae,eC])) ?_;(try dsimp only[cA,cB]);refine Aj.Ti 2 5 4 l r rfl rfl rfl λv=>?_;(repeat first|(refine sA rfl ?_ ?_;first|exact tI|omega) |refine aU rfl ?_ |apply Aa);refine⟨⟨⟨k+1,l++[(v,r)]⟩,by dsimp only;omega,by dsimp only;rw [o6,e,d8,j];rfl⟩,by dsimp only;(omega),[0,1,2,3,4],?_⟩;(simp[cX,zC,b,cN]<;>rfl)
 have p:k=a.nx.length:=by (simp only[oZ] at *;omega)
 apply aE;(repeat first|refine tA rfl ?_ |refine aU rfl ?_ |apply Aa)
 have c:l.map (·.2)=a.nx:=by rw [e,p,ge]
 refine aR ⟨_,rfl,[2,1,4],WC a.al 0 1 l.length a.ac.length,[(0,.cells 64 1 (AA l)),(1,.cells 4 1 (a.ac.map AV)),(2,.sld 3 (sI l))],⟨by intro i hi;omega,by decide⟩,rfl,by (simp[cX,zC,b,cN]),l,c,rfl,rfl,rfl⟩
theorem OQ{a:AX}(ha:AJ a=true):Mz 1000000 a:=by
 have f:=AG ha;refine⟨by omega,by omega,λr c=>?_⟩;obtain⟨i,hi,e⟩:=oy c;obtain⟨row,b,h,g⟩:=HH ha hi;rw [d6 hi,e] at b
 injection b with b
 subst b;have d:(Ac a.al).length<=6:=AM a.al 6;omega
theorem iC(a:AX):Pure Tryz.prog TB 23 [Bc a,Bc a] (eB true):=by
 have ag:=Qo (TB:=TB) a a;rw [decide_eq_true (⟨rfl,rfl,rfl⟩:a.al=a.al/\a.nx=a.nx/\a.ac=a.ac)] at ag;exact ag
end Go.Am
