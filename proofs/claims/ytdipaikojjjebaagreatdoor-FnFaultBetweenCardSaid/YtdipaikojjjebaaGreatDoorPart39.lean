/-
  The weakest assumption of a task: walked.
-/
import Derived.Test.YtdipaikojjjebaaGreatDoorPart37
import Derived.Test.YtdipaikojjjebaaGreatDoorPart36
set_option linter.all false
namespace Go.Am
open Go Go.Proofs
set_option maxHeartbeats 1000000
set_option maxRecDepth 4000
attribute [local irreducible] A5 Ck Lex Br Aj Spec
variable {TB:BJ}[EK TB]
theorem bJ(l:List Int)(s:Int):Pure Tryz.prog TB 115 [Ak l,eI .i64 s] (eI .i64 (if s∈l then (l.idxOf s:Int) else -1)):=by
 refine eG Tryz.func115 rfl (by kernel_rfl) rfl ?_;intro U b;refine Aj.bound 0 rfl λi=>?_;have o:=i (l.map Bc) .refl;rw[gt]at o;(repeat first|refine sN rfl ?_|refine tA rfl ?_|refine aU rfl ?_|apply Aa);apply aB;refine aL (α:={k:Nat // k<=l.length/\s∉l.take k}) [0,1,7] [] rfl rfl (λ⟨k,hk,a⟩=>[(8,eI .i64 k)]) (λ⟨k,hk,a⟩=>[]) 0 (λ⟨k,hk,a⟩=>l.length-k) (⟨0,by omega,by simp⟩) b rfl (by (simp[cX,zC,b])) ?_;rintro⟨k,hk,a⟩;(try dsimp only[cA,cB]);have hk:k<=l.length:=hk;have a:s∉l.take k:=a;by_cases h:k<l.length
 ·obtain⟨x,d⟩:=get_some h
  have m:=get_map (g:=Bc) d;(repeat first|refine s2 rfl λ_ c=>?_|refine aU rfl ?_|apply Aa)
  ((refine aC rfl ?_ ?_<;>rintro⟨⟩);all_goals try(exfalso;(simp only[oZ] at *;omega)))
  apply aK;refine aS (aB ?_);by_cases j:s=x
  ·subst j
   have n:s∈l:=co d
   have hi:l.idxOf s=k:=by
    have e:l=l.take k++s::l.drop (k+1):=by rw[<-Bv d,rZ]
    rw[e,tt,if_neg a,List.idxOf_cons_self];simp;omega
   rw[if_pos n,hi]
   (repeat' first|refine tA rfl ?_|(refine s4 rfl ‹_› rfl ?_ ?_;omega)|refine s2 rfl λ_ c=>?_|refine aU rfl ?_|apply Aa|(refine aC rfl ?_ ?_<;>rintro⟨⟩));all_goals try contradiction
   all_goals first
    | (exfalso;omega;done)
    | (exfalso;simp at *;done)
    | (subst_vars;exact aR ⟨_,rfl,rfl⟩)
  ·have f:s∉l.take (k+1):=by
    rw[i7,d];simp[a,j]
   (repeat' first|refine tA rfl ?_|(refine s4 rfl ‹_› rfl ?_ ?_;omega)|refine s2 rfl λ_ c=>?_|refine aU rfl ?_|apply Aa|(refine aC rfl ?_ ?_<;>rintro⟨⟩));all_goals try contradiction
   all_goals first
    | (exfalso;(simp only[oZ] at *;omega);done)
    | skip
   apply aK;(repeat first|(refine sA rfl ?_ ?_;first|exact tI|omega)|refine aU rfl ?_|apply Aa);refine⟨⟨k+1,by omega,f⟩,by dsimp only;(omega),[],?_⟩;simp[cX,zC,b]
 ·obtain rfl:k=l.length:=by omega
  rw[i8]at a;rw[if_neg a];(repeat first|refine s2 rfl λ_ c=>?_|refine aU rfl ?_|apply Aa)
  ((refine aC rfl ?_ ?_<;>rintro⟨⟩);all_goals try(exfalso;(simp only[oZ] at *;omega)))
  apply aE;(repeat first|refine tA rfl ?_|refine aU rfl ?_|apply Aa);(subst_vars;exact aR ⟨_,rfl,rfl⟩)
theorem Tb(l:List Int)(s:Int):Pure Tryz.prog TB 57 [Ak l,eI .i64 s] (eB (decide (s∈l))):=by
 have h:=bJ (TB:=TB) l s;refine eG Tryz.func57 rfl (by kernel_rfl) rfl ?_;intro U b;(repeat first|refine tA rfl ?_|refine s2 rfl λ_ c=>?_|refine sP rfl (h) rfl ?_|refine aU rfl ?_|apply Aa);by_cases a:s∈l
 ·rw[if_pos a] at *
  (repeat first|refine sP rfl (h) rfl ?_);refine aR ⟨_,rfl,?_⟩
  show E.o _=E.o _
  congr;simp at *;grind
 ·rw[if_neg a] at *
  (repeat first|refine sP rfl (h) rfl ?_);refine aR ⟨_,rfl,?_⟩
  show E.o _=E.o _
  congr;simp at *;grind
theorem WR{t:Ch}(ht:A9 t=true)(m:Db)(q l:Int)(p:Ey t dw m)(H:m.F.length<=1000)(G:QQ t m q)(I:l∈Ab t.al):∃(m':Db) (y:Int),Ey t dw m'/\QO m m'/\m'.F.length<=m.F.length+1/\QQ t m' y/\Ib m' y=cZ (cr t) (Ib m q) l/\
 Bd Tryz.prog TB 54 2 (gR t m) 6 [eI .i64 q,eI .i64 l,.o (.ptr 0 1 0 0)] (λx σ nx=>x=eI .i64 y/\σ=gR t m'/\nx=6):=by
 have f:=Af I
 rcases G with rfl|⟨j,F,rfl,r,hb⟩
 ·refine⟨m,-1,p,QO.refl _,vj _,.inl rfl,by rw[Gy];rfl,?_⟩
  refine Bd.Bj (Bd.Ui (m:=2) (ce rfl) Tryz.func54 rfl (by kernel_rfl) (ce rfl) ?_);intro U a
  (repeat' first|refine tA rfl ?_|refine s2 rfl λ_ c=>?_|refine aU rfl ?_|apply Aa|(refine aC rfl ?_ ?_<;>rintro⟨⟩));all_goals try contradiction
  all_goals first
   | (exfalso;omega;done)
   | (exfalso;simp at *;done)
   | (apply aK)
  (repeat' first|(refine sA rfl ?_ ?_;first|exact tI|simp only[oZ] at *;omega)|refine s2 rfl λ_ c=>?_|refine s3 rfl ?_ ?_<;>rintro rfl|refine aU rfl ?_|apply Aa|(refine aC rfl ?_ ?_<;>rintro⟨⟩));all_goals try contradiction
  all_goals first
   | (exfalso;omega;done)
   | (exfalso;simp at *;done)
   | (apply aK)
  (repeat first|refine tA rfl ?_|refine aU rfl ?_|apply Aa);exact aR ⟨_,rfl,[0,1,2,3,4,5],eI .i64 (-1),gR t m,⟨by intro i hi;match i with|0=>rfl|1=>rfl,by decide⟩,rfl,by (simp[cX,zC,a,AT]),rfl,rfl,rfl⟩
 ·obtain⟨m',k,u,z,s,w,v⟩:=aW (TB:=TB) ht p r ⟨f.1,by omega⟩ (by omega) (jM (.next f.1 (by omega) (p.rc F (co r))))
  have e:cZ (cr t) (Ib m j) l=cr t F l:=by rw[FH,r];rfl
  have d:=u.un k _ s;have B:=(am.1 d).1;cases b:FQ t (DD t l F)
  ·rw [b]at d
   have n:(m'.un.map AO)[0+((k:Nat):Int).toNat]?=some (AO false):=by rw[ms,d8];simp[d]
   refine⟨m',k,u,z,w,.inr ⟨k,_,rfl,s,b⟩,by rw[e,FH,s];unfold cr;rw[if_neg (by rw[b];decide)],?_⟩;refine Bd.Bj (Bd.Ui (m:=2) (ce rfl) Tryz.func54 rfl (by kernel_rfl) (ce rfl) ?_);intro U a;(repeat first|refine tA rfl ?_|refine s2 rfl λ_ c=>?_|refine aU rfl ?_|apply Aa)
   ((refine aC rfl ?_ ?_<;>rintro⟨⟩);all_goals try(exfalso;(simp only[oZ] at *;omega)))
   (repeat first|refine tA rfl ?_|refine aU rfl ?_);(refine pW rfl ?_ rfl (by rfl);refine BY [1,2,3,4,5] rfl rfl 1 (v) (by decide) ⟨rfl,by decide,by decide⟩ rfl (by simp[cX,zC,a,AT]) ?_;rintro A g h ⟨rfl,rfl,rfl⟩ _);(repeat first|refine tA rfl ?_);apply Aa;refine Aj.Ay [] [] rfl rfl [(0,eI .i64 k),(2,.o (.ptr 0 1 0 0))] [(0,.cells 80 1 [[.ptr 1 14 0 0]]),(1,.cells 89 14 [Qm t (.arr 2 12 0 (m').F.length) (.mp 3) (.arr 4 6 0 (m').nx.length) (.arr 5 1 0 (m').un.length)]),(2,.cells 150 12 ((m').F.map N9)),(3,.mp (mapA .u16 (Nm (m').F))),(4,.cells 94 6 ((m').nx.map N7)),(5,.cells 4 1 ((m').un.map AO))] [0,1,6,7,8,9] (rl a rfl) (by (simp[cX,zC,a,AT])) ?_;(try dsimp only[cA,cB])
   (repeat' first|(refine sA rfl ?_ ?_;first|exact tI|omega)|refine t4 rfl ‹_› rfl ?_|refine s2 rfl λ_ c=>?_|refine s3 rfl ?_ ?_<;>rintro rfl|refine aU rfl ?_|apply Aa|(refine aC rfl ?_ ?_<;>rintro⟨⟩));all_goals try contradiction
   all_goals first
    | (exfalso;omega;done)
    | skip
   apply aK;(repeat first|refine tA rfl ?_|refine aU rfl ?_|apply Aa);exact aR ⟨_,rfl,[0,1,2,3,4,5],eI .i64 k,gR t m',⟨by intro i hi;match i with|0=>rfl|1=>rfl,by decide⟩,rfl,by (simp[cX,zC,a,AT]),rfl,rfl,rfl⟩
  ·rw [b]at d
   have n:(m'.un.map AO)[0+((k:Nat):Int).toNat]?=some (AO true):=by rw[ms,d8];simp[d]
   refine⟨m',-1,u,z,w,.inl rfl,by rw[e,Gy];unfold cr;rw[if_pos b],?_⟩;refine Bd.Bj (Bd.Ui (m:=2) (ce rfl) Tryz.func54 rfl (by kernel_rfl) (ce rfl) ?_);intro U a;(repeat first|refine tA rfl ?_|refine s2 rfl λ_ c=>?_|refine aU rfl ?_|apply Aa)
   ((refine aC rfl ?_ ?_<;>rintro⟨⟩);all_goals try(exfalso;(simp only[oZ] at *;omega)))
   (repeat first|refine tA rfl ?_|refine aU rfl ?_);(refine pW rfl ?_ rfl (by rfl);refine BY [1,2,3,4,5] rfl rfl 1 (v) (by decide) ⟨rfl,by decide,by decide⟩ rfl (by simp[cX,zC,a,AT]) ?_;rintro A g h ⟨rfl,rfl,rfl⟩ _);(repeat first|refine tA rfl ?_);apply Aa;refine Aj.Ay [] [] rfl rfl [(0,eI .i64 k),(2,.o (.ptr 0 1 0 0))] [(0,.cells 80 1 [[.ptr 1 14 0 0]]),(1,.cells 89 14 [Qm t (.arr 2 12 0 (m').F.length) (.mp 3) (.arr 4 6 0 (m').nx.length) (.arr 5 1 0 (m').un.length)]),(2,.cells 150 12 ((m').F.map N9)),(3,.mp (mapA .u16 (Nm (m').F))),(4,.cells 94 6 ((m').nx.map N7)),(5,.cells 4 1 ((m').un.map AO))] [0,1,6,7,8,9] (rl a rfl) (by (simp[cX,zC,a,AT])) ?_;(try dsimp only[cA,cB])
   (repeat' first|(refine sA rfl ?_ ?_;first|exact tI|omega)|refine t4 rfl ‹_› rfl ?_|refine s2 rfl λ_ c=>?_|refine s3 rfl ?_ ?_<;>rintro rfl|refine aU rfl ?_|apply Aa|(refine aC rfl ?_ ?_<;>rintro⟨⟩));all_goals try contradiction
   all_goals first
    | (exfalso;omega;done)
    | skip
   exact aR ⟨_,rfl,[0,1,2,3,4,5],eI .i64 (-1),gR t m',⟨by intro i hi;match i with|0=>rfl|1=>rfl,by decide⟩,rfl,by (simp[cX,zC,a,AT]),rfl,rfl,rfl⟩
theorem cm{α:Type}{a:α}{l:List α}(b:l.Nodup)(h:∀x∈l,x=a):l.length<=1:=by
 match l,b,h with
 | [],_,_=>simp
 | [x],_,_=>simp
 | x::y::r,b,h=>
  have d:=h x (by simp);have c:=h y (by simp);rw[d,c]at b;simp at b
theorem RB{t:Ch}(ht:A9 t=true):∃m,(kt t dw m/\m.F.length<=100)/\Bd Tryz.prog TB 52 0 [] 0 [Ow t] (λx σ nx=>x=.o (.ptr 0 14 0 0)/\σ=VX t m/\nx=5):=by
 obtain⟨m,a,h⟩:=TC (TB:=TB) ht (λ_=>False)
 have hk:∀F∈m.F,F=Cq t:=λF b=>by
  rcases a.1.rk F b with h|⟨_,_,h,_⟩
  ·exact h
  ·exact h.elim
 have c:=cm a.1.nd hk;exact⟨m,⟨⟨⟨a.1.l1,a.1.l2,a.1.nd,a.1.rc,λF b=>.inl (hk F b),a.1.un,a.1.nx⟩,a.2⟩,by omega⟩,h⟩
noncomputable def QL(t:Ch):Option AK:=if A9 t then QJ t else none
theorem nG{X:Nat->Prop}{Y:Prop}(h:∀z,X z)(hk:(∀z,X z)->Y):Y:=hk h
theorem nF{C X:Int->Prop}{Y:Prop}(h:∀s,C s->X s)(hk:(∀s,C s->X s)->Y):Y:=hk h
theorem dH{t:Ch}{m:Db}{nd:List Int}(h:∀q∈nd,QQ t m q):(nd.map (Ib m)).map Option.isSome=nd.map (λq=>decide (q≠-1))/\((none:Option PS)∈nd.map (Ib m)↔(-1:Int)∈nd):=by
 have key:∀q,QQ t m q->(Ib m q).isSome=decide (q≠-1):=by
  rintro q (rfl|⟨j,F,rfl,e,_⟩)
  ·rw[Gy];rfl
  ·rw[FH,e]
   show true=decide _
   symm;rw[decide_eq_true_eq];omega
 refine⟨by rw[rL];exact rB λq a=>key q (h q a),λb=>?_,λb=>d9.2 ⟨-1,b,Gy m⟩⟩;obtain⟨q,a,d⟩:=d9.1 b;have:=key q (h q a);rw[d]at this;by_cases c:q = -1
 ·exact c▸a
 ·rw[decide_eq_true c]at this;cases this
theorem Js(t:Ch):Pure Tryz.prog TB 24 [Ow t] (Zp (QL t)):=by
 have G:=Nf (TB:=TB) t;unfold QL;by_cases ht:A9 t=true
 ·rw [ht]at G
  rw[if_pos ht];obtain⟨m,⟨y,R⟩,P⟩:=RB (TB:=TB) ht;have h2:=CJ (TB:=TB) t.al;have S:(Ab t.al).length<=6:=AJ t.al 6;have Y:=y.1.un 0 _ y.2;have hul:=(am.1 Y).1
  have w:(m.un.map AO)[0+(0:Int).toNat]?=some (AO (FQ t (Cq t))):=by show (m.un.map AO)[0]?=_;simp[Y]
  refine eG Tryz.func24 rfl (by kernel_rfl) rfl ?_;intro U a;(repeat first|refine tA rfl ?_|refine s2 rfl λ_ c=>?_|refine sP rfl (G) rfl ?_|refine aU rfl ?_|apply Aa)
  ((refine aC rfl ?_ ?_<;>rintro⟨⟩);all_goals try (simp at c;done))
  apply aK;(repeat first|refine tA rfl ?_|refine aU rfl ?_);(refine pW rfl ?_ rfl (by rfl);refine BY [] rfl rfl 0 (P) (by decide) ⟨rfl,by decide,by decide⟩ rfl (by simp[cX,zC,a,AT]) ?_;rintro x0 H I ⟨rfl,rfl,rfl⟩ _);(repeat first|refine tA rfl ?_);apply Aa;refine Aj.Ay [1] [0] rfl rfl [(2,.o (.ptr 0 3 0 0)),(4,.o (.ptr 1 1 0 0))] [(1,.cells 80 1 [[.ptr 2 14 0 0]]),(2,.cells 89 14 [Qm t (.arr 3 12 0 (m).F.length) (.mp 4) (.arr 5 6 0 (m).nx.length) (.arr 6 1 0 (m).un.length)]),(3,.cells 150 12 ((m).F.map N9)),(4,.mp (mapA .u16 (Nm (m).F))),(5,.cells 94 6 ((m).nx.map N7)),(6,.cells 4 1 ((m).un.map AO))] [0,6,1,2,3,4,5] (rl a rfl) (by (simp[cX,zC,a,AT,eC,Ae])) ?_;(try dsimp only[cA,cB]);apply nF (C:=λs=>QQ t m s/\Ib m s=jX t)
  case hk=>
   intro hk;cases n:FQ t (Cq t)
   ·rw[n]at w
    (repeat first|(refine sA rfl ?_ ?_;first|exact tI|omega)|refine t4 rfl ‹_› rfl ?_|refine sP rfl (h2) rfl ?_|refine aU rfl ?_|apply Aa)
    ((refine aC rfl ?_ ?_<;>rintro⟨⟩);all_goals try (simp at c;done))
    apply aK
    obtain⟨s,u⟩:∃s:Int,s=0:=⟨_,rfl⟩
    refine Aj.Ay [1,5] [0,1,2,3,4,5,6] rfl rfl [(2,.o (.ptr 0 3 0 0)),(4,.o (.ptr 1 1 0 0)),(6,.o (.fn 54 [.ptr 1 1 0 0])),(7,eI .i64 s)] [] [0,1,2,3,4,5,6] (rl a rfl) (by (simp[cX,zC,a,AT,u])) ?_;(try dsimp only[cA,cB]);exact hk s ⟨.inr ⟨0,_,u,y.2,n⟩,by rw[u];show Ib m ((0:Nat):Int)=_;rw[FH,y.2];unfold jX;rw[if_neg (by rw[n];decide)]⟩
   ·rw[n]at w
    (repeat first|(refine sA rfl ?_ ?_;first|exact tI|omega)|refine t4 rfl ‹_› rfl ?_|refine sP rfl (h2) rfl ?_|refine aU rfl ?_|apply Aa)
    ((refine aC rfl ?_ ?_<;>rintro⟨⟩);all_goals try (simp at c;done))
    refine aU rfl ?_;(repeat first|refine tA rfl ?_);apply Aa
    obtain⟨s,u⟩:∃s:Int,s = -1:=⟨_,rfl⟩
    refine Aj.Ay [1,5] [0,1,2,3,4,5,6] rfl rfl [(2,.o (.ptr 0 3 0 0)),(4,.o (.ptr 1 1 0 0)),(6,.o (.fn 54 [.ptr 1 1 0 0])),(7,eI .i64 s)] [] [0,1,2,3,4,5,6] (rl a rfl) (by (simp[cX,zC,a,AT,u])) ?_;(try dsimp only[cA,cB]);exact hk s ⟨.inl u,by rw[u,Gy];unfold jX;rw[if_pos n]⟩
  case h =>
   intro s ⟨L,K⟩;have Q:=TF (TB:=TB) (t:=t) (m0:=m) (f:=cZ (cr t)) (ls:=Ab t.al) (s0:=s) (g:=54) S y.1 R L (WR ht);(repeat first|refine tA rfl ?_|refine aU rfl ?_);(refine pW rfl ?_ rfl (by rfl);refine BY [1,2,3,4,5,6] rfl rfl 2 (Q) (by decide) ⟨rfl,by decide,by decide⟩ rfl (by simp[cX,zC,a,AT]) ?_;rintro x0 H I ⟨m2,o,hm2,hle2,N,e,rfl,rfl,rfl⟩ _);rw[K]at e
   cases o with
   | none=>
    have i:QJ t=none:=by unfold QJ;rw[e];rfl
    rw[i];(repeat first|refine tA rfl ?_|refine s2 rfl λ_ c=>?_|refine s3 rfl ?_ ?_<;>rintro rfl|refine aU rfl ?_|apply Aa)
    (repeat' first|refine tA rfl ?_|refine s2 rfl λ_ c=>?_|(refine Al rfl ?_;refine gA rfl ?_;first|refine gS (λ_ _=>AS rfl rfl (by rfl) (by rfl)) ?_)|refine s3 rfl ?_ ?_<;>rintro rfl|refine aU rfl ?_|apply Aa|(refine aC rfl ?_ ?_<;>rintro⟨⟩));all_goals try contradiction
    all_goals (subst_vars;exact aR ⟨_,rfl,rfl⟩)
   | some p =>
    obtain⟨nd,rows⟩:=p;have N:=N _ rfl;obtain⟨A,V⟩:=dH N;have T:=Tb (TB:=TB) nd (-1);have e:HC 41 (cZ (cr t)) (Ab t.al) (jX t)=some (nd.map (Ib m2),rows):=e;have J:=(QK e).1;have j:=Vy (TB:=TB) J
    have hnd:nd.length<=64:=by
     have h3:=J.b.1;have h4:=J.ac;unfold ir at h3 h4;simp only[gt]at h3 h4;omega
    unfold ir at j;rw[A]at j
    have i:QJ t=if 40<nd.length/\(-1:Int)∉nd then none else iR (JB ⟨t.al,rows,nd.map (λq=>decide (q≠-1))⟩):=by
     unfold QJ;rw[e];simp only[gt,V];unfold ir;rw[A]
    rw[i];generalize JB ⟨t.al,rows,nd.map (λq=>decide (q≠-1))⟩=M at *;by_cases v:40<nd.length/\(-1:Int)∉nd
    ·rw [if_pos v]
     rw[decide_eq_false v.2]at T;(repeat first|refine tA rfl ?_|refine s2 rfl λ_ c=>?_|refine s3 rfl ?_ ?_<;>rintro rfl|refine aU rfl ?_|apply Aa)
     (repeat' first|refine sN rfl ?_|refine tA rfl ?_|refine s2 rfl λ_ c=>?_|refine sP rfl (T) rfl ?_|(refine Al rfl ?_;refine gA rfl ?_;first|refine gS (λ_ _=>AS rfl rfl (by rfl) (by rfl)) ?_)|refine s3 rfl ?_ ?_<;>rintro rfl|refine aU rfl ?_|apply Aa|(refine aC rfl ?_ ?_<;>rintro⟨⟩));all_goals try contradiction
     all_goals first
      | (exfalso;(simp only[oZ] at *;omega);done)
      | (exfalso;simp at *;done)
      | (exfalso;grind;done)
      | (subst_vars;exact aR ⟨_,rfl,rfl⟩)
    ·rw [if_neg v]
     apply nG
     case hk=>
      intro hk;(repeat first|refine tA rfl ?_|refine s2 rfl λ_ c=>?_|refine s3 rfl ?_ ?_<;>rintro rfl|refine aU rfl ?_|apply Aa)
      (repeat' first|refine sN rfl ?_|refine tA rfl ?_|refine s2 rfl λ_ c=>?_|refine sP rfl (T) rfl ?_|refine s3 rfl ?_ ?_<;>rintro rfl|refine aU rfl ?_|apply Aa|(refine aC rfl ?_ ?_<;>rintro⟨⟩));all_goals try contradiction
      all_goals first
       | (exfalso;omega;done)
       | (exfalso;simp at *;done)
       | (exfalso;grind;done)
       | skip
      all_goals
       apply aK;refine Aj.Ay [1,8,9] [0] rfl rfl [(2,.o (.ptr 0 3 0 0))] [] [0] (rl a rfl) (by (simp[cX,zC,a])) ?_;(try dsimp only[cA,cB])
       obtain⟨z,_⟩:∃z:Nat,z=0:=⟨_,rfl⟩
       exact hk z
     case h=>
     intro _;(repeat first|refine tA rfl ?_|refine aU rfl ?_);(refine pW rfl ?_ rfl (by rfl);refine Gd 2 1 4 rfl rfl rfl (by rfl) (by rfl) ?_);(repeat first|refine sN rfl ?_|refine tA rfl ?_|refine aU rfl ?_|apply Aa);refine Aj.Ay [56,57,58] [0] rfl rfl [(2,.o (.ptr 0 3 0 0)),(11,.o (.ptr 1 3 0 0))] [(1,.cells 29 3 [[.d (iD t.al),.d (Ce rows),.arr 2 1 0 0]]),(2,.cells 4 1 [])] [0,2,1] (rl a rfl) (by (simp[cX,zC,a,eC,BM,Ae])) ?_;(try dsimp only[cA,cB]);apply aB;refine aL (α:={k:Nat // k<=nd.length}) [56,57] [] rfl rfl (λ⟨k,hk⟩=>[(2,.o (.ptr 0 3 0 0)),(11,.o (.ptr 1 3 0 0)),(58,eI .i64 k)]) (λ⟨k,hk⟩=>[(0,.cells 29 3 [[.d (iD 0),.d (.l []),.d (.l [])]]),(1,.cells 29 3 [[.d (iD t.al),.d (Ce rows),.arr 2 1 0 k]]),(2,.cells 4 1 ((nd.take k).map λq=>AO (decide (q≠-1))))]) 3 (λ⟨k,hk⟩=>nd.length-k) (⟨0,by omega⟩) a rfl (by (simp[cX,zC,a,cN,Ae,eC,BM])) ?_;rintro⟨k,hk⟩;(try dsimp only[cA,cB]);(repeat first|refine s2 rfl λ_ c=>?_|refine aU rfl ?_|apply Aa)
     ((refine aC rfl ?_ ?_<;>rintro⟨⟩);all_goals try (simp at c;done))
     ·obtain⟨x,X⟩:=get_some (l:=nd) (k:=k) (by (simp only[oZ] at *;omega))
      have hx':=get_map (g:=Bc) X;apply aK;refine aS (aB ?_);(repeat first|refine tA rfl ?_|(refine s4 rfl ‹_› rfl ?_ ?_;omega)|refine s2 rfl λ_ c=>?_|refine aU rfl ?_|apply Aa);subst c;(refine pW rfl ?_ rfl (by rfl);refine Au rfl rfl rfl (by first|(simp;done)|(simp;(omega))) rfl (by intro r Z;simp at Z;subst Z;rfl) (by rfl) (ce rfl) (by simp;omega) ?_);(repeat first|(refine sA rfl ?_ ?_;first|exact tI|omega)|refine aU rfl ?_|apply Aa);refine⟨⟨k+1,by (simp only[oZ] at *;omega)⟩,by dsimp only;((simp only[oZ] at *;omega)),[0,1,3],?_⟩;simp[cX,zC,a,cN,Ae,eC,BM,i7,X]
     ·obtain rfl:k=nd.length:=by (simp only[oZ] at *;omega)
      apply aE;rw[i8];refine Aj.AA [1,2] [(2,.o (.ptr 0 3 0 0)),(11,.o (.ip (AE ⟨t.al,rows,nd.map (λq=>decide (q≠-1))⟩)))] ⟨⟨_,rfl,.inl rfl⟩,⟨_,rfl,.inr (.o (.box rfl (.cons .d (.cons .d (.cons (.full rfl (by simp[d5]) (by simp)) .nil)))))⟩,trivial⟩ ?_;(repeat first|refine sN rfl ?_|refine tA rfl ?_|refine s2 rfl λ_ c=>?_|refine sP rfl (j) rfl ?_|refine aU rfl ?_|apply Aa);unfold iR;by_cases B:12<M.nx.length
      ·rw [if_pos B]
       (repeat' first|refine tA rfl ?_|(refine Al rfl ?_;refine gA rfl ?_;first|refine gS (λ_ _=>AS rfl rfl (by rfl) (by rfl)) ?_)|refine aU rfl ?_|apply Aa|(refine aC rfl ?_ ?_<;>rintro⟨⟩));all_goals try contradiction
       all_goals first
        | (exfalso;(simp only[oZ] at *;omega);done)
        | (subst_vars;exact aR ⟨_,rfl,rfl⟩)
      ·rw [if_neg B]
       (repeat' first|refine tA rfl ?_|(refine Al rfl ?_;refine gA rfl ?_;first|refine gS (λ_ _=>AS rfl rfl (by rfl) (by rfl)) ?_)|refine aU rfl ?_|apply Aa|(refine aC rfl ?_ ?_<;>rintro⟨⟩));all_goals try contradiction
       all_goals first
        | (exfalso;(simp only[oZ] at *;omega);done)
        | (apply aK)
       (repeat first|refine tA rfl ?_|refine aU rfl ?_|apply Aa);(subst_vars;exact aR ⟨_,rfl,rfl⟩)
 ·have ht:A9 t=false:=by simpa using ht
  rw[ht]at G;rw[if_neg (by rw[ht];decide)];refine eG Tryz.func24 rfl (by kernel_rfl) rfl ?_;intro U a;(repeat first|refine tA rfl ?_|refine s2 rfl λ_ c=>?_|refine sP rfl (G) rfl ?_|refine aU rfl ?_|apply Aa)
  ((refine aC rfl ?_ ?_<;>rintro⟨⟩);all_goals try (simp at c;done))
  (repeat first|refine tA rfl ?_|(refine Al rfl ?_;refine gA rfl ?_;first|refine gS (λ_ _=>AS rfl rfl (by rfl) (by rfl)) ?_)|refine aU rfl ?_|apply Aa);(subst_vars;exact aR ⟨_,rfl,rfl⟩)
end Go.Am
