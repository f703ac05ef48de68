/-
  Sets are numbered, with a memory that grows: walked.
-/
import Derived.Test.YtgpbfllcjdfelaaGreatDoorPart35
set_option linter.all false
namespace Go.Am
open Go Go.Proofs
set_option maxHeartbeats 1000000
set_option maxRecDepth 4000
attribute [local irreducible] AO BS Lex A4 Au Spec
variable {TB:Bi}[Fa TB]
abbrev cL(t:BE)(m:Cr):Ab:=[(0,.cells 124 1 [[.ptr 1 14 0 0]]),(1,.cells 131 14 [NR t (.arr 2 12 0 (m).F.length) (.mp 3) (.arr 4 6 0 (m).nx.length) (.arr 5 1 0 (m).un.length)]),(2,.cells 189 12 ((m).F.map Ls)),(3,.mp (mapA .u16 (KG (m).F))),(4,.cells 109 6 ((m).nx.map Lq)),(5,.cells 4 1 ((m).un.map AP))]
theorem gF{r:List Nat}:∀i,i < 2->(0::1::r)[i]? = some i
 | 0,_|1,_=>rfl
def jc(t:BE)(m0:Cr)(f:Option PS->Int->Option PS)(ls:List Int)(s0:Int)(x:E)(σ:Ab)(nx:Nat):Prop:=∃(m:Cr) (o:Option (List Int×List (List Int))),Ds t Y0 m/\Mt m0 m/\(∀p,o=some p->∀q∈p.1,Om t m q)/\FV 41 f ls (GP m0 s0)=(o.map λp=>(p.1.map (GP m),p.2))/\x=ZH o/\σ=cL t m/\nx=6
theorem QO{t:BE}{m0:Cr}{f:Option PS->Int->Option PS}{ls:List Int}{s0:Int}{g:FuncId}(hll:ls.length<=6)(hm0:Ds t Y0 m0)(hl0:m0.F.length<=100)(hs:Om t m0 s0)
 (hg:∀(m:Cr) (q l:Int),Ds t Y0 m->m.F.length<=1000->Om t m q->l∈ls->∃(m':Cr) (y:Int),Ds t Y0 m'/\Mt m m'/\m'.F.length<=m.F.length+1/\Om t m' y/\GP m' y=f (GP m q) l/\AJ Tryz.prog TB g 2 (cL t m) 6 [eI .i64 q,eI .i64 l,.o (.ptr 0 1 0 0)] (λx σ nx=>x=eI .i64 y/\σ=cL t m'/\nx=6)) :
 AJ Tryz.prog TB 111 2 (cL t m0) 6 [eI .i64 s0,AH ls,eI .i64 41,.o (.fn g [.ptr 0 1 0 0])] (jc t m0 f ls s0):=by
 unfold jc FV;generalize hA0:C4 41 f ls 41 [GP m0 s0] []=A;refine AJ.AX (AJ.QP (m:=2) (co rfl) Tryz.func111 rfl (by kernel_rfl) (co rfl) ?_);intro Γ e;(repeat first |refine sN rfl ?_ |((first|refine sX rfl ?_ ?_|refine s4 rfl ‹_› rfl ?_ ?_);first|exact tI|omega|simp only[oZ] at *;omega) |refine s2 rfl λ_ a=>?_ |refine s3 rfl ?_ ?_<;>rintro rfl |refine aU rfl ?_ |refine Aa ?_);(refine pW rfl ?_ rfl (by rfl);refine A9 rfl rfl rfl rfl (by simp [eC]) (by rfl) (by rfl) (by rfl) (by rfl) ?_);(repeat first |refine sN rfl ?_ |((first|refine sX rfl ?_ ?_|refine s4 rfl ‹_› rfl ?_ ?_);first|exact tI|omega|simp only[oZ] at *;omega) |refine s2 rfl λ_ a=>?_ |refine s3 rfl ?_ ?_<;>rintro rfl |refine aU rfl ?_ |refine Aa ?_);(refine pW rfl ?_ rfl (by rfl);refine GM ?_);(repeat first |refine sN rfl ?_ |((first|refine sA rfl ?_ ?_|refine s4 rfl ‹_› rfl ?_ ?_);first|exact tI|omega|simp only[oZ] at *;omega) |refine s2 rfl λ_ a=>?_ |refine s3 rfl ?_ ?_<;>rintro rfl |refine aU rfl ?_ |refine Aa ?_);(refine Af rfl ?_;refine EO ?_ rfl (by rfl);refine aW (QF (l:=[]) rfl rfl rfl rfl rfl ?_));(repeat first |refine sN rfl ?_ |((first|refine sM rfl ?_ ?_|refine s4 rfl ‹_› rfl ?_ ?_);first|exact tI|omega|simp only[oZ] at *;omega) |refine s2 rfl λ_ a=>?_ |refine s3 rfl ?_ ?_<;>rintro rfl |refine aU rfl ?_ |refine Aa ?_ |refine rE (by kernel_rfl) ?_);(refine pW rfl ?_ rfl (by rfl);refine HU 1 53 ?_);(repeat first |refine sN rfl ?_ |((first|refine sM rfl ?_ ?_|refine s4 rfl ‹_› rfl ?_ ?_);first|exact tI|omega|simp only[oZ] at *;omega) |refine s2 rfl λ_ a=>?_ |refine s3 rfl ?_ ?_<;>rintro rfl |refine aU rfl ?_ |refine Aa ?_ |refine rE (by kernel_rfl) ?_);refine aB ?_;refine aL (U:={z:Cr×List Int×List (List Int) // C4 41 f ls (41 - z.2.2.length) (z.2.1.map (GP z.1)) z.2.2=A/\z.2.2.length<=z.2.1.length/\1<=z.2.1.length/\z.2.1.length<=41/\(∀q∈z.2.1,Om t z.1 q)/\Ds t Y0 z.1/\Mt m0 z.1/\z.1.F.length<=100+6*z.2.2.length}) [1,2,12] [] rfl rfl (λs=>[(3,.o (.fn g [.ptr 0 1 0 0])),(11,.o (.arr 6 1 0 s.1.2.1.length)),(13,.o (.arr 8 1 0 s.1.2.2.length)),(14,eI .i64 s.1.2.2.length)]) (λs=>[(0,.cells 124 1 [[.ptr 1 14 0 0]]),(1,.cells 131 14 [NR t (.arr 2 12 0 (s.1.1).F.length) (.mp 3) (.arr 4 6 0 (s.1.1).nx.length) (.arr 5 1 0 (s.1.1).un.length)]),(2,.cells 189 12 ((s.1.1).F.map Ls)),(3,.mp (mapA .u16 (KG (s.1.1).F))),(4,.cells 109 6 ((s.1.1).nx.map Lq)),(5,.cells 4 1 ((s.1.1).un.map AP)),(6,.cells 3 1 (s.1.2.1.map Az)),(7,.mp (HT (RI s.1.2.1))),(8,.cells 53 1 (s.1.2.2.map λr=>[.d (Da r)]))]) 9 (λs=>41 - s.1.2.2.length) (⟨⟨m0,[s0],[]⟩,by simpa using hA0,by simp,by simp,by simp,by simpa using hs,hm0,Mt.refl _,by simpa using hl0⟩) e rfl (by ((repeat' first|exact tI|rfl|refine And.intro ?_ ?_)<;>(simp[cX,zC,e,AB,eC,Bb,Ae,RI]<;>rfl))) ?_;rintro⟨⟨m,nd,rows⟩,L,X,hn1,T,J,hm,u,hml⟩;(try dsimp only[cA,cB]);have L:C4 41 f ls (41 - rows.length) (nd.map (GP m)) rows=A:=L;have X:rows.length<=nd.length:=X;have hn1:1<=nd.length:=hn1;have T:nd.length<=41:=T;have J:∀q∈nd,Om t m q:=J;have hm:Ds t Y0 m:=hm;have u:Mt m0 m:=u;have hml:m.F.length<=100+6*rows.length:=hml;by_cases hlt:rows.length < nd.length
 ·obtain⟨q,Z⟩:=get_some hlt
  obtain⟨k,hk⟩:∃k,41 - rows.length=k+1:=⟨41 - rows.length - 1,by omega⟩
  rw [hk] at L
  have hqm:(nd.map (GP m))[rows.length]? = some (GP m q):=by rw [d9,Z];rfl
  simp only [C4,hqm] at L;generalize hB0:CG 41 f (GP m q) (nd.map (GP m)) [] ls=B at L;have hRq:=J q (ce Z);(repeat first |refine sN rfl ?_ |((first|refine sA rfl ?_ ?_|refine s4 rfl ‹_› rfl ?_ ?_);first|exact tI|omega|simp only[oZ] at *;omega) |refine s2 rfl λ_ a=>?_ |refine s3 rfl ?_ ?_<;>rintro rfl |refine aU rfl ?_ |refine Aa ?_)
  ((refine aC rfl ?_ ?_<;>rintro⟨⟩);all_goals try(exfalso;first|omega|simp only[oZ] at *;omega))
  refine aK ?_;refine aS (aB ?_);(repeat first |refine sN rfl ?_ |((first|refine sM rfl ?_ ?_|refine s4 rfl ‹_› rfl ?_ ?_);first|exact tI|omega|simp only[oZ] at *;omega) |refine s2 rfl λ_ a=>?_ |refine s3 rfl ?_ ?_<;>rintro rfl |refine aU rfl ?_ |refine Aa ?_ |refine rE (by kernel_rfl) ?_);(refine pW rfl ?_ rfl (by rfl);refine HU 1 3 ?_);(repeat first |refine sN rfl ?_ |((first|refine sM rfl ?_ ?_|refine s4 rfl ‹_› rfl ?_ ?_);first|exact tI|omega|simp only[oZ] at *;omega) |refine s2 rfl λ_ a=>?_ |refine s3 rfl ?_ ?_<;>rintro rfl |refine aU rfl ?_ |refine Aa ?_ |refine rE (by kernel_rfl) ?_);refine aB ?_;refine aL (U:={z:(Cr×List Int×List Int)×Nat // z.2<=ls.length/\CG 41 f (GP m q) (z.1.2.1.map (GP z.1.1)) z.1.2.2 (ls.drop z.2)=B/\z.1.2.2.length=z.2/\nd.length<=z.1.2.1.length/\z.1.2.1.length<=41/\(∀q∈z.1.2.1,Om t z.1.1 q)/\z.1.2.1[rows.length]? = some q/\Ds t Y0 z.1.1/\Mt m z.1.1/\z.1.1.F.length<=m.F.length+z.2}) [1,2,12,13,14,32,33] [8] rfl rfl (λs=>[(3,.o (.fn g [.ptr 0 1 0 0])),(11,.o (.arr 6 1 0 s.1.1.2.1.length)),(15,.o (.arr 9 1 0 s.1.2)),(34,eI .i64 s.1.2)]) (λs=>[(0,.cells 124 1 [[.ptr 1 14 0 0]]),(1,.cells 131 14 [NR t (.arr 2 12 0 (s.1.1.1).F.length) (.mp 3) (.arr 4 6 0 (s.1.1.1).nx.length) (.arr 5 1 0 (s.1.1.1).un.length)]),(2,.cells 189 12 ((s.1.1.1).F.map Ls)),(3,.mp (mapA .u16 (KG (s.1.1.1).F))),(4,.cells 109 6 ((s.1.1.1).nx.map Lq)),(5,.cells 4 1 ((s.1.1.1).un.map AP)),(6,.cells 3 1 (s.1.1.2.1.map Az)),(7,.mp (HT (RI s.1.1.2.1))),(9,.cells 3 1 (s.1.1.2.2.map Az))]) 10 (λs=>ls.length - s.1.2) (⟨⟨⟨m,nd,[]⟩,0⟩,by simp,hB0,rfl,io _,T,J,Z,hm,Mt.refl _,io _⟩) e rfl (by ((repeat' first|exact tI|rfl|refine And.intro ?_ ?_)<;>(simp[cX,zC,e,AB,eC,Bb,Ae,EM]<;>rfl))) ?_;rintro⟨⟨⟨Q,b,row⟩,j⟩,hj,v,w,S,M,K,H,P,c,R⟩;(try dsimp only[cA,cB]);have hj:j<=ls.length:=hj;have v:CG 41 f (GP m q) (b.map (GP Q)) row (ls.drop j)=B:=v;have w:row.length=j:=w;have S:nd.length<=b.length:=S;have M:b.length<=41:=M;have K:∀q∈b,Om t Q q:=K;have H:b[rows.length]? = some q:=H;have P:Ds t Y0 Q:=P;have c:Mt m Q:=c;have R:Q.F.length<=m.F.length+j:=R;by_cases hjl:j < ls.length
  ·obtain⟨l,hl⟩:=get_some hjl
   have hl':=get_map (g:=Br) hl;have hlm:=ce hl;obtain⟨Y,hqe⟩:=QR c hRq;obtain⟨V,y,N,n,hml2,hy,hfy,hcy⟩:=hg Q q l P (by omega) Y hlm;rw [hqe] at hfy
   have hq':(b.map Az)[0+((rows.length:Nat):Int).toNat]? = some (Az q):=by rw [ms,f6];simp [H]
   rw [BF hl,eD N.nd n K hy hfy] at v;have hR2:∀q∈b,Om t V q:=λq Z=>(QR n (K q Z)).1;have I:=Pf b y;(repeat first |refine sN rfl ?_ |((first|refine sA rfl ?_ ?_|refine s4 rfl ‹_› rfl ?_ ?_);first|exact tI|omega|simp only[oZ] at *;omega) |refine s2 rfl λ_ a=>?_ |refine s3 rfl ?_ ?_<;>rintro rfl |refine aU rfl ?_ |refine Aa ?_)
   ((refine aC rfl ?_ ?_<;>rintro⟨⟩);all_goals try(exfalso;first|omega|simp only[oZ] at *;omega))
   refine aK ?_;refine aS (aB ?_);(repeat first |refine sN rfl ?_ |((first|refine sA rfl ?_ ?_|refine s4 rfl ‹_› rfl ?_ ?_);first|exact tI|omega|simp only[oZ] at *;omega) |refine s2 rfl λ_ a=>?_ |refine s3 rfl ?_ ?_<;>rintro rfl |refine aU rfl ?_ |refine Aa ?_);(refine pW rfl ?_ rfl (by rfl);refine BJ [0,1,2,3,4,5] rfl rfl 2 (hcy) (by decide) ⟨rfl,by decide,by decide⟩ rfl (by simp[cX,zC,e,AB]) ?_;rintro x0 σ1 nx1 ⟨rfl,rfl,rfl⟩ _);by_cases hin:y∈b
   ·rw [if_pos hin] at v I
    (repeat first |refine sN rfl ?_ |((first|refine sA rfl ?_ ?_|refine s4 rfl ‹_› rfl ?_ ?_);first|exact tI|omega|simp only[oZ] at *;omega) |refine s2 rfl λ_ a=>?_|(refine Af rfl ?_;refine gA rfl ?_;first|refine gQ (SZ I rfl rfl rfl) rfl ?_) |refine s3 rfl ?_ ?_<;>rintro rfl |refine aU rfl ?_ |refine Aa ?_)
    ((refine aC rfl ?_ ?_<;>rintro⟨⟩);all_goals try (simp at a;done))
    refine aK ?_;(repeat first |refine sN rfl ?_ |((first|refine sA rfl ?_ ?_|refine s4 rfl ‹_› rfl ?_ ?_);first|exact tI|omega|simp only[oZ] at *;omega) |refine s2 rfl λ_ a=>?_ |refine s3 rfl ?_ ?_<;>rintro rfl |refine aU rfl ?_ |refine Aa ?_);(refine pW rfl ?_ rfl (by rfl);refine Aj rfl rfl rfl (by first|(simp;done)|(simp;(first|omega|simp only[oZ] at *;omega))) rfl (by intro r G;simp at G;subst G;rfl) (by rfl) (co rfl) (by simp;omega) ?_);(repeat first |refine sN rfl ?_ |((first|refine sA rfl ?_ ?_|refine s4 rfl ‹_› rfl ?_ ?_);first|exact tI|omega|simp only[oZ] at *;omega) |refine s2 rfl λ_ a=>?_ |refine s3 rfl ?_ ?_<;>rintro rfl |refine aU rfl ?_ |refine Aa ?_);refine⟨⟨⟨⟨V,b,row++[((b.idxOf y:Nat):Int)]⟩,j+1⟩,by dsimp only;omega,v,by simp [w],S,M,hR2,H,N,c.trans n,by dsimp only;omega⟩,by dsimp only;(first|omega|simp only[oZ] at *;omega),[0,1,10,11,12,13,6,7,8,14],?_⟩;simp[cX,zC,e,AB,EM];exact gF
   ·rw [if_neg hin] at v I
    (repeat first |refine sN rfl ?_ |((first|refine sA rfl ?_ ?_|refine s4 rfl ‹_› rfl ?_ ?_);first|exact tI|omega|simp only[oZ] at *;omega) |refine s2 rfl λ_ a=>?_|(refine Af rfl ?_;refine gA rfl ?_;first|refine gQ (SY I rfl rfl rfl) rfl ?_) |refine s3 rfl ?_ ?_<;>rintro rfl |refine aU rfl ?_ |refine Aa ?_)
    ((refine aC rfl ?_ ?_<;>rintro⟨⟩);all_goals try (simp at a;done))
    by_cases hfu:b.length=41
    ·rw [if_pos hfu] at v
     subst v;(repeat first |refine sN rfl ?_ |((first|refine sA rfl ?_ ?_|refine s4 rfl ‹_› rfl ?_ ?_);first|exact tI|omega|simp only[oZ] at *;omega) |refine s2 rfl λ_ a=>?_ |refine s3 rfl ?_ ?_<;>rintro rfl |refine aU rfl ?_ |refine Aa ?_)
     ((refine aC rfl ?_ ?_<;>rintro⟨⟩);all_goals try(exfalso;first|omega|simp only[oZ] at *;omega))
     (repeat first |refine sN rfl ?_ |((first|refine sA rfl ?_ ?_|refine s4 rfl ‹_› rfl ?_ ?_);first|exact tI|omega|simp only[oZ] at *;omega) |refine s2 rfl λ_ a=>?_ |refine s3 rfl ?_ ?_<;>rintro rfl |refine aU rfl ?_ |refine Aa ?_);have L:none=A:=L;subst L;exact aR ⟨_,rfl,[0,1,10,11,12,13],ZH none,cL t V,⟨by intro i hi;match i with|0=>rfl|1=>rfl,by decide⟩,rfl,by ((repeat' first|exact tI|rfl|refine And.intro ?_ ?_)<;>(simp[cX,zC,e,AB]<;>rfl)),V,none,N,u.trans (c.trans n),(λp hp=>by cases hp),rfl,rfl,rfl,rfl⟩
    ·rw [if_neg hfu] at v
     (repeat first |refine sN rfl ?_ |((first|refine sA rfl ?_ ?_|refine s4 rfl ‹_› rfl ?_ ?_);first|exact tI|omega|simp only[oZ] at *;omega) |refine s2 rfl λ_ a=>?_ |refine s3 rfl ?_ ?_<;>rintro rfl |refine aU rfl ?_ |refine Aa ?_)
     ((refine aC rfl ?_ ?_<;>rintro⟨⟩);all_goals try(exfalso;first|omega|simp only[oZ] at *;omega))
     refine aK ?_;(repeat first |refine sN rfl ?_ |((first|refine sA rfl ?_ ?_|refine s4 rfl ‹_› rfl ?_ ?_);first|exact tI|omega|simp only[oZ] at *;omega) |refine s2 rfl λ_ a=>?_ |refine s3 rfl ?_ ?_<;>rintro rfl |refine aU rfl ?_ |refine Aa ?_);(refine Af rfl ?_;refine EO ?_ rfl (by rfl);refine QF rfl rfl rfl rfl I ?_);rw [<-QE];(repeat first |refine sN rfl ?_ |((first|refine sA rfl ?_ ?_|refine s4 rfl ‹_› rfl ?_ ?_);first|exact tI|omega|simp only[oZ] at *;omega) |refine s2 rfl λ_ a=>?_ |refine s3 rfl ?_ ?_<;>rintro rfl |refine aU rfl ?_ |refine Aa ?_);(refine pW rfl ?_ rfl (by rfl);refine Aj rfl rfl rfl (by first|(simp;done)|(simp;(first|omega|simp only[oZ] at *;omega))) rfl (by intro r G;simp at G;subst G;rfl) (by rfl) (co rfl) (by simp;omega) ?_);(repeat first |refine sN rfl ?_ |((first|refine sA rfl ?_ ?_|refine s4 rfl ‹_› rfl ?_ ?_);first|exact tI|omega|simp only[oZ] at *;omega) |refine s2 rfl λ_ a=>?_ |refine s3 rfl ?_ ?_<;>rintro rfl |refine aU rfl ?_ |refine Aa ?_);(refine pW rfl ?_ rfl (by rfl);refine Aj rfl rfl rfl (by first|(simp;done)|(simp;(first|omega|simp only[oZ] at *;omega))) rfl (by intro r G;simp at G;subst G;rfl) (by rfl) (co rfl) (by simp;omega) ?_);(repeat first |refine sN rfl ?_ |((first|refine sA rfl ?_ ?_|refine s4 rfl ‹_› rfl ?_ ?_);first|exact tI|omega|simp only[oZ] at *;omega) |refine s2 rfl λ_ a=>?_ |refine s3 rfl ?_ ?_<;>rintro rfl |refine aU rfl ?_ |refine Aa ?_);refine⟨⟨⟨⟨V,b++[y],row++[(b.length:Int)]⟩,j+1⟩,by dsimp only;omega,v,by simp [w],by simp;omega,by simp;omega,(λz hz=>by rcases f9.1 hz with h|h;exact hR2 z h;simp at h;subst h;exact hy),by rw [d8 (by omega)];exact H,N,c.trans n,by dsimp only;omega⟩,by dsimp only;(first|omega|simp only[oZ] at *;omega),[0,1,10,11,12,13,14,7,8,15],?_⟩;simp[cX,zC,e,AB,EM];exact gF
  ·obtain rfl:j=ls.length:=by omega
   rw [oR] at v;simp only [CG] at v;subst v;simp only at L;(repeat first |refine sN rfl ?_ |((first|refine sA rfl ?_ ?_|refine s4 rfl ‹_› rfl ?_ ?_);first|exact tI|omega|simp only[oZ] at *;omega) |refine s2 rfl λ_ a=>?_ |refine s3 rfl ?_ ?_<;>rintro rfl |refine aU rfl ?_ |refine Aa ?_)
   ((refine aC rfl ?_ ?_<;>rintro⟨⟩);all_goals try(exfalso;first|omega|simp only[oZ] at *;omega))
   refine aE ?_;refine Au.C9 [9] [1,2,3,11,12,13,14] rfl [(15,AH row)] ⟨⟨_,rfl,.o (.full (by simp) rfl (by simp [d4]) (by simpa using w))⟩,trivial⟩ ?_;(try dsimp only[cA,cB]);(repeat first |refine sN rfl ?_ |((first|refine sA rfl ?_ ?_|refine s4 rfl ‹_› rfl ?_ ?_);first|exact tI|omega|simp only[oZ] at *;omega) |refine s2 rfl λ_ a=>?_ |refine s3 rfl ?_ ?_<;>rintro rfl |refine aU rfl ?_ |refine Aa ?_);(refine pW rfl ?_ rfl (by rfl);refine Aj rfl rfl rfl (by first|(simp;done)|(simp;(first|omega|simp only[oZ] at *;omega))) rfl (by intro r G;simp at G;subst G;rfl) (by rfl) (co rfl) (by simp;omega) ?_);(repeat first |refine sN rfl ?_ |((first|refine sA rfl ?_ ?_|refine s4 rfl ‹_› rfl ?_ ?_);first|exact tI|omega|simp only[oZ] at *;omega) |refine s2 rfl λ_ a=>?_ |refine s3 rfl ?_ ?_<;>rintro rfl |refine aU rfl ?_ |refine Aa ?_);refine⟨⟨⟨Q,b,rows++[row]⟩,by show C4 41 f ls (41 - (rows++[row]).length) (b.map (GP Q)) _=A;rw [nw,pv,show 41 - (rows.length+1)=k by omega];exact L,by simp;omega,by dsimp only;omega,M,K,P,u.trans c,by dsimp only;rw [nw,pv];omega⟩,by dsimp only;(first|omega|simp only[oZ] at *;omega),[0,1,2,3,4,5,6,7,10],?_⟩;simp[cX,zC,e,AB,EM];exact gF
 ·have hA2:A=some (nd.map (GP m),rows):=by
   rw [<-L]
   cases 41 - rows.length with
   | zero=>rfl
   | succ k=>simp only [C4];rw [i8 (by rw [f7];omega)]
  subst hA2;(repeat first |refine sN rfl ?_ |((first|refine sA rfl ?_ ?_|refine s4 rfl ‹_› rfl ?_ ?_);first|exact tI|omega|simp only[oZ] at *;omega) |refine s2 rfl λ_ a=>?_ |refine s3 rfl ?_ ?_<;>rintro rfl |refine aU rfl ?_ |refine Aa ?_)
  ((refine aC rfl ?_ ?_<;>rintro⟨⟩);all_goals try(exfalso;first|omega|simp only[oZ] at *;omega))
  refine aE ?_;refine Au.C9 [6,8] [1,2,3,12,14] rfl [(11,AH nd),(13,Er rows)] ⟨⟨_,rfl,.o (.full (by simp) rfl (by simp [d4]) (by simp))⟩,⟨_,rfl,.o (.full (by simp) rfl (by simp [d4]) (by simp))⟩,trivial⟩ ?_;(try dsimp only[cA,cB]);(repeat first |refine sN rfl ?_ |((first|refine sA rfl ?_ ?_|refine s4 rfl ‹_› rfl ?_ ?_);first|exact tI|omega|simp only[oZ] at *;omega) |refine s2 rfl λ_ a=>?_ |refine s3 rfl ?_ ?_<;>rintro rfl |refine aU rfl ?_ |refine Aa ?_);exact aR ⟨_,rfl,[0,1,2,3,4,5],ZH (some (nd,rows)),cL t m,⟨by intro i hi;match i with|0=>rfl|1=>rfl,by decide⟩,rfl,by ((repeat' first|exact tI|rfl|refine And.intro ?_ ?_)<;>(simp[cX,zC,e,AB]<;>rfl)),m,some (nd,rows),hm,u,(λp hp=>by cases hp;exact J),rfl,rfl,rfl,rfl⟩
end Go.Am
namespace Go.Am
open Go Go.Proofs
set_option maxHeartbeats 1000000
set_option maxRecDepth 4000
attribute [local irreducible] AO BS Lex A4 Au Spec
variable {TB:Bi}
theorem P4{n:Nat}:List.replicate n (Az 0)=(FJ n λ_=>0).map Az:=by
 apply nH;intro i;by_cases h:i < n
 ·simp [h]
 ·rw [i8 (by simp;omega),i8 (by simp;omega)]
theorem U8{n:Nat}:(List.replicate n (Az 0)).set 0 (Az 1)=(FJ n Kg).map Az:=by
 rw [P4];have:=QW (n:=n) (x:=0) (v:=1) (G:=λ_=>0)
 have e:Vl (λ_=>0) 0 1=Kg:=by funext p;rfl
 rw [e] at this;exact this
theorem Uw{t:BE}(ht:AZ t=true):Pure Tryz.prog TB 186 [FU t] (AH (FJ t.q.nx.length (A0 t))):=by
 have g:=Al (CZ ht);have c:=Nd (TB:=TB) ht (Oj ht);rw [show TL t Kg=A0 t from rfl] at c;have b:=U8 (n:=t.q.nx.length)
 have f:(List.replicate t.q.nx.length (Az 0))[0+(0:Int).toNat]? = some (Az 0):=by rw [pT,if_pos];simp;omega
 refine eG Tryz.func186 rfl (by kernel_rfl) rfl ?_;intro Γ a;(repeat first|refine sN rfl ?_ |refine tA rfl ?_ |refine aU rfl ?_ |refine Aa ?_);(refine pW rfl ?_ rfl (by rfl);refine I9 rfl rfl (by rfl) (by rfl) (co rfl) (by omega) (by omega) (by omega) ?_);(repeat first|(refine sA rfl ?_ ?_;first|exact tI|omega) |refine t4 rfl ‹_› rfl ?_ |refine aU rfl ?_ |refine Aa ?_);(refine pW rfl ?_ rfl (by rfl);refine Ag [0] rfl rfl (c) ⟨rfl,by decide,by decide⟩ rfl (by simp[cX,zC,a,b]) ?_;rintro h d e ⟨rfl,rfl,rfl⟩ _);(repeat first|refine tA rfl ?_);refine Aa ?_;refine Au.AL [] [] rfl rfl [(2,.o (.arr 0 1 0 t.q.nx.length))] [(0,.cells 3 1 ((FJ t.q.nx.length (A0 t)).map Az))] [0] (rl a rfl) (by (simp[cX,zC,a,b])) ?_;(try dsimp only[cA,cB]);refine Au.settle [(2,AH (FJ t.q.nx.length (A0 t)))] ⟨⟨_,rfl,.o (.full rfl (by simp [d4]) (by simp))⟩,trivial⟩ ?_;refine aR ⟨_,rfl,rfl⟩
theorem ay{t:BE}(ht:AZ t=true){F:PS}:Pure Tryz.prog TB 187 [FU t,AH (FJ t.q.nx.length F)] (eB (Eo t F)):=by
 have p:=Al (CZ ht)
 have n:(FJ t.q.nx.length F).length=t.q.nx.length:=by simp
 have d:Eo t F=GG t F t.q.nx.length:=rfl;refine eG Tryz.func187 rfl (by kernel_rfl) rfl ?_;intro Γ a;(repeat first|refine tA rfl ?_ |refine aU rfl ?_ |refine Aa ?_);refine aB ?_;refine aL (U:={k:Nat // k<=t.q.nx.length/\GG t F k=false}) [1,2] [] rfl rfl (λ⟨k,hk,hb⟩=>[(5,eI .i64 k)]) (λ⟨k,hk,hb⟩=>[]) 0 (λ⟨k,hk,hb⟩=>t.q.nx.length - k) (⟨0,by omega,rfl⟩) a rfl (by (simp[cX,zC,a])) ?_;rintro⟨k,hk,hb⟩;(try dsimp only[cA,cB]);by_cases h:k < t.q.nx.length
 ·have s:((FJ t.q.nx.length F).map Br)[((k:Nat):Int).toNat]? = some (Br (F k:Int)):=by rw [f6];simp [h]
  obtain⟨b,f⟩:=get_some (l:=t.q.ac) (k:=((k:Nat):Int).toNat) (by omega);have o:=get_map (g:=Gk) f
  have i:t.q.ac.getD k false=b:=by rw [f6] at f;simp [List.getD,f]
  have j:=IX (t:=t) (F:=F) (k:=k);rw [i,hb] at j;(repeat first|refine sN rfl ?_ |refine tA rfl ?_ |refine s2 rfl λ_ c=>?_ |refine aU rfl ?_ |refine Aa ?_)
  ((refine aC rfl ?_ ?_<;>rintro⟨⟩);all_goals try(exfalso;(simp only[oZ] at *;omega)))
  refine aK ?_;refine aS (aB ?_)
  (repeat' first|refine tA rfl ?_ |(refine s4 rfl ‹_› rfl ?_ ?_;omega) |refine s2 rfl λ_ c=>?_ |refine s3 rfl ?_ ?_<;>rintro rfl |refine aU rfl ?_ |refine Aa ?_|(refine aC rfl ?_ ?_<;>rintro⟨⟩));all_goals try contradiction
  ·have m:Eo t F=true:=by
    have u:=of_decide_eq_true ‹decide ((F k:Int)≠0)=true›
    have r:F k≠0:=by omega
    rw [d];unfold GG;exact qJ.2 ⟨k,jp.2 h,by rw [i,c];simp [r]⟩
   rw [m];(subst_vars;exact aR ⟨_,rfl,rfl⟩)
  ·have e:GG t F (k+1)=false:=by rw [j];simp_all
   refine aK ?_;(repeat first|(refine sA rfl ?_ ?_;first|exact tI|omega) |refine aU rfl ?_ |refine Aa ?_);refine⟨⟨k+1,by omega,e⟩,by dsimp only;(omega),[],?_⟩;simp[cX,zC,a]
  ·have e:GG t F (k+1)=false:=by rw [j];simp at c;simp;omega
   refine aK ?_;(repeat first|(refine sA rfl ?_ ?_;first|exact tI|omega) |refine aU rfl ?_ |refine Aa ?_);refine⟨⟨k+1,by omega,e⟩,by dsimp only;(omega),[],?_⟩;simp[cX,zC,a]
 ·obtain rfl:k=t.q.nx.length:=by omega
  rw [d,hb];(repeat first|refine sN rfl ?_ |refine tA rfl ?_ |refine s2 rfl λ_ c=>?_ |refine aU rfl ?_ |refine Aa ?_)
  ((refine aC rfl ?_ ?_<;>rintro⟨⟩);all_goals try(exfalso;(simp only[oZ] at *;omega)))
  refine aE ?_;(repeat first|refine tA rfl ?_ |refine aU rfl ?_ |refine Aa ?_);(subst_vars;exact aR ⟨_,rfl,rfl⟩)
theorem Uo(b:List UInt8)(hb:b.length<=2000)(p:Int)(m:0<=p/\p < 800000000)(al:Int):∃(n q:Int),(p<=q/\q<=p+2)/\Spec Tryz.prog TB 237 [(0,Bo b p)] 1 [.o (.ptr 0 2 0 0),eI .i64 al] (λx σ nx=>x=eI .i64 n/\σ=[(0,Bo b q)]/\nx=1):=by
 obtain⟨c,s,r,hp⟩:=Bz (TB:=TB) b hb p 12 (by omega);obtain⟨h,l,j⟩:=CA (TB:=TB) b hb (p+1) (by omega) [64,-1,63,0] (by decide) (by decide);by_cases k:c=0
 ·subst k
  refine⟨h,p+1+1,by omega,?_⟩;refine eR Tryz.func237 rfl (by kernel_rfl) rfl ?_;intro Γ a;(repeat first|refine tA rfl ?_ |refine aU rfl ?_ |refine Aa ?_);(refine pW rfl ?_ rfl (by rfl);refine Ag [0] rfl rfl (hp) ⟨rfl,by decide,by decide⟩ rfl (by simp[cX,zC,a]) ?_;rintro g d e ⟨rfl,rfl,rfl⟩ _);(repeat first|refine s2 rfl λ_ f=>?_ |refine Aa ?_)
  ((refine aC rfl ?_ ?_<;>rintro⟨⟩);all_goals try (simp at f;done))
  (repeat first|refine tA rfl ?_ |refine aU rfl ?_);(refine pW rfl ?_ rfl (by rfl);refine Ag [0] rfl rfl (j) ⟨rfl,by decide,by decide⟩ rfl (by simp[cX,zC,a]) ?_;rintro g d e ⟨rfl,rfl,rfl⟩ _);(repeat first|refine tA rfl ?_ |refine Aa ?_);refine aR ⟨_,rfl,?_⟩;refine⟨[0],_,[(0,Bo b (p+1+1))],⟨by first|(simp;done)|decide|(intro i hi;match i with|0=>rfl),by decide⟩,rfl,by (simp[cX,zC,a]),rfl,rfl,rfl⟩
 ·refine⟨al,p+1,by omega,?_⟩
  refine eR Tryz.func237 rfl (by kernel_rfl) rfl ?_;intro Γ a;(repeat first|refine tA rfl ?_ |refine aU rfl ?_ |refine Aa ?_);(refine pW rfl ?_ rfl (by rfl);refine Ag [0] rfl rfl (hp) ⟨rfl,by decide,by decide⟩ rfl (by simp[cX,zC,a]) ?_;rintro g d e ⟨rfl,rfl,rfl⟩ _);(repeat first|refine s2 rfl λ_ f=>?_ |refine Aa ?_)
  ((refine aC rfl ?_ ?_<;>rintro⟨⟩);all_goals try(exfalso;(simp only[oZ] at *;omega)))
  refine aK ?_;(repeat first|refine tA rfl ?_ |refine aU rfl ?_ |refine Aa ?_);refine aR ⟨_,rfl,?_⟩;refine⟨[0],_,[(0,Bo b (p+1))],⟨by first|(simp;done)|decide|(intro i hi;match i with|0=>rfl),by decide⟩,rfl,by (simp[cX,zC,a]),rfl,rfl,rfl⟩
theorem Ur(b:List UInt8)(hb:b.length<=2000)(p:Int)(P:0<=p/\p < 800000000)(y:Sys)(N:y.es.length<=100000):Spec Tryz.prog TB 197 [(0,Bo b p)] 1 [.o (.ptr 0 2 0 0),Dv y] (LO b p 5 (λs=>s.es.length<=y.es.length+1)):=by
 obtain⟨k,M,L,hk⟩:=Bz (TB:=TB) b hb p y.es.length (by omega);obtain⟨c,S,Q,K⟩:=Bz (TB:=TB) b hb (p+1) 30 (by omega);refine eR Tryz.func197 rfl (by kernel_rfl) rfl ?_;intro Γ a;(repeat first|refine tA rfl ?_ |refine aU rfl ?_ |refine Aa ?_);refine R.fb [(0,2),(1,2),(2,2),(3,2),(5,2),(6,2),(9,3),(4,1),(7,1),(8,0),(10,5)] mixed (by kernel_rfl) rfl (by kernel_rfl) ?_;(repeat ((refine R.Af rfl ?_;first|(refine R.yQ (md:=false) rfl rfl rfl ?_ ?_;exact tI) |refine R.yP rfl rfl rfl rfl ?_ )));(refine R.Af rfl ?_;refine R.OH (λ_=>?_) rfl rfl;refine A9 rfl rfl rfl rfl (by simp) (by rfl) (by rfl) (by rfl) (by rfl) ?_);(refine R.Af rfl ?_;refine R.OH (λ_=>?_) rfl rfl;refine Aj rfl rfl rfl (by simp) rfl (by intro r u;simp only [nV,em] at u;obtain⟨_,_,rfl⟩:=u;rfl) (by rfl) (co rfl) (by simp;omega) ?_);(repeat ((refine R.Af rfl ?_;first|refine R.yA rfl rfl rfl rfl ?_|refine R.Ew (λ_ _ _=>AF rfl rfl (by rfl) (by rfl)) rfl rfl ?_ )));refine R.dQ ?_;refine Au.AL [0] [] rfl rfl [(4,.o (.ptr 1 3 0 0)),(5,.o (.ptr 3 3 0 0))] [(0,Bo b p),(1,.cells 25 3 [[.d (iD 0),.d (iD 0),.d (.l [])]]),(2,.cells 158 3 (y.es.map A7)),(3,.cells 25 3 [[.d (iD y.al),.d (iD y.st),.arr 2 3 0 y.es.length]])] [0,1,3,4] (rl a rfl) (by (simp[cX,zC,a,cN,Ae,Bb,eC])) ?_;(try dsimp only[cA,cB]);(repeat first|refine tA rfl ?_ |refine aU rfl ?_ |refine Aa ?_);(refine pW rfl ?_ rfl (by rfl);refine Ag [0] rfl rfl (hk) ⟨rfl,by decide,by decide⟩ rfl (by simp[cX,zC,a,cN]) ?_;rintro t j m ⟨rfl,rfl,rfl⟩ _);(repeat first|refine tA rfl ?_ |refine aU rfl ?_ |refine Aa ?_);(refine pW rfl ?_ rfl (by rfl);refine Ag [0] rfl rfl (K) ⟨rfl,by decide,by decide⟩ rfl (by simp[cX,zC,a,cN]) ?_;rintro t j m ⟨rfl,rfl,rfl⟩ _);refine Aa ?_;refine Au.AL [0] [] rfl rfl [(4,.o (.ptr 1 3 0 0)),(5,.o (.ptr 3 3 0 0)),(6,eI .i64 y.es.length),(7,eI .i64 k),(24,eI .i64 c)] [(0,Bo b (p+1+1)),(1,.cells 25 3 [[.d (iD 0),.d (iD 0),.d (.l [])]]),(2,.cells 158 3 (y.es.map A7)),(3,.cells 25 3 [[.d (iD y.al),.d (iD y.st),.arr 2 3 0 y.es.length]])] [0,1,2,3] (rl a rfl) (by (simp[cX,zC,a,cN])) ?_;(try dsimp only[cA,cB]);refine aB ?_;(repeat first|refine tA rfl ?_ |refine s2 rfl λ_ e=>?_ |refine aU rfl ?_ |refine Aa ?_);(refine aC rfl ?_ ?_<;>rintro⟨⟩)
 ·obtain⟨z,G,v⟩:=CA (TB:=TB) b hb (p+1+1) (by omega) [64,-1,1,63] (by decide) (by decide)
  (repeat first|refine tA rfl ?_ |refine aU rfl ?_);(refine pW rfl ?_ rfl (by rfl);refine Ag [0] rfl rfl (v) ⟨rfl,by decide,by decide⟩ rfl (by simp[cX,zC,a,cN]) ?_;rintro t j m ⟨rfl,rfl,rfl⟩ _);(repeat first|refine tA rfl ?_ |refine aU rfl ?_ |refine Aa ?_);refine Au.AL [] [] rfl rfl [(4,.o (.ptr 1 3 0 0))] [(0,Bo b (p+1+1+1)),(1,.cells 25 3 [[.d (iD (z)),.d (iD (y.st)),.arr 2 3 0 (y.es).length]]),(2,.cells 158 3 ((y.es).map A7))] [0,1,2] (rl a rfl) (by (simp[cX,zC,a,cN,Ae,eC])) ?_;(try dsimp only[cA,cB]);refine Au.AM [1,2] [(4,.o (.ip (CD ⟨z,y.st,y.es⟩)))] ⟨⟨_,rfl,.inr (.o (.box rfl (.cons .d (.cons .d (.cons (.full rfl (by simp [d4]) (by simp)) .nil)))))⟩,trivial⟩ ?_;refine aR ⟨_,rfl,[0],Dv ⟨z,y.st,y.es⟩,[(0,Bo b (p+1+1+1))],⟨by intro i hi;match i with|0=>rfl,by decide⟩,rfl,by (simp[cX,zC,a,cN]),p+1+1+1,⟨z,y.st,y.es⟩,by omega,by first|(simp;done)|(simp;omega),rfl,rfl,rfl⟩
 (repeat first|refine tA rfl ?_ |refine s2 rfl λ_ e=>?_ |refine aU rfl ?_ |refine Aa ?_);(refine aC rfl ?_ ?_<;>rintro⟨⟩)
 ·obtain⟨z,G,v⟩:=CA (TB:=TB) b hb (p+1+1) (by omega) [0,17,-1,16,1] (by decide) (by decide)
  (repeat first|refine tA rfl ?_ |refine aU rfl ?_);(refine pW rfl ?_ rfl (by rfl);refine Ag [0] rfl rfl (v) ⟨rfl,by decide,by decide⟩ rfl (by simp[cX,zC,a,cN]) ?_;rintro t j m ⟨rfl,rfl,rfl⟩ _);(repeat first|refine tA rfl ?_ |refine aU rfl ?_ |refine Aa ?_);refine Au.AL [] [] rfl rfl [(4,.o (.ptr 1 3 0 0))] [(0,Bo b (p+1+1+1)),(1,.cells 25 3 [[.d (iD (y.al)),.d (iD (z)),.arr 2 3 0 (y.es).length]]),(2,.cells 158 3 ((y.es).map A7))] [0,1,2] (rl a rfl) (by (simp[cX,zC,a,cN,Ae,eC])) ?_;(try dsimp only[cA,cB]);refine Au.AM [1,2] [(4,.o (.ip (CD ⟨y.al,z,y.es⟩)))] ⟨⟨_,rfl,.inr (.o (.box rfl (.cons .d (.cons .d (.cons (.full rfl (by simp [d4]) (by simp)) .nil)))))⟩,trivial⟩ ?_;refine aR ⟨_,rfl,[0],Dv ⟨y.al,z,y.es⟩,[(0,Bo b (p+1+1+1))],⟨by intro i hi;match i with|0=>rfl,by decide⟩,rfl,by (simp[cX,zC,a,cN]),p+1+1+1,⟨y.al,z,y.es⟩,by omega,by first|(simp;done)|(simp;omega),rfl,rfl,rfl⟩
 (repeat first|refine tA rfl ?_ |refine s2 rfl λ_ e=>?_ |refine aU rfl ?_ |refine Aa ?_);(refine aC rfl ?_ ?_<;>rintro⟨⟩)
 ·by_cases v:y.es.length=0
  ·(repeat' first|refine tA rfl ?_ |refine s2 rfl λ_ e=>?_ |refine aU rfl ?_ |refine Aa ?_|(refine aC rfl ?_ ?_<;>rintro⟨⟩));all_goals try contradiction
   all_goals first
    | (exfalso;(simp only[oZ] at *;omega);done)
    | (refine aK ?_;(repeat first|refine tA rfl ?_ |refine aU rfl ?_ |refine Aa ?_);refine Au.AL [] [] rfl rfl [(4,.o (.ptr 1 3 0 0))] [(0,Bo b (p+1+1)),(1,.cells 25 3 [[.d (iD (y.al)),.d (iD (y.st)),.arr 2 3 0 (y.es).length]]),(2,.cells 158 3 ((y.es).map A7))] [0,1,2] (rl a rfl) (by (simp[cX,zC,a,cN,Ae,eC])) ?_;(try dsimp only[cA,cB]);refine Au.AM [1,2] [(4,.o (.ip (CD ⟨y.al,y.st,y.es⟩)))] ⟨⟨_,rfl,.inr (.o (.box rfl (.cons .d (.cons .d (.cons (.full rfl (by simp [d4]) (by simp)) .nil)))))⟩,trivial⟩ ?_;refine aR ⟨_,rfl,[0],Dv ⟨y.al,y.st,y.es⟩,[(0,Bo b (p+1+1))],⟨by intro i hi;match i with|0=>rfl,by decide⟩,rfl,by (simp[cX,zC,a,cN]),p+1+1,⟨y.al,y.st,y.es⟩,by omega,by first|(simp;done)|(simp;omega),rfl,rfl,rfl⟩)
  obtain⟨⟨h,g,f⟩,x⟩:=get_some (l:=y.es) (k:=k.toNat) (by omega)
  have w:(y.es.map A7)[0+k.toNat]? = some (A7 ⟨h,g,f⟩):=by rw [ms];simp [x]
  obtain⟨z,G,q⟩:=CA (TB:=TB) b hb (p+1+1) (by omega) [-1,16,0,2] (by decide) (by decide)
  have n:(y.es.map A7).set (0+k.toNat) (A7 ⟨z,g,f⟩)=(y.es.set k.toNat ⟨z,g,f⟩).map A7:=by rw [ms,oU]
  (repeat first|refine tA rfl ?_ |refine s2 rfl λ_ e=>?_ |refine aU rfl ?_ |refine Aa ?_)
  ((refine aC rfl ?_ ?_<;>rintro⟨⟩);all_goals try(exfalso;(simp only[oZ] at *;omega)))
  refine rG (RH [(1,13),(5,1008),(6,2),(7,2),(8,1)]) (by kernel_rfl) ?_;(repeat first|refine tA rfl ?_);(refine Af rfl ?_;refine DN ?_ rfl ⟨rfl,rfl⟩;refine Ag [0] rfl rfl (q) ⟨rfl,by decide,by decide⟩ rfl (by simp[cX,zC,a,cN]) ?_;rintro t j m ⟨rfl,rfl,rfl⟩ _;refine⟨FA 3 rfl rfl,?_⟩);(repeat first|(refine sA rfl ?_ ?_;first|exact tI|omega) |refine t4 rfl ‹_› rfl ?_ |refine aU rfl ?_ |refine Aa ?_);refine Au.AL [] [] rfl rfl [(4,.o (.ptr 1 3 0 0))] [(0,Bo b (p+1+1+1)),(1,.cells 25 3 [[.d (iD (y.al)),.d (iD (y.st)),.arr 2 3 0 (y.es.set k.toNat ⟨z,g,f⟩).length]]),(2,.cells 158 3 ((y.es.set k.toNat ⟨z,g,f⟩).map A7))] [0,1,2] (rl a rfl) (by (simp[cX,zC,a,cN,Ae,eC,n])) ?_;(try dsimp only[cA,cB]);refine Au.AM [1,2] [(4,.o (.ip (CD ⟨y.al,y.st,y.es.set k.toNat ⟨z,g,f⟩⟩)))] ⟨⟨_,rfl,.inr (.o (.box rfl (.cons .d (.cons .d (.cons (.full rfl (by simp [d4]) (by simp)) .nil)))))⟩,trivial⟩ ?_;refine aR ⟨_,rfl,[0],Dv ⟨y.al,y.st,y.es.set k.toNat ⟨z,g,f⟩⟩,[(0,Bo b (p+1+1+1))],⟨by intro i hi;match i with|0=>rfl,by decide⟩,rfl,by (simp[cX,zC,a,cN]),p+1+1+1,⟨y.al,y.st,y.es.set k.toNat ⟨z,g,f⟩⟩,by omega,by first|(simp;done)|(simp;omega),rfl,rfl,rfl⟩
 (repeat first|refine tA rfl ?_ |refine s2 rfl λ_ e=>?_ |refine aU rfl ?_ |refine Aa ?_);(refine aC rfl ?_ ?_<;>rintro⟨⟩)
 ·by_cases v:y.es.length=0
  ·(repeat' first|refine tA rfl ?_ |refine s2 rfl λ_ e=>?_ |refine aU rfl ?_ |refine Aa ?_|(refine aC rfl ?_ ?_<;>rintro⟨⟩));all_goals try contradiction
   all_goals first
    | (exfalso;(simp only[oZ] at *;omega);done)
    | (refine aK ?_;(repeat first|refine tA rfl ?_ |refine aU rfl ?_ |refine Aa ?_);refine Au.AL [] [] rfl rfl [(4,.o (.ptr 1 3 0 0))] [(0,Bo b (p+1+1)),(1,.cells 25 3 [[.d (iD (y.al)),.d (iD (y.st)),.arr 2 3 0 (y.es).length]]),(2,.cells 158 3 ((y.es).map A7))] [0,1,2] (rl a rfl) (by (simp[cX,zC,a,cN,Ae,eC])) ?_;(try dsimp only[cA,cB]);refine Au.AM [1,2] [(4,.o (.ip (CD ⟨y.al,y.st,y.es⟩)))] ⟨⟨_,rfl,.inr (.o (.box rfl (.cons .d (.cons .d (.cons (.full rfl (by simp [d4]) (by simp)) .nil)))))⟩,trivial⟩ ?_;refine aR ⟨_,rfl,[0],Dv ⟨y.al,y.st,y.es⟩,[(0,Bo b (p+1+1))],⟨by intro i hi;match i with|0=>rfl,by decide⟩,rfl,by (simp[cX,zC,a,cN]),p+1+1,⟨y.al,y.st,y.es⟩,by omega,by first|(simp;done)|(simp;omega),rfl,rfl,rfl⟩)
  obtain⟨⟨h,g,f⟩,x⟩:=get_some (l:=y.es) (k:=k.toNat) (by omega)
  have w:(y.es.map A7)[0+k.toNat]? = some (A7 ⟨h,g,f⟩):=by rw [ms];simp [x]
  obtain⟨z,G,q⟩:=CA (TB:=TB) b hb (p+1+1) (by omega) [-1,16,0,3] (by decide) (by decide)
  have n:(y.es.map A7).set (0+k.toNat) (A7 ⟨h,g,z⟩)=(y.es.set k.toNat ⟨h,g,z⟩).map A7:=by rw [ms,oU]
  (repeat first|refine tA rfl ?_ |refine s2 rfl λ_ e=>?_ |refine aU rfl ?_ |refine Aa ?_)
  ((refine aC rfl ?_ ?_<;>rintro⟨⟩);all_goals try(exfalso;(simp only[oZ] at *;omega)))
  refine rG (RH [(1,13),(5,1008),(6,2),(7,2),(8,1)]) (by kernel_rfl) ?_;(repeat first|refine tA rfl ?_);(refine Af rfl ?_;refine DN ?_ rfl ⟨rfl,rfl⟩;refine Ag [0] rfl rfl (q) ⟨rfl,by decide,by decide⟩ rfl (by simp[cX,zC,a,cN]) ?_;rintro t j m ⟨rfl,rfl,rfl⟩ _;refine⟨FA 3 rfl rfl,?_⟩);(repeat first|(refine sA rfl ?_ ?_;first|exact tI|omega) |refine t4 rfl ‹_› rfl ?_ |refine aU rfl ?_ |refine Aa ?_);refine Au.AL [] [] rfl rfl [(4,.o (.ptr 1 3 0 0))] [(0,Bo b (p+1+1+1)),(1,.cells 25 3 [[.d (iD (y.al)),.d (iD (y.st)),.arr 2 3 0 (y.es.set k.toNat ⟨h,g,z⟩).length]]),(2,.cells 158 3 ((y.es.set k.toNat ⟨h,g,z⟩).map A7))] [0,1,2] (rl a rfl) (by (simp[cX,zC,a,cN,Ae,eC,n])) ?_;(try dsimp only[cA,cB]);refine Au.AM [1,2] [(4,.o (.ip (CD ⟨y.al,y.st,y.es.set k.toNat ⟨h,g,z⟩⟩)))] ⟨⟨_,rfl,.inr (.o (.box rfl (.cons .d (.cons .d (.cons (.full rfl (by simp [d4]) (by simp)) .nil)))))⟩,trivial⟩ ?_;refine aR ⟨_,rfl,[0],Dv ⟨y.al,y.st,y.es.set k.toNat ⟨h,g,z⟩⟩,[(0,Bo b (p+1+1+1))],⟨by intro i hi;match i with|0=>rfl,by decide⟩,rfl,by (simp[cX,zC,a,cN]),p+1+1+1,⟨y.al,y.st,y.es.set k.toNat ⟨h,g,z⟩⟩,by omega,by first|(simp;done)|(simp;omega),rfl,rfl,rfl⟩
 (repeat first|refine tA rfl ?_ |refine s2 rfl λ_ e=>?_ |refine aU rfl ?_ |refine Aa ?_);(refine aC rfl ?_ ?_<;>rintro⟨⟩)
 ·by_cases v:y.es.length=0
  ·(repeat' first|refine tA rfl ?_ |refine s2 rfl λ_ e=>?_ |refine aU rfl ?_ |refine Aa ?_|(refine aC rfl ?_ ?_<;>rintro⟨⟩));all_goals try contradiction
   all_goals first
    | (exfalso;(simp only[oZ] at *;omega);done)
    | (refine aK ?_;(repeat first|refine tA rfl ?_ |refine aU rfl ?_ |refine Aa ?_);refine Au.AL [] [] rfl rfl [(4,.o (.ptr 1 3 0 0))] [(0,Bo b (p+1+1)),(1,.cells 25 3 [[.d (iD (y.al)),.d (iD (y.st)),.arr 2 3 0 (y.es).length]]),(2,.cells 158 3 ((y.es).map A7))] [0,1,2] (rl a rfl) (by (simp[cX,zC,a,cN,Ae,eC])) ?_;(try dsimp only[cA,cB]);refine Au.AM [1,2] [(4,.o (.ip (CD ⟨y.al,y.st,y.es⟩)))] ⟨⟨_,rfl,.inr (.o (.box rfl (.cons .d (.cons .d (.cons (.full rfl (by simp [d4]) (by simp)) .nil)))))⟩,trivial⟩ ?_;refine aR ⟨_,rfl,[0],Dv ⟨y.al,y.st,y.es⟩,[(0,Bo b (p+1+1))],⟨by intro i hi;match i with|0=>rfl,by decide⟩,rfl,by (simp[cX,zC,a,cN]),p+1+1,⟨y.al,y.st,y.es⟩,by omega,by first|(simp;done)|(simp;omega),rfl,rfl,rfl⟩)
  obtain⟨⟨h,g,f⟩,x⟩:=get_some (l:=y.es) (k:=k.toNat) (by omega)
  have w:(y.es.map A7)[0+k.toNat]? = some (A7 ⟨h,g,f⟩):=by rw [ms];simp [x]
  obtain⟨z,G,q⟩:=CA (TB:=TB) b hb (p+1+1) (by omega) [-1,6,70,5,0] (by decide) (by decide)
  have n:(y.es.map A7).set (0+k.toNat) (A7 ⟨h,z,f⟩)=(y.es.set k.toNat ⟨h,z,f⟩).map A7:=by rw [ms,oU]
  (repeat first|refine tA rfl ?_ |refine s2 rfl λ_ e=>?_ |refine aU rfl ?_ |refine Aa ?_)
  ((refine aC rfl ?_ ?_<;>rintro⟨⟩);all_goals try(exfalso;(simp only[oZ] at *;omega)))
  refine rG (RH [(1,13),(5,1008),(6,2),(7,2),(8,1)]) (by kernel_rfl) ?_;(repeat first|refine tA rfl ?_);(refine Af rfl ?_;refine DN ?_ rfl ⟨rfl,rfl⟩;refine Ag [0] rfl rfl (q) ⟨rfl,by decide,by decide⟩ rfl (by simp[cX,zC,a,cN]) ?_;rintro t j m ⟨rfl,rfl,rfl⟩ _;refine⟨FA 3 rfl rfl,?_⟩);(repeat first|(refine sA rfl ?_ ?_;first|exact tI|omega) |refine t4 rfl ‹_› rfl ?_ |refine aU rfl ?_ |refine Aa ?_);refine Au.AL [] [] rfl rfl [(4,.o (.ptr 1 3 0 0))] [(0,Bo b (p+1+1+1)),(1,.cells 25 3 [[.d (iD (y.al)),.d (iD (y.st)),.arr 2 3 0 (y.es.set k.toNat ⟨h,z,f⟩).length]]),(2,.cells 158 3 ((y.es.set k.toNat ⟨h,z,f⟩).map A7))] [0,1,2] (rl a rfl) (by (simp[cX,zC,a,cN,Ae,eC,n])) ?_;(try dsimp only[cA,cB]);refine Au.AM [1,2] [(4,.o (.ip (CD ⟨y.al,y.st,y.es.set k.toNat ⟨h,z,f⟩⟩)))] ⟨⟨_,rfl,.inr (.o (.box rfl (.cons .d (.cons .d (.cons (.full rfl (by simp [d4]) (by simp)) .nil)))))⟩,trivial⟩ ?_;refine aR ⟨_,rfl,[0],Dv ⟨y.al,y.st,y.es.set k.toNat ⟨h,z,f⟩⟩,[(0,Bo b (p+1+1+1))],⟨by intro i hi;match i with|0=>rfl,by decide⟩,rfl,by (simp[cX,zC,a,cN]),p+1+1+1,⟨y.al,y.st,y.es.set k.toNat ⟨h,z,f⟩⟩,by omega,by first|(simp;done)|(simp;omega),rfl,rfl,rfl⟩
 (repeat first|refine tA rfl ?_ |refine s2 rfl λ_ e=>?_ |refine aU rfl ?_ |refine Aa ?_);(refine aC rfl ?_ ?_<;>rintro⟨⟩)
 ·by_cases v:y.es.length=0
  ·(repeat' first|refine tA rfl ?_ |refine s2 rfl λ_ e=>?_ |refine aU rfl ?_ |refine Aa ?_|(refine aC rfl ?_ ?_<;>rintro⟨⟩));all_goals try contradiction
   all_goals first
    | (exfalso;(simp only[oZ] at *;omega);done)
    | (refine aK ?_;(repeat first|refine tA rfl ?_ |refine aU rfl ?_ |refine Aa ?_);refine Au.AL [] [] rfl rfl [(4,.o (.ptr 1 3 0 0))] [(0,Bo b (p+1+1)),(1,.cells 25 3 [[.d (iD (y.al)),.d (iD (y.st)),.arr 2 3 0 (y.es).length]]),(2,.cells 158 3 ((y.es).map A7))] [0,1,2] (rl a rfl) (by (simp[cX,zC,a,cN,Ae,eC])) ?_;(try dsimp only[cA,cB]);refine Au.AM [1,2] [(4,.o (.ip (CD ⟨y.al,y.st,y.es⟩)))] ⟨⟨_,rfl,.inr (.o (.box rfl (.cons .d (.cons .d (.cons (.full rfl (by simp [d4]) (by simp)) .nil)))))⟩,trivial⟩ ?_;refine aR ⟨_,rfl,[0],Dv ⟨y.al,y.st,y.es⟩,[(0,Bo b (p+1+1))],⟨by intro i hi;match i with|0=>rfl,by decide⟩,rfl,by (simp[cX,zC,a,cN]),p+1+1,⟨y.al,y.st,y.es⟩,by omega,by first|(simp;done)|(simp;omega),rfl,rfl,rfl⟩)
  obtain⟨⟨h,g,f⟩,x⟩:=get_some (l:=y.es) (k:=k.toNat) (by omega)
  have w:(y.es.map A7)[0+k.toNat]? = some (A7 ⟨h,g,f⟩):=by rw [ms];simp [x]
  (repeat first|refine tA rfl ?_ |refine s2 rfl λ_ e=>?_ |refine aU rfl ?_ |refine Aa ?_)
  ((refine aC rfl ?_ ?_<;>rintro⟨⟩);all_goals try(exfalso;(simp only[oZ] at *;omega)))
  refine rG (RH [(1,13),(3,13),(6,12),(8,1),(10,1)]) (by kernel_rfl) ?_;(repeat first|(refine sA rfl ?_ ?_;first|exact tI|omega) |refine t4 rfl ‹_› rfl ?_);(refine pW rfl ?_ rfl (by rfl);refine Aj rfl rfl rfl (by first| (simp;done)|(simp;(omega))) rfl (by intro r u;simp at u;subst u;rfl) (by rfl) (co rfl) (by simp;omega) ?_);(repeat first|refine tA rfl ?_ |refine aU rfl ?_ |refine Aa ?_);refine Au.AL [] [] rfl rfl [(4,.o (.ptr 1 3 0 0))] [(0,Bo b (p+1+1)),(1,.cells 25 3 [[.d (iD (y.al)),.d (iD (y.st)),.arr 2 3 0 (y.es++[(⟨h,g,f⟩:Ej)]).length]]),(2,.cells 158 3 ((y.es++[(⟨h,g,f⟩:Ej)]).map A7))] [0,1,4] (rl a rfl) (by (simp[cX,zC,a,cN,Ae,eC])) ?_;(try dsimp only[cA,cB]);refine Au.AM [1,2] [(4,.o (.ip (CD ⟨y.al,y.st,y.es++[(⟨h,g,f⟩:Ej)]⟩)))] ⟨⟨_,rfl,.inr (.o (.box rfl (.cons .d (.cons .d (.cons (.full rfl (by simp [d4]) (by simp)) .nil)))))⟩,trivial⟩ ?_;refine aR ⟨_,rfl,[0],Dv ⟨y.al,y.st,y.es++[(⟨h,g,f⟩:Ej)]⟩,[(0,Bo b (p+1+1))],⟨by intro i hi;match i with|0=>rfl,by decide⟩,rfl,by (simp[cX,zC,a,cN]),p+1+1,⟨y.al,y.st,y.es++[(⟨h,g,f⟩:Ej)]⟩,by omega,by first|(simp;done)|(simp;omega),rfl,rfl,rfl⟩
 (repeat first|refine tA rfl ?_ |refine s2 rfl λ_ e=>?_ |refine aU rfl ?_ |refine Aa ?_);(refine aC rfl ?_ ?_<;>rintro⟨⟩)
 ·obtain⟨F,_,_,J⟩:=Bz (TB:=TB) b hb (p+1+1) 4 (by omega)
  obtain⟨B,_,_,I⟩:=Bz (TB:=TB) b hb (p+1+1+1) 3 (by omega);obtain⟨A,_,_,H⟩:=Bz (TB:=TB) b hb (p+1+1+1+1) 4 (by omega);refine rG ⟨Hb [(1,13),(3,1008),(5,1008),(7,1008),(10,1),(12,1)],dr [0,1,2,4,6,3,5,7,8,9,10,11,12]⟩ (by kernel_rfl) ?_;(repeat first|refine tA rfl ?_);(refine Af rfl ?_;refine DN ?_ rfl ⟨rfl,rfl⟩;refine Ag [0] rfl rfl (J) ⟨rfl,by decide,by decide⟩ rfl (by simp[cX,zC,a,cN]) ?_;rintro t j m ⟨rfl,rfl,rfl⟩ _;refine⟨FA 3 rfl rfl,?_⟩);(refine Af rfl ?_;refine DN ?_ rfl ⟨rfl,rfl⟩;refine Ag [0] rfl rfl (I) ⟨rfl,by decide,by decide⟩ rfl (by simp[cX,zC,a,cN]) ?_;rintro t j m ⟨rfl,rfl,rfl⟩ _;refine⟨FA 3 rfl rfl,?_⟩);(refine Af rfl ?_;refine DN ?_ rfl ⟨rfl,rfl⟩;refine Ag [0] rfl rfl (H) ⟨rfl,by decide,by decide⟩ rfl (by simp[cX,zC,a,cN]) ?_;rintro t j m ⟨rfl,rfl,rfl⟩ _;refine⟨FA 3 rfl rfl,?_⟩);(repeat first|refine tA rfl ?_|(refine Af rfl ?_;refine gA rfl ?_;first| refine gS (λ_ _=>AF rfl rfl (by rfl) (by rfl)) ?_));(refine pW rfl ?_ rfl (by rfl);refine Aj rfl rfl rfl (by first| (simp;done)|(simp;(omega))) rfl (by intro r u;simp at u;subst u;rfl) (by rfl) (co rfl) (by simp;omega) ?_);(repeat first|refine tA rfl ?_ |refine aU rfl ?_ |refine Aa ?_);refine Au.AL [] [] rfl rfl [(4,.o (.ptr 1 3 0 0))] [(0,Bo b (p+1+1+1+1+1)),(1,.cells 25 3 [[.d (iD (y.al)),.d (iD (y.st)),.arr 2 3 0 (y.es++[(⟨F,B,A⟩:Ej)]).length]]),(2,.cells 158 3 ((y.es++[(⟨F,B,A⟩:Ej)]).map A7))] [0,1,4] (rl a rfl) (by (simp[cX,zC,a,cN,Ae,eC])) ?_;(try dsimp only[cA,cB]);refine Au.AM [1,2] [(4,.o (.ip (CD ⟨y.al,y.st,y.es++[(⟨F,B,A⟩:Ej)]⟩)))] ⟨⟨_,rfl,.inr (.o (.box rfl (.cons .d (.cons .d (.cons (.full rfl (by simp [d4]) (by simp)) .nil)))))⟩,trivial⟩ ?_;refine aR ⟨_,rfl,[0],Dv ⟨y.al,y.st,y.es++[(⟨F,B,A⟩:Ej)]⟩,[(0,Bo b (p+1+1+1+1+1))],⟨by intro i hi;match i with|0=>rfl,by decide⟩,rfl,by (simp[cX,zC,a,cN]),p+1+1+1+1+1,⟨y.al,y.st,y.es++[(⟨F,B,A⟩:Ej)]⟩,by omega,by first|(simp;done)|(simp;omega),rfl,rfl,rfl⟩
 refine aK ?_;(repeat first|refine tA rfl ?_ |refine aU rfl ?_ |refine Aa ?_);refine Au.AL [] [] rfl rfl [(4,.o (.ptr 1 3 0 0))] [(0,Bo b (p+1+1)),(1,.cells 25 3 [[.d (iD (y.al)),.d (iD (y.st)),.arr 2 3 0 (y.es).length]]),(2,.cells 158 3 ((y.es).map A7))] [0,1,2] (rl a rfl) (by (simp[cX,zC,a,cN,Ae,eC])) ?_;(try dsimp only[cA,cB]);refine Au.AM [1,2] [(4,.o (.ip (CD ⟨y.al,y.st,y.es⟩)))] ⟨⟨_,rfl,.inr (.o (.box rfl (.cons .d (.cons .d (.cons (.full rfl (by simp [d4]) (by simp)) .nil)))))⟩,trivial⟩ ?_;refine aR ⟨_,rfl,[0],Dv ⟨y.al,y.st,y.es⟩,[(0,Bo b (p+1+1))],⟨by intro i hi;match i with|0=>rfl,by decide⟩,rfl,by (simp[cX,zC,a,cN]),p+1+1,⟨y.al,y.st,y.es⟩,by omega,by first|(simp;done)|(simp;omega),rfl,rfl,rfl⟩
theorem dW{t:BE}{l:Int}{F:PS}{k x:Nat}(h:AW t.q k l=(x:Int)):DB t l F (k+1)=Vl (DB t l F k) x (DB t l F k x ||| Dd t.s l (F k)):=by
 rw [It];funext p;unfold Vl;rw [h];by_cases e:p=x
 ·subst e;simp
 ·rw [if_neg e,if_neg (by omega)]
theorem XP{t:BE}(ht:AZ t=true){F:PS}(w:CE t F){l:Int}(m:0<=l/\l < 6):Pure Tryz.prog TB 189 [FU t,AH (FJ t.q.nx.length F),eI .i64 l] (AH (FJ t.q.nx.length (BR t l F))):=by
 have K:BA t.s=true:=by unfold AZ at ht;simp only [d6] at ht;exact ht.1
 have e:=CZ ht;have N:=Al e;have u:=Nd (TB:=TB) ht (KH ht m w);rw [show TL t (VW t l F)=BR t l F from rfl] at u
 have L:(FJ t.q.nx.length F).length=t.q.nx.length:=by simp
 have P:List.replicate t.q.nx.length (Az 0)=(FJ t.q.nx.length (DB t l F 0)).map Az:=P4;have y:[zC (Value.int IntKind.i64 0)]=Az 0:=rfl;have r:=DA (TB:=TB) t.s.al l m.1 (by omega);refine eG Tryz.func189 rfl (by kernel_rfl) rfl ?_;intro Γ c;(repeat first|refine sN rfl ?_ |refine tA rfl ?_ |refine aU rfl ?_ |refine Aa ?_);(refine pW rfl ?_ rfl (by rfl);refine I9 rfl rfl (by rfl) (by rfl) (co rfl) (by omega) (by omega) (by omega) ?_);(repeat first|refine tA rfl ?_ |refine aU rfl ?_ |refine Aa ?_);refine aB ?_;refine aL (U:={k:Nat // k<=t.q.nx.length}) [1,2,3] [] rfl rfl (λs=>[(7,.o (.arr 0 1 0 t.q.nx.length)),(8,eI .i64 s.1)]) (λs=>[(0,.cells 3 1 ((FJ t.q.nx.length (DB t l F s.1)).map Az))]) 1 (λs=>t.q.nx.length - s.1) (⟨0,by omega⟩) c rfl (by (simp[cX,zC,c,P,y])) ?_;rintro⟨k,hk⟩;(try dsimp only[cA,cB]);by_cases i:k < t.q.nx.length
 ·have S:((FJ t.q.nx.length F).map Br)[((k:Nat):Int).toNat]? = some (Br (F k:Int)):=by rw [f6];simp [i]
  have j:=VR (TB:=TB) t.q e k i l m.1 m.2;have A:=DG e i m.1 m.2
  obtain⟨x,B⟩:∃x:Nat,AW t.q k l=x:=⟨(AW t.q k l).toNat,by omega⟩
  have z:=dW (F:=F) B;rw [B] at j A;have p:=Pr (TB:=TB) K l (w.lt k);have R:=QV (n:=t.q.nx.length) (G:=DB t l F k) (x:=x) (by omega);have M:=VX ht (l:=l) w k x;have J:=H0 ht (l:=l) (w.lt k);have h:=LX (a:=DB t l F k x) (b:=Dd t.s l (F k)) (by omega) (by omega);have d:=QW (n:=t.q.nx.length) (x:=x) (v:=DB t l F k x ||| Dd t.s l (F k)) (G:=DB t l F k);rw [<-z] at d;(repeat first|refine sN rfl ?_ |refine tA rfl ?_ |refine s2 rfl λ_ f=>?_ |refine aU rfl ?_ |refine Aa ?_)
  ((refine aC rfl ?_ ?_<;>rintro⟨⟩);all_goals try(exfalso;(simp only[oZ] at *;omega)))
  refine aK ?_;refine aS (aB ?_);(repeat first|refine tA rfl ?_ |(refine s4 rfl ‹_› rfl ?_ ?_;omega) |(refine sC rfl (r) ?_;intro _ f) |refine aU rfl ?_ |refine Aa ?_);(refine aC rfl ?_ ?_<;>rintro⟨⟩)
  ·have g:Dd t.s l (F k)=BL t.s.es l (F k):=by unfold Dd;rw [if_pos f]
   rw [<-g] at p;(repeat first|(refine sA rfl ?_ ?_;first|exact tI|omega) |refine t4 rfl ‹_› rfl ?_ |refine sP rfl (p) rfl ?_|refine sP rfl (j) rfl ?_ |refine aU rfl ?_ |refine Aa ?_);refine⟨⟨k+1,by omega⟩,by dsimp only;(omega),[0],?_⟩
   simp[cX,zC,c,h];simpa [d4] using d
  ·have g:Dd t.s l (F k)=F k:=by unfold Dd;rw [if_neg (by simp [f])]
   rw [g] at h d;refine aK ?_;(repeat first|(refine sA rfl ?_ ?_;first|exact tI|omega) |refine t4 rfl ‹_› rfl ?_ |refine sP rfl (j) rfl ?_ |refine aU rfl ?_ |refine Aa ?_);refine⟨⟨k+1,by omega⟩,by dsimp only;(omega),[0],?_⟩
   simp[cX,zC,c,h];simpa [d4] using d
 ·obtain rfl:k=t.q.nx.length:=by omega
  rw [show DB t l F t.q.nx.length=VW t l F from rfl];(repeat first|refine sN rfl ?_ |refine tA rfl ?_ |refine s2 rfl λ_ f=>?_ |refine aU rfl ?_ |refine Aa ?_)
  ((refine aC rfl ?_ ?_<;>rintro⟨⟩);all_goals try(exfalso;(simp only[oZ] at *;omega)))
  refine aE ?_;(repeat first|refine tA rfl ?_ |refine aU rfl ?_);(refine pW rfl ?_ rfl (by rfl);refine Ag [0] rfl rfl (u) ⟨rfl,by decide,by decide⟩ rfl (by simp[cX,zC,c]) ?_;rintro Q H I ⟨rfl,rfl,rfl⟩ _);(repeat first|refine tA rfl ?_);refine Aa ?_;refine Au.AL [] [] rfl rfl [(6,.o (.arr 0 1 0 t.q.nx.length))] [(0,.cells 3 1 ((FJ t.q.nx.length (BR t l F)).map Az))] [0] (rl c rfl) (by (simp[cX,zC,c])) ?_;(try dsimp only[cA,cB]);refine Au.settle [(6,AH (FJ t.q.nx.length (BR t l F)))] ⟨⟨_,rfl,.o (.full rfl (by simp [d4]) (by simp))⟩,trivial⟩ ?_;refine aR ⟨_,rfl,rfl⟩
theorem KX(t:BE):Pure Tryz.prog TB 114 [FU t] (eB (AZ t)):=by
 unfold AZ;refine eN Tryz.func114 rfl (by kernel_rfl) rfl ?_;intro Γ b;(repeat' first|refine tA rfl ?_ |(refine sC rfl (CW t.s) ?_;intro _ a)|(refine sC rfl (C5 t.q) ?_;intro _ a)|(refine sC rfl (Ez t.al) ?_;intro _ a) |refine s3 rfl ?_ ?_<;>rintro rfl |refine aU rfl ?_ |refine Aa ?_|(refine aC rfl ?_ ?_<;>rintro⟨⟩)|refine aK ?_|refine aE ?_|refine aB ?_|refine aR ⟨_,rfl,?_⟩)
 all_goals (show E.o _=E.o _;simp_all)
theorem GJ(t:BE):Pure Tryz.prog TB 106 [FU t] (eB (AZ t)):=by
 unfold AZ;refine eN Tryz.func106 rfl (by kernel_rfl) rfl ?_;intro Γ b;(repeat' first|refine tA rfl ?_ |(refine sC rfl (I6 t.s) ?_;intro _ a)|(refine sC rfl (Cm t.q) ?_;intro _ a)|(refine sC rfl (Ey t.al) ?_;intro _ a) |refine s3 rfl ?_ ?_<;>rintro rfl |refine aU rfl ?_ |refine Aa ?_|(refine aC rfl ?_ ?_<;>rintro⟨⟩)|refine aK ?_|refine aE ?_|refine aB ?_|refine aR ⟨_,rfl,?_⟩)
 all_goals (show E.o _=E.o _;simp_all)
abbrev l3(p:AK)(t:BE):E:=kD false p t.s t.q t.al
theorem Ie(p:AK)(t:BE):Pure Tryz.prog TB 143 [l3 p t] (eI .i64 (if AZ t then t.al else -1)):=by
 have c:=GJ (TB:=TB) t;refine eN Tryz.func143 rfl (by kernel_rfl) rfl ?_;intro Γ b;(repeat' first|refine tA rfl ?_ |refine s2 rfl λ_ a=>?_ |(refine sC rfl (c) ?_;intro _ a) |refine s3 rfl ?_ ?_<;>rintro rfl |refine aU rfl ?_ |refine Aa ?_|(refine aC rfl ?_ ?_<;>rintro⟨⟩)|refine aK ?_|refine aE ?_|refine aB ?_|refine aR ⟨_,rfl,?_⟩)
 all_goals first
  | (show E.o _=E.o _;congr;grind)
  | (exfalso;simp at *;done)
theorem OD(p:AK){t:BE}(ht:AZ t=false):Pure Tryz.prog TB 62 [l3 p t] (.t [(true,[.d (iD 0),.d (.v .nilFunc)]),(false,[.d (bD false)])]):=by
 have b:=Ie (TB:=TB) p t;rw [if_neg (by simp [ht])] at b;refine eG Tryz.func62 rfl (by kernel_rfl) rfl ?_;intro Γ c;(repeat first|refine tA rfl ?_ |refine sP rfl (b) rfl ?_ |refine aU rfl ?_ |refine Aa ?_);refine aB ?_;(repeat first|refine tA rfl ?_ |refine s2 rfl λ_ a=>?_ |refine aU rfl ?_ |refine Aa ?_)
 ((refine aC rfl ?_ ?_<;>rintro⟨⟩);all_goals try (simp at a;done))
 ·(repeat first|refine tA rfl ?_|(refine Af rfl ?_;refine gA rfl ?_;first| refine gS (λ_ _=>AF rfl rfl (by rfl) (by rfl)) ?_) |refine aU rfl ?_ |refine Aa ?_)
  refine aR ⟨_,rfl,rfl⟩
abbrev NS(c:C):C:=.mv 145 [c]
theorem OE[Fa TB](p:AK){t:BE}(ht:AZ t=true)(ok:W->Prop):∃m,Ji t ok m/\AJ Tryz.prog TB 62 0 [] 0 [l3 p t] (λx σ nx=>x=.t [(true,[.d (iD t.al),NS (.ptr 0 14 0 0)]),(false,[.d (bD true)])]/\σ=Kk t m/\nx=5):=by
 obtain⟨m,j,e⟩:=JI (TB:=TB) ht ok;refine⟨m,j,?_⟩;have f:=Ie (TB:=TB) p t;rw [if_pos ht] at f
 have b:Bv t.al=true:=by unfold AZ at ht;simp only [d6] at ht;exact ht.2.2
 unfold Bv at b;simp only [decide_eq_true_eq] at b;refine AJ.AX (AJ.QP (m:=0) (co rfl) Tryz.func62 rfl (by kernel_rfl) (co rfl) ?_);intro Γ a;(repeat first|refine tA rfl ?_ |refine sP rfl (f) rfl ?_ |refine aU rfl ?_ |refine Aa ?_);refine aB ?_;(repeat first|refine tA rfl ?_ |refine s2 rfl λ_ c=>?_ |refine aU rfl ?_ |refine Aa ?_)
 ((refine aC rfl ?_ ?_<;>rintro⟨⟩);all_goals try (simp at c;done))
 ·exfalso;(simp only[oZ] at *;omega)
 ·(repeat first|refine tA rfl ?_ |refine aU rfl ?_ |refine Aa ?_)
  ((refine aC rfl ?_ ?_<;>rintro⟨⟩);all_goals try (simp at c;done))
  refine aK ?_;(repeat first|refine tA rfl ?_ |refine aU rfl ?_);(refine pW rfl ?_ rfl (by rfl);refine BJ [] rfl rfl 0 (e) (by decide) ⟨rfl,by decide,by decide⟩ rfl (by simp[cX,zC,a,AB]) ?_;rintro k g h ⟨rfl,rfl,rfl⟩ _);(repeat first| (refine Af rfl ?_;refine gA rfl ?_;first| refine gS (λ_ _=>lX rfl) ?_));(repeat first|refine tA rfl ?_|(refine Af rfl ?_;refine gA rfl ?_;first| refine gS (λ_ _=>AF rfl rfl (by rfl) (by rfl)) ?_));refine Aa ?_;refine aR ⟨_,rfl,[1,2,3,4,5],.t [(true,[.d (iD t.al),NS (.ptr 0 14 0 0)]),(false,[.d (bD true)])],Kk t m,⟨by intro i hi;omega,by decide⟩,rfl,by (simp[cX,zC,a,AB]),rfl,rfl,rfl⟩
def PW(te:TK):Bool:=if te.kn then AI te.p else AZ ⟨te.s,te.q,te.al⟩
def C1(te:TK):Int:=if te.kn then te.p.al else te.al
noncomputable def ON(te:TK)(w:W):Bool:=if te.kn then LA te.p w else LS ⟨te.s,te.q,te.al⟩ w
def Vi(te:TK)(ok:W->Prop):Prop:=te.kn=false->fX ⟨te.s,te.q,te.al⟩ ok
abbrev jO(al:Int):W->Prop:=λw=>Av (AU al) w/\w.length<=1048576
theorem lD{tabs:List (Nat×Obj)}[Fa ⟨tabs,none⟩]{t:BE}{ok:W->Prop}(ht:AZ t=true)(a:∀w,ok w->jO t.al w)(b:fX t ok){r:Nat}:EW Tryz.prog ⟨tabs,some (PV t ok,r)⟩ (NS (OJ r)) (LS t) ok:=
 ⟨rfl,λd ha hw=>bG (es:=[eT _]) d (by simp [Il,ha]) rfl (cM ht b hw (λc e=>Iq ((a _ hw).1 c e)) (a _ hw).2) rfl⟩
theorem kB{tabs:List (Nat×Obj)}{h:Option (Hid×Nat)}{b:Nat}{vals:List Value}(a:Kl ⟨tabs,none⟩ b vals):Kl ⟨tabs,h⟩ b vals:=⟨a.out⟩
theorem iH{tabs:List (Nat×Obj)}{h:Option (Hid×Nat)}(a:Fa ⟨tabs,none⟩):Fa ⟨tabs,h⟩:=by
 cases a
 constructor<;>(apply kB;assumption)
theorem EW.sub{P:Program}{c:C}{L:W->Bool}{ok ok':W->Prop}(h:EW P TB c L ok)(b:∀w,ok' w->ok w):EW P TB c L ok':=⟨h.Bt,λa ha hw=>h.ask a ha (b _ hw)⟩
end Go.Am
namespace Go.Am
open Go Go.Proofs
set_option linter.unusedVariables false
def Fo(n:Nat)(p:W->Prop):Prop:=∃l:List W,l.length<=n/\∀w,p w->w∈l
theorem Fo.sub{a b:Nat}{p q:W->Prop}(h:Fo a p)(c:∀w,q w->p w)(hb:a<=b):Fo b q:=by
 obtain⟨l,e,d⟩:=h;exact⟨l,by omega,λw hw=>d w (c w hw)⟩
theorem Fo.none{n:Nat}{p:W->Prop}(h:∀w,¬p w):Fo n p:=⟨[],by simp,λw hw=>absurd hw (h w)⟩
theorem Fo.if{n:Nat}{p:W->Prop}{c:Prop}(h:c->Fo n p):Fo n (λw=>c/\p w):=by
 by_cases a:c
 ·exact(h a).sub (λw hw=>hw.2) (io _)
 ·exact .none λw hw=>a hw.1
theorem Nh{U β:Type}(f:U->List β)(b:Nat):∀(l:List U),(∀x∈l,(f x).length<=b)->(l.flatMap f).length<=l.length*b
 | [],_=>by simp
 | x::l,h=>by
  have d:=Nh f b l λy a=>h y (by simp [a]);have c:=h x (by simp);rw [pV,nw,nB,Nat.succ_mul];omega
theorem Fo.ex{U:Type}{n b:Nat}{p:W->Prop}{q:U->W->Prop}(l:List U)(g:l.length<=n)(f:∀x∈l,Fo b (q x))(h:∀w,p w->∃x∈l,q x w):Fo (n*b) p:=by
 classical
 have e:∀x:U,∃k:List W,x∈l->k.length<=b/\∀w,q x w->w∈k:=λx=>by
  by_cases a:x∈l
  ·obtain⟨k,j,i⟩:=f x a;exact⟨k,λ_=>⟨j,i⟩⟩
  ·exact⟨[],λh=>absurd h a⟩
 have d:=λx=>oW (e x);refine⟨l.flatMap λx=>Classical.choose (e x),kw (Nh _ b l λx a=>(d x a).1) (nD b g),λw hw=>?_⟩;obtain⟨x,a,c⟩:=h w hw;exact ot.2 ⟨x,a,(d x a).2 w c⟩
theorem Fo.map{U:Type}{n:Nat}{p:W->Prop}(f:U->W)(l:List U)(b:l.length<=n)(h:∀w,p w->∃x∈l,w=f x):Fo n p:=
 ⟨l.map f,by simpa using b,λw hw=>by obtain⟨x,a,rfl⟩:=h w hw;exact em.2 ⟨x,a,rfl⟩⟩
theorem dR(al:Int):(AU al).length<=6:=by
 unfold AU;rw [f7];exact AD al 6
theorem Xx{al:Int}{b:Nat}{t:Bh}(h:GA al b t):Fo 1764 (MA (AU al) t):=by
 have a:=h.rl;have f:=h.cl;refine Fo.ex (n:=12) (b:=147) (q:=λr v=>∃m:W,(m=[]\/∃l∈AU al,m=[l])/\∃x:W,(x=[]\/x∈t.cols)/\v=r++m++x) t.rows a (λr _=>?_) λw hw=>hw;refine Fo.ex (n:=7) (b:=21) (q:=λm v=>∃x:W,(x=[]\/x∈t.cols)/\v=r++m++x) ([]::(AU al).map λl=>[l]) (by have:=dR al;simp;omega) (λm _=>?_) λw hw=>?_
 ·exact Fo.map (λx=>r++m++x) ([]::t.cols) (by simp;omega) λw ⟨x,c,hw⟩=>⟨x,by simpa using c,hw⟩
 ·obtain⟨m,d,g⟩:=hw
  refine⟨m,?_,g⟩
  rcases d with rfl|⟨l,e,rfl⟩
  ·simp
  ·exact nq _ (em.2 ⟨l,e,rfl⟩)
theorem Pk{L:W->Bool}{ls:List UInt8}:∀(n:Nat) (t:Bh),(Ea L ls n t).length<=n+1
 | 0,t=>by simp [Ea]
 | n + 1,t=>by
  unfold Ea
  cases Bw L ls t with
  | none=>simp
  | some w=>
   dsimp only;split
   ·simp
   ·have:=Pk (L:=L) (ls:=ls) n ⟨t.rows++[w],t.cols⟩
    simp;omega
theorem Xw{L:W->Bool}{al:Int}{b:Nat}{t:Bh}(h:GA al b t):Fo 24696 (λv=>∃y∈Ea L (AU al) 13 t,MA (AU al) y v):=
 Fo.ex (n:=14) (b:=1764) (q:=λy v=>MA (AU al) y v) (Ea L (AU al) 13 t) (Pk 13 t) (λy a=>Xx (h.grow a)) λw hw=>hw
def okB(al:Int)(w:W):Prop:=Av (AU al) w/\w.length<=50000
theorem bt(al:Int):HE (okB al) al:=λw b a=>⟨b,a⟩
theorem WT{U:Type}:∀(l m:List U),l.Nodup->(∀x∈l,x∈m)->l.length<=m.length
 | [],_,_,_=>by simp
 | x :: l,m,d,f=>by
  obtain⟨a,b,rfl⟩:=List.append_of_mem (f x (by simp));rw [oo] at d
  have h:=WT l (a++b) d.2 λy e=>by
   have c:=f y (nq _ e);simp only [f9,lc] at c |-
   rcases c with c|rfl|c
   ·exact .inl c
   ·exact absurd e d.1
   ·exact .inr c
  simp at h |-;omega
theorem dE{t:BE}{n:Nat}{p:W->Prop}{al:Int}(h:Fo n p)(j:n<=20000000)(hb:∀w,p w->okB al w):fX t p:=by
 obtain⟨k,hk,e⟩:=h;intro l c f
 have a:l ⊆ A0 t::(k.filter λw=>w.length<=50000).flatMap λw=>(List.range 50001).map λi=>KS t (A0 t) (w.take i):=λF g=>by
  rcases f F g with rfl|⟨u,v,d,rfl⟩
  ·simp
  ·have b:=(hb _ d).2
   refine nq _ (ot.2 ⟨u++v,nP.2 ⟨e _ d,by simpa using b⟩,em.2 ⟨u.length,jp.2 (by simp at b;omega),by simp⟩⟩)
 have b:=WT _ _ c a;have q:=Nh (λw:W=>(List.range 50001).map λi=>KS t (A0 t) (w.take i)) 50001 (k.filter λw=>w.length<=50000) (λx _=>by simp);have o:(k.filter λw=>w.length<=50000).length<=n:=kw (pp _ _) hk;rw [nB] at b;have m:(k.filter λw=>decide (w.length<=50000)).length*50001<=20000000*50001:=nD _ (by omega);omega
theorem jP{al:Int}{w:W}(h:okB al w):jO al w:=⟨h.1,kw h.2 (by omega)⟩
theorem fx{te:TK}{n:Nat}{p:W->Prop}(h:Fo n p)(b:n<=20000000)(hb:∀w,p w->okB (C1 te) w):(∀w,p w->jO (C1 te) w)/\Vi te p:=by
 refine⟨λw hw=>jP (hb w hw),?_⟩;obtain⟨kn,a,s,q,al⟩:=te
 cases kn with
 | true=>intro h;cases h
 | false=>exact λ_=>dE h b hb
def fH(te:TK)(x:Bh)(v:W):Prop:=YX (C1 te) x/\∃y∈Ea (ON te) (AU (C1 te)) 13 x,MA (AU (C1 te)) y v
theorem dq{te:TK}{x:Bh}:∀v,fH te x v->okB (C1 te) v:=λv ⟨h,y,a,b⟩=>h.bd.lP (bt _) (by omega) y a v b
theorem Xk(te:TK)(x:Bh):Fo 24696 (fH te x):=Fo.if λh=>Xw h.bd
theorem dp(te:TK)(x:Bh):∃ok:W->Prop,(∀w,ok w->jO (C1 te) w)/\Vi te ok/\(YX (C1 te) x->∀y∈Ea (ON te) (AU (C1 te)) 13 x,IK ok (AU (C1 te)) y):=by
 obtain⟨d,c⟩:=fx (te:=te) (Xk te x) (by omega) dq;exact⟨_,d,c,λh y a v b=>⟨h,y,a,b⟩⟩
end Go.Am
namespace Go.Am
open Go Go.Proofs
set_option maxHeartbeats 1000000
set_option maxRecDepth 4000
attribute [local irreducible] AO BS Lex A4 Au Spec
variable {TB:Bi}
theorem QT{tabs:List (Nat×Obj)}[h:Fa ⟨tabs,none⟩]{te:TK}{ok:W->Prop}(b:PW te=true)(a:∀w,ok w->jO (C1 te) w)(g:Vi te ok) :
 (∃c,Pure Tryz.prog ⟨tabs,none⟩ 62 [Xq te] (.t [(true,[.d (iD (C1 te)),c]),(false,[.d (bD true)])])/\EW Tryz.prog ⟨tabs,none⟩ c (ON te) ok/\c.Bt=true)\/
 (∃ (t:BE) (m:Cr),Ji t ok m/\AJ Tryz.prog ⟨tabs,none⟩ 62 0 [] 0 [Xq te] (λx σ nx=>x=.t [(true,[.d (iD (C1 te)),NS (.ptr 0 14 0 0)]),(false,[.d (bD true)])]/\σ=Kk t m/\nx=5)/\
  ∀r,EW Tryz.prog ⟨tabs,some (PV t ok,r)⟩ (NS (OJ r)) (ON te) ok/\Fa ⟨tabs,some (PV t ok,r)⟩):=by
 obtain⟨kn,p,s,q,al⟩:=te
 cases kn with
 | true=>
  have hp:AI p=true:=b;exact .inl ⟨_,IQ hp s q al,(Zq hp s q al true).sub a,rfl⟩
 | false=>
  have ht:AZ ⟨s,q,al⟩=true:=b;have e:fX ⟨s,q,al⟩ ok:=g rfl;obtain⟨m,f,hno⟩:=OE (TB:=⟨tabs,none⟩) p ht ok;exact .inr ⟨⟨s,q,al⟩,m,f,hno,λr=>⟨lD ht a e,iH h⟩⟩
theorem Yu{te:TK}(a:PW te=false):Pure Tryz.prog TB 62 [Xq te] (.t [(true,[.d (iD 0),.d (.v .nilFunc)]),(false,[.d (bD false)])]):=by
 obtain⟨kn,p,s,q,al⟩:=te
 cases kn with
 | true=>exact IP a s q al
 | false=>exact OD p a
theorem cY{te:TK}(a:PW te=true):Bv (C1 te)=true:=by
 obtain⟨kn,p,s,q,al⟩:=te
 cases kn with
 | true=>exact(Al a).1
 | false=>
  have ht:AZ ⟨s,q,al⟩=true:=a;unfold AZ at ht;simp only [d6] at ht;exact ht.2.2
theorem js{L:W->Bool}{ok:W->Prop}{X:Bi->Ctx->C->Prop}{Y:Prop}(h:∀(TB1:Bi) (Γ1:Ctx) (a:C),Γ1.V.nx=0->Fa TB1->EW Tryz.prog TB1 a L ok->X TB1 Γ1 a)
 (hk:(∀(TB1:Bi) (Γ1:Ctx) (a:C),Γ1.V.nx=0->Fa TB1->EW Tryz.prog TB1 a L ok->X TB1 Γ1 a)->Y):Y:=hk h
end Go.Am
