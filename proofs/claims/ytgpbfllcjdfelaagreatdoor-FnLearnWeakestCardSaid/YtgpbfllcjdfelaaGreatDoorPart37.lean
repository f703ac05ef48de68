/-
  The reference's automaton of the sets of a task: walked.
-/
import Derived.Test.YtgpbfllcjdfelaaGreatDoorPart36
import Derived.Test.YtgpbfllcjdfelaaGreatDoorPart32
set_option linter.all false
namespace Go.Am
open Go Go.Proofs
set_option maxHeartbeats 1000000
set_option maxRecDepth 4000
attribute [local irreducible] AO BS Lex A4 Au Spec
variable {TB:Bi}
def mw(al:Int):List Int:=(Ac al).map λ_=>1
def OI(al:Int):List (List Int)->List (List Int)
 | []=>[]
 | r::rows=>r::mw al::rows
def ND:List (List Int)->List Bool
 | []=>[]
 | r::rows=>true::false::rows.map λ_=>true
theorem eY{al:Int}{rows:List (List Int)}(h:rows≠[]):Hm al rows=⟨al,OI al rows,ND rows⟩:=by
 match rows,h with
 | r::rows,_=>rfl
theorem YD{al:Int}{rows:List (List Int)}{r:List Int}(h:rows≠[]):OI al (rows++[r])=OI al rows++[r]/\ND (rows++[r])=ND rows++[true]:=by
 match rows,h with
 | x::rows,_=>exact⟨rfl,by simp [ND]⟩
theorem eF{t:BE}{F G:PS}(d:CE t F)(c:CE t G)(h:FJ t.q.nx.length F=FJ t.q.nx.length G):F=G:=by
 funext p
 rcases nh p t.q.nx.length with a|a
 ·have b:=Wx (F:=F) a
  rw [h,Wx a] at b
  injection b with b
  omega
 ·rw [d.z p a,c.z p a]
noncomputable def US(t:BE):Option AK:=if Eo t (A0 t)=true then some (Kf t.al) else (GC 40 (IH t) (Ac t.al) 41 [A0 t] []).map λp=>Hm t.al p.2
theorem az{t:BE}(ht:AZ t=true):Pure Tryz.prog TB 115 [FU t] (Se (US t)):=by
 have hlt:=CU (TB:=TB) t.al;have hll:(Ac t.al).length<=6:=AD t.al 6;have hst:=Uw (TB:=TB) ht;have R:=λF=>ay (TB:=TB) ht (F:=F);have hmv:=λF (hF:CE t F) l V=>XP (TB:=TB) ht hF (l:=l) V;have hr0:=Sx (TB:=TB) t.al 0;have hr1:Pure Tryz.prog TB 188 [eI .i64 t.al,eI .i64 1] (AH (mw t.al)):=Sx (TB:=TB) t.al 1
 have hlm:∀l∈Ac t.al,0<=l/\l < 6:=λl V=>by have:=Ai V;omega
 unfold US;generalize hls:Ac t.al=ls at *;refine eG Tryz.func115 rfl (by kernel_rfl) rfl ?_;intro Γ n;(repeat first |refine sN rfl ?_ |((first|refine sA rfl ?_ ?_|refine s4 rfl ‹_› rfl ?_ ?_);first|exact tI|omega|simp only[oZ] at *;omega) |refine s2 rfl λ_ a=>?_ |refine s3 rfl ?_ ?_<;>rintro rfl |refine aU rfl ?_ |refine Aa ?_);(refine pW rfl ?_ rfl (by rfl);refine Fj 1 1 53 2 1 4 rfl rfl (by decide) rfl rfl (by rfl) (by rfl) ?_);(repeat first |refine sN rfl ?_ |((first|refine sX rfl ?_ ?_|refine s4 rfl ‹_› rfl ?_ ?_);first|exact tI|omega|simp only[oZ] at *;omega) |refine s2 rfl λ_ a=>?_ |refine sP rfl (hlt) rfl ?_|refine sP rfl (hst) rfl ?_ |refine s3 rfl ?_ ?_<;>rintro rfl |refine aU rfl ?_ |refine Aa ?_);(refine pW rfl ?_ rfl (by rfl);refine A9 rfl rfl rfl rfl (by simp [eC]) (by rfl) (by rfl) (by rfl) (by rfl) ?_);(repeat first |refine sN rfl ?_ |((first|refine sA rfl ?_ ?_|refine s4 rfl ‹_› rfl ?_ ?_);first|exact tI|omega|simp only[oZ] at *;omega) |refine s2 rfl λ_ a=>?_ |refine s3 rfl ?_ ?_<;>rintro rfl |refine aU rfl ?_ |refine Aa ?_);refine rG (Ha []) (by kernel_rfl) ?_;have N:=R (A0 t);cases hb:Eo t (A0 t)
 ·rw [hb] at N
  rw [if_neg (by decide)];(repeat first |refine sN rfl ?_ |((first|refine sA rfl ?_ ?_|refine s4 rfl ‹_› rfl ?_ ?_);first|exact tI|omega|simp only[oZ] at *;omega) |refine s2 rfl λ_ a=>?_ |refine sP rfl (N) rfl ?_ |refine s3 rfl ?_ ?_<;>rintro rfl |refine aU rfl ?_ |refine Aa ?_)
  ((refine aC rfl ?_ ?_<;>rintro⟨⟩);all_goals try (simp at a;done))
  refine aK ?_;(repeat first |refine sN rfl ?_ |((first|refine sA rfl ?_ ?_|refine s4 rfl ‹_› rfl ?_ ?_);first|exact tI|omega|simp only[oZ] at *;omega) |refine s2 rfl λ_ a=>?_ |refine s3 rfl ?_ ?_<;>rintro rfl |refine aU rfl ?_ |refine Aa ?_);generalize hA0:GC 40 (IH t) ls 41 [A0 t] []=A;refine aB ?_;refine aL (U:={z:List PS×List (List Int) // GC 40 (IH t) ls (41 - z.2.length) z.1 z.2=A/\z.2.length<=z.1.length/\z.1.length<=40/\1<=z.1.length/\∀F∈z.1,CE t F}) [1,5] [] rfl rfl (λs=>[(2,.o (.ptr 0 3 0 0)),(4,.o (.ptr 3 3 0 0)),(6,.o (.arr 4 1 0 s.1.1.length)),(7,eI .i64 s.1.2.length)]) (λs=>[(0,.cells 29 3 [[.d (iD 0),.d (.l []),.d (.l [])]]),(1,.cells 53 1 ((OI t.al s.1.2).map λr=>[.d (Da r)])),(2,.cells 4 1 ((ND s.1.2).map AP)),(3,.cells 29 3 [[.d (iD t.al),.arr 1 1 0 (OI t.al s.1.2).length,.arr 2 1 0 (ND s.1.2).length]]),(4,.cells 53 1 (s.1.1.map λF=>[.d (Da (FJ t.q.nx.length F))]))]) 5 (λs=>41 - s.1.2.length) (⟨⟨[A0 t],[]⟩,hA0,by simp,by simp,by simp,by simpa using KY ht⟩) n rfl (by ((repeat' first|exact tI|rfl|refine And.intro ?_ ?_)<;>(simp[cX,zC,n,eC,Bb,Ae,OI,ND]<;>rfl))) ?_;rintro⟨⟨nd,rows⟩,y,Z,hnl,hn1,L⟩;(try dsimp only[cA,cB]);have y:GC 40 (IH t) ls (41 - rows.length) nd rows=A:=y;have Z:rows.length<=nd.length:=Z;have hnl:nd.length<=40:=hnl;have L:∀F∈nd,CE t F:=L
  have hNl:(OI t.al rows).length<=rows.length+1/\(ND rows).length<=rows.length+1:=by cases rows<;>simp [OI,ND]
  by_cases I:rows.length < nd.length
  ·obtain⟨F,hF⟩:=get_some I
   have hFo:=L F (ce hF)
   obtain⟨k,hk⟩:∃k,41 - rows.length=k+1:=⟨41 - rows.length - 1,by omega⟩
   rw [hk] at y;simp only [GC,hF] at y;generalize hB0:HY (IH t) F nd [] ls=B at y;(repeat first |refine sN rfl ?_ |((first|refine sA rfl ?_ ?_|refine s4 rfl ‹_› rfl ?_ ?_);first|exact tI|omega|simp only[oZ] at *;omega) |refine s2 rfl λ_ a=>?_ |refine s3 rfl ?_ ?_<;>rintro rfl |refine aU rfl ?_ |refine Aa ?_)
   ((refine aC rfl ?_ ?_<;>rintro⟨⟩);all_goals try(exfalso;first|omega|simp only[oZ] at *;omega))
   refine aK ?_;refine aS (aB ?_);(repeat first |refine sN rfl ?_ |((first|refine sX rfl ?_ ?_|refine s4 rfl ‹_› rfl ?_ ?_);first|exact tI|omega|simp only[oZ] at *;omega) |refine s2 rfl λ_ a=>?_ |refine s3 rfl ?_ ?_<;>rintro rfl |refine aU rfl ?_ |refine Aa ?_);(refine pW rfl ?_ rfl (by rfl);refine A9 rfl rfl rfl rfl (by simp) (by rfl) (by rfl) (by rfl) (by rfl) ?_);(repeat first |refine sN rfl ?_ |((first|refine sA rfl ?_ ?_|refine s4 rfl ‹_› rfl ?_ ?_);first|exact tI|omega|simp only[oZ] at *;omega) |refine s2 rfl λ_ a=>?_ |refine s3 rfl ?_ ?_<;>rintro rfl |refine aU rfl ?_ |refine Aa ?_);refine aB ?_;refine aL (U:={z:(List PS×List Int)×Nat // z.2<=ls.length/\HY (IH t) F z.1.1 z.1.2 (ls.drop z.2)=B/\z.1.2.length=z.2/\z.1.1.length<=nd.length+z.2/\(∀F∈z.1.1,CE t F)/\z.1.1[rows.length]? = some F}) [1,5,7] [0,1,2,3] rfl rfl (λs=>[(2,.o (.ptr 0 3 0 0)),(4,.o (.ptr 3 3 0 0)),(6,.o (.arr 4 1 0 s.1.1.1.length)),(8,.o (.arr 5 1 0 s.1.2)),(9,eI .i64 s.1.2)]) (λs=>[(4,.cells 53 1 (s.1.1.1.map λF=>[.d (Da (FJ t.q.nx.length F))])),(5,.cells 3 1 (s.1.1.2.map Az))]) 6 (λs=>ls.length - s.1.2) (⟨⟨⟨nd,[]⟩,0⟩,by simp,hB0,rfl,io _,L,hF⟩) n rfl (by ((repeat' first|exact tI|rfl|refine And.intro ?_ ?_)<;>(simp[cX,zC,n,eC,Bb,Ae]<;>rfl))) ?_;rintro⟨⟨⟨b,row⟩,j⟩,hj,u,v,hn2,f,p⟩;(try dsimp only[cA,cB]);have hj:j<=ls.length:=hj;have u:HY (IH t) F b row (ls.drop j)=B:=u;have v:row.length=j:=v;have hn2:b.length<=nd.length+j:=hn2;have f:∀F∈b,CE t F:=f;have p:b[rows.length]? = some F:=p;have hlen0:rows.length < b.length:=(am.1 p).1;by_cases hjl:j < ls.length
   ·obtain⟨l,V⟩:=get_some hjl
    have hl':=get_map (g:=Br) V;have hlb:=hlm l (ce V);have T:=hmv F hFo l hlb;have K:=R (BR t l F);have hGo:=Nn ht hlb hFo
    have hF':(b.map λF=>[C.d (Da (FJ t.q.nx.length F))])[0+((rows.length:Nat):Int).toNat]? = some [C.d (Da (FJ t.q.nx.length F))]:=by rw [ms,f6];simp [p]
    rw [BF V] at u;simp only [HY] at u
    have X:∀m:List PS,(∀F∈m,CE t F)->Pure Tryz.prog TB 190 [Er (m.map (FJ t.q.nx.length)),AH (FJ t.q.nx.length (BR t l F))] (eI .i64 (if BR t l F∈m then (m.idxOf (BR t l F):Int) else -1)):=λm hm=>by
     have Q:∀x∈m.map (FJ t.q.nx.length),x.length=(FJ t.q.nx.length (BR t l F)).length:=λx hx=>by
      obtain⟨G,_,rfl⟩:=em.1 hx;simp
     have hat:∀k:Nat,(m.map (FJ t.q.nx.length))[k]? = some (FJ t.q.nx.length (BR t l F))->m[k]? = some (BR t l F):=λk hk=>by
      rw [d9] at hk;obtain⟨H,hH,he⟩:=d7.1 hk;rw [hH,eF (hm H (ce hH)) hGo he]
     by_cases i:BR t l F∈m
     ·rw [if_pos i]
      refine Pu Q (λhn=>absurd (em.2 ⟨_,i,rfl⟩) hn) λk hk ht2=>?_;have hk:=hat k hk;have hnt:BR t l F∉m.take k:=λhc=>ht2 (by rw [<-p9];exact em.2 ⟨_,hc,rfl⟩)
      have e:m=m.take k++BR t l F::m.drop (k+1):=by rw [<-BF hk,nJ]
      have hkl:=(am.1 hk).1
      have hi:m.idxOf (BR t l F)=k:=by
       rw [e,nL,if_neg hnt,ou,ol];omega
      rw [hi]
     ·rw [if_neg i]
      exact Pu Q (λ_=>rfl) λk hk _=>absurd (ce (hat k hk)) i
    (repeat first |refine sN rfl ?_ |((first|refine sA rfl ?_ ?_|refine s4 rfl ‹_› rfl ?_ ?_);first|exact tI|omega|simp only[oZ] at *;omega) |refine s2 rfl λ_ a=>?_ |refine s3 rfl ?_ ?_<;>rintro rfl |refine aU rfl ?_ |refine Aa ?_)
    ((refine aC rfl ?_ ?_<;>rintro⟨⟩);all_goals try(exfalso;first|omega|simp only[oZ] at *;omega))
    refine aK ?_;refine aS (aB ?_);(repeat first |refine sN rfl ?_ |((first|refine sA rfl ?_ ?_|refine s4 rfl ‹_› rfl ?_ ?_);first|exact tI|omega|simp only[oZ] at *;omega) |refine s2 rfl λ_ a=>?_ |refine s3 rfl ?_ ?_<;>rintro rfl |refine aU rfl ?_ |refine Aa ?_);refine rG (Ha []) (by kernel_rfl) ?_;cases M:Eo t (BR t l F)
    ·rw [M] at K
     have S:IH t F l=some (BR t l F):=by unfold IH;rw [if_neg (by rw [M];decide)]
     rw [S] at u;generalize BR t l F=G at *;by_cases i:G∈b
     ·have w:=X b f
      rw [if_pos i] at w;simp only [EE,if_pos i,EF] at u;(repeat first |refine sN rfl ?_ |((first|refine sA rfl ?_ ?_|refine s4 rfl ‹_› rfl ?_ ?_);first|exact tI|omega|simp only[oZ] at *;omega) |refine s2 rfl λ_ a=>?_ |refine sP rfl (T) rfl ?_|refine sP rfl (K) rfl ?_ |refine s3 rfl ?_ ?_<;>rintro rfl |refine aU rfl ?_ |refine Aa ?_)
      ((refine aC rfl ?_ ?_<;>rintro⟨⟩);all_goals try (simp at a;done))
      (repeat first |refine sN rfl ?_ |((first|refine sA rfl ?_ ?_|refine s4 rfl ‹_› rfl ?_ ?_);first|exact tI|omega|simp only[oZ] at *;omega) |refine s2 rfl λ_ a=>?_|(refine Af rfl ?_;refine gA rfl ?_;first|refine gQ (AO.XV [(67,Er (b.map (FJ t.q.nx.length))),(68,AH (FJ t.q.nx.length G))] ⟨⟨_,rfl,.o (.full rfl (by simp [d4]) (by simp))⟩,⟨_,rfl,.Bn rfl⟩,trivial⟩ (λΓ'=>A6 rfl rfl rfl w rfl) rfl) rfl ?_) |refine s3 rfl ?_ ?_<;>rintro rfl |refine aU rfl ?_ |refine Aa ?_)
      ((refine aC rfl ?_ ?_<;>rintro⟨⟩);all_goals try(exfalso;first|omega|simp only[oZ] at *;omega))
      refine aK ?_;(repeat first |refine sN rfl ?_ |((first|refine sA rfl ?_ ?_|refine s4 rfl ‹_› rfl ?_ ?_);first|exact tI|omega|simp only[oZ] at *;omega) |refine s2 rfl λ_ a=>?_|(refine Af rfl ?_;refine gA rfl ?_;first|refine gQ (AO.XV [(75,Er (b.map (FJ t.q.nx.length))),(76,AH (FJ t.q.nx.length G))] ⟨⟨_,rfl,.o (.full rfl (by simp [d4]) (by simp))⟩,⟨_,rfl,.Bn rfl⟩,trivial⟩ (λΓ'=>A6 rfl rfl rfl w rfl) rfl) rfl ?_) |refine s3 rfl ?_ ?_<;>rintro rfl |refine aU rfl ?_ |refine Aa ?_);have hil:=mZ.2 i;by_cases Y:b.idxOf G=0
      ·rw [if_pos Y] at u
       ((refine aC rfl ?_ ?_<;>rintro⟨⟩);all_goals try(exfalso;first|omega|simp only[oZ] at *;omega))
       refine aK ?_;(repeat first |refine sN rfl ?_ |((first|refine sA rfl ?_ ?_|refine s4 rfl ‹_› rfl ?_ ?_);first|exact tI|omega|simp only[oZ] at *;omega) |refine s2 rfl λ_ a=>?_ |refine s3 rfl ?_ ?_<;>rintro rfl |refine aU rfl ?_ |refine Aa ?_);(refine pW rfl ?_ rfl (by rfl);refine Aj rfl rfl rfl (by first|(simp;done)|(simp;(first|omega|simp only[oZ] at *;omega))) rfl (by intro r c;simp at c;subst c;rfl) (by rfl) (co rfl) (by simp;omega) ?_);(repeat first |refine sN rfl ?_ |((first|refine sA rfl ?_ ?_|refine s4 rfl ‹_› rfl ?_ ?_);first|exact tI|omega|simp only[oZ] at *;omega) |refine s2 rfl λ_ a=>?_ |refine s3 rfl ?_ ?_<;>rintro rfl |refine aU rfl ?_ |refine Aa ?_);refine⟨⟨⟨⟨b,row++[0]⟩,j+1⟩,by dsimp only;omega,u,by simp [v],by dsimp only;omega,f,p⟩,by dsimp only;(first|omega|simp only[oZ] at *;omega),[0,1,2,3,4,6],?_⟩;simp[cX,zC,n,Y]
      ·rw [if_neg Y] at u
       ((refine aC rfl ?_ ?_<;>rintro⟨⟩);all_goals try(exfalso;first|omega|simp only[oZ] at *;omega))
       (repeat first |refine sN rfl ?_ |((first|refine sA rfl ?_ ?_|refine s4 rfl ‹_› rfl ?_ ?_);first|exact tI|omega|simp only[oZ] at *;omega) |refine s2 rfl λ_ a=>?_ |refine s3 rfl ?_ ?_<;>rintro rfl |refine aU rfl ?_ |refine Aa ?_);(refine pW rfl ?_ rfl (by rfl);refine Aj rfl rfl rfl (by first|(simp;done)|(simp;(first|omega|simp only[oZ] at *;omega))) rfl (by intro r c;simp at c;subst c;rfl) (by rfl) (co rfl) (by simp;omega) ?_);(repeat first |refine sN rfl ?_ |((first|refine sA rfl ?_ ?_|refine s4 rfl ‹_› rfl ?_ ?_);first|exact tI|omega|simp only[oZ] at *;omega) |refine s2 rfl λ_ a=>?_ |refine s3 rfl ?_ ?_<;>rintro rfl |refine aU rfl ?_ |refine Aa ?_);refine⟨⟨⟨⟨b,row++[((b.idxOf G+1:Nat):Int)]⟩,j+1⟩,by dsimp only;omega,u,by simp [v],by dsimp only;omega,f,p⟩,by dsimp only;(first|omega|simp only[oZ] at *;omega),[0,1,2,3,4,6],?_⟩;simp[cX,zC,n]
     ·have w:=X b f
      rw [if_neg i] at w
      have P:∀F∈b++[G],CE t F:=λH hH=>by
       rcases f9.1 hH with h|h
       ·exact f H h
       ·simp at h;subst h;exact hGo
      have hf2:=X (b++[G]) P
      have hix:(b++[G]).idxOf G=b.length:=by rw [nL,if_neg i,ou];omega
      have J:=(am.1 p).1;rw [if_pos (by simp),hix] at hf2;simp only [EE,if_neg i,EF,hix] at u;rw [if_neg (by omega)] at u;(repeat first |refine sN rfl ?_ |((first|refine sA rfl ?_ ?_|refine s4 rfl ‹_› rfl ?_ ?_);first|exact tI|omega|simp only[oZ] at *;omega) |refine s2 rfl λ_ a=>?_ |refine sP rfl (T) rfl ?_|refine sP rfl (K) rfl ?_ |refine s3 rfl ?_ ?_<;>rintro rfl |refine aU rfl ?_ |refine Aa ?_)
      ((refine aC rfl ?_ ?_<;>rintro⟨⟩);all_goals try (simp at a;done))
      (repeat first |refine sN rfl ?_ |((first|refine sA rfl ?_ ?_|refine s4 rfl ‹_› rfl ?_ ?_);first|exact tI|omega|simp only[oZ] at *;omega) |refine s2 rfl λ_ a=>?_|(refine Af rfl ?_;refine gA rfl ?_;first|refine gQ (AO.XV [(67,Er (b.map (FJ t.q.nx.length))),(68,AH (FJ t.q.nx.length G))] ⟨⟨_,rfl,.o (.full rfl (by simp [d4]) (by simp))⟩,⟨_,rfl,.Bn rfl⟩,trivial⟩ (λΓ'=>A6 rfl rfl rfl w rfl) rfl) rfl ?_) |refine s3 rfl ?_ ?_<;>rintro rfl |refine aU rfl ?_ |refine Aa ?_)
      ((refine aC rfl ?_ ?_<;>rintro⟨⟩);all_goals try(exfalso;first|omega|simp only[oZ] at *;omega))
      (repeat first |refine sN rfl ?_ |((first|refine sA rfl ?_ ?_|refine s4 rfl ‹_› rfl ?_ ?_);first|exact tI|omega|simp only[oZ] at *;omega) |refine s2 rfl λ_ a=>?_ |refine s3 rfl ?_ ?_<;>rintro rfl |refine aU rfl ?_ |refine Aa ?_);(refine pW rfl ?_ rfl (by rfl);refine Aj rfl rfl rfl (by first|(simp;done)|(simp;(first|omega|simp only[oZ] at *;omega))) rfl (by intro r c;simp at c;subst c;rfl) (by rfl) (co rfl) (by simp;omega) ?_);(repeat first |refine sN rfl ?_ |((first|refine sA rfl ?_ ?_|refine s4 rfl ‹_› rfl ?_ ?_);first|exact tI|omega|simp only[oZ] at *;omega) |refine s2 rfl λ_ a=>?_|(refine Af rfl ?_;refine gA rfl ?_;first|refine gQ (AO.XV [(75,Er ((b++[G]).map (FJ t.q.nx.length))),(76,AH (FJ t.q.nx.length G))] ⟨⟨_,rfl,.o (.full rfl (by simp [d4]) (by simp))⟩,⟨_,rfl,.Bn rfl⟩,trivial⟩ (λΓ'=>A6 rfl rfl rfl hf2 rfl) rfl) rfl ?_) |refine s3 rfl ?_ ?_<;>rintro rfl |refine aU rfl ?_ |refine Aa ?_)
      ((refine aC rfl ?_ ?_<;>rintro⟨⟩);all_goals try(exfalso;first|omega|simp only[oZ] at *;omega))
      (repeat first |refine sN rfl ?_ |((first|refine sA rfl ?_ ?_|refine s4 rfl ‹_› rfl ?_ ?_);first|exact tI|omega|simp only[oZ] at *;omega) |refine s2 rfl λ_ a=>?_ |refine s3 rfl ?_ ?_<;>rintro rfl |refine aU rfl ?_ |refine Aa ?_);(refine pW rfl ?_ rfl (by rfl);refine Aj rfl rfl rfl (by first|(simp;done)|(simp;(first|omega|simp only[oZ] at *;omega))) rfl (by intro r c;simp at c;subst c;rfl) (by rfl) (co rfl) (by simp;omega) ?_);(repeat first |refine sN rfl ?_ |((first|refine sA rfl ?_ ?_|refine s4 rfl ‹_› rfl ?_ ?_);first|exact tI|omega|simp only[oZ] at *;omega) |refine s2 rfl λ_ a=>?_ |refine s3 rfl ?_ ?_<;>rintro rfl |refine aU rfl ?_ |refine Aa ?_);refine⟨⟨⟨⟨b++[G],row++[((b.length+1:Nat):Int)]⟩,j+1⟩,by dsimp only;omega,u,by simp [v],by dsimp only;rw [nw];simp;omega,P,by rw [d8 J];exact p⟩,by dsimp only;(first|omega|simp only[oZ] at *;omega),[0,1,2,3,6,7],?_⟩;simp[cX,zC,n]
    ·rw [M] at K
     have S:IH t F l=none:=by unfold IH;rw [if_pos M]
     rw [S] at u;simp only [EE,EF] at u;(repeat first |refine sN rfl ?_ |((first|refine sA rfl ?_ ?_|refine s4 rfl ‹_› rfl ?_ ?_);first|exact tI|omega|simp only[oZ] at *;omega) |refine s2 rfl λ_ a=>?_ |refine sP rfl (T) rfl ?_|refine sP rfl (K) rfl ?_ |refine s3 rfl ?_ ?_<;>rintro rfl |refine aU rfl ?_ |refine Aa ?_)
     ((refine aC rfl ?_ ?_<;>rintro⟨⟩);all_goals try (simp at a;done))
     refine aK ?_;(repeat first |refine sN rfl ?_ |((first|refine sA rfl ?_ ?_|refine s4 rfl ‹_› rfl ?_ ?_);first|exact tI|omega|simp only[oZ] at *;omega) |refine s2 rfl λ_ a=>?_ |refine s3 rfl ?_ ?_<;>rintro rfl |refine aU rfl ?_ |refine Aa ?_);(refine pW rfl ?_ rfl (by rfl);refine Aj rfl rfl rfl (by first|(simp;done)|(simp;(first|omega|simp only[oZ] at *;omega))) rfl (by intro r c;simp at c;subst c;rfl) (by rfl) (co rfl) (by simp;omega) ?_);(repeat first |refine sN rfl ?_ |((first|refine sA rfl ?_ ?_|refine s4 rfl ‹_› rfl ?_ ?_);first|exact tI|omega|simp only[oZ] at *;omega) |refine s2 rfl λ_ a=>?_ |refine s3 rfl ?_ ?_<;>rintro rfl |refine aU rfl ?_ |refine Aa ?_);refine⟨⟨⟨⟨b,row++[1]⟩,j+1⟩,by dsimp only;omega,u,by simp [v],by dsimp only;omega,f,p⟩,by dsimp only;(first|omega|simp only[oZ] at *;omega),[0,1,2,3,4,6],?_⟩;simp[cX,zC,n]
   ·obtain rfl:j=ls.length:=by omega
    rw [oR] at u;simp only [HY] at u;subst u;have y:(if 40 < b.length then none else GC 40 (IH t) ls k b (rows++[row]))=A:=y;(repeat first |refine sN rfl ?_ |((first|refine sA rfl ?_ ?_|refine s4 rfl ‹_› rfl ?_ ?_);first|exact tI|omega|simp only[oZ] at *;omega) |refine s2 rfl λ_ a=>?_ |refine s3 rfl ?_ ?_<;>rintro rfl |refine aU rfl ?_ |refine Aa ?_)
    ((refine aC rfl ?_ ?_<;>rintro⟨⟩);all_goals try(exfalso;first|omega|simp only[oZ] at *;omega))
    refine aE ?_;by_cases hfl:40 < b.length
    ·rw [if_pos hfl] at y
     subst y;(repeat first |refine sN rfl ?_ |((first|refine sA rfl ?_ ?_|refine s4 rfl ‹_› rfl ?_ ?_);first|exact tI|omega|simp only[oZ] at *;omega) |refine s2 rfl λ_ a=>?_ |refine s3 rfl ?_ ?_<;>rintro rfl |refine aU rfl ?_ |refine Aa ?_)
     ((refine aC rfl ?_ ?_<;>rintro⟨⟩);all_goals try(exfalso;first|omega|simp only[oZ] at *;omega))
     (repeat first |refine sN rfl ?_ |((first|refine sA rfl ?_ ?_|refine s4 rfl ‹_› rfl ?_ ?_);first|exact tI|omega|simp only[oZ] at *;omega) |refine s2 rfl λ_ a=>?_|(refine Af rfl ?_;refine gA rfl ?_;first|refine gS (λ_ _=>AF rfl rfl (by rfl) (by rfl)) ?_) |refine s3 rfl ?_ ?_<;>rintro rfl |refine aU rfl ?_ |refine Aa ?_);(subst_vars;exact aR ⟨_,rfl,rfl⟩)
    ·rw [if_neg hfl] at y
     (repeat first |refine sN rfl ?_ |((first|refine sA rfl ?_ ?_|refine s4 rfl ‹_› rfl ?_ ?_);first|exact tI|omega|simp only[oZ] at *;omega) |refine s2 rfl λ_ a=>?_ |refine s3 rfl ?_ ?_<;>rintro rfl |refine aU rfl ?_ |refine Aa ?_)
     ((refine aC rfl ?_ ?_<;>rintro⟨⟩);all_goals try(exfalso;first|omega|simp only[oZ] at *;omega))
     refine aK ?_;refine Au.C9 [5] [1,2,4,5,6,7] rfl [(8,AH row)] ⟨⟨_,rfl,.o (.full (by simp) rfl (by simp [d4]) (by simpa using v))⟩,trivial⟩ ?_;(try dsimp only[cA,cB]);(repeat first |refine sN rfl ?_ |((first|refine sA rfl ?_ ?_|refine s4 rfl ‹_› rfl ?_ ?_);first|exact tI|omega|simp only[oZ] at *;omega) |refine s2 rfl λ_ a=>?_ |refine s3 rfl ?_ ?_<;>rintro rfl |refine aU rfl ?_ |refine Aa ?_);(refine pW rfl ?_ rfl (by rfl);refine Aj rfl rfl rfl (by first|(simp;done)|(simp;(first|omega|simp only[oZ] at *;omega))) rfl (by intro r c;simp at c;subst c;rfl) (by rfl) (co rfl) (by simp;omega) ?_);(repeat first |refine sN rfl ?_ |((first|refine sA rfl ?_ ?_|refine s4 rfl ‹_› rfl ?_ ?_);first|exact tI|omega|simp only[oZ] at *;omega) |refine s2 rfl λ_ a=>?_ |refine s3 rfl ?_ ?_<;>rintro rfl |refine aU rfl ?_ |refine Aa ?_);(refine pW rfl ?_ rfl (by rfl);refine Aj rfl rfl rfl (by first|(simp;done)|(simp;(first|omega|simp only[oZ] at *;omega))) rfl (by intro r c;simp at c;subst c;rfl) (by rfl) (co rfl) (by simp;omega) ?_);(repeat first |refine sN rfl ?_ |((first|refine sA rfl ?_ ?_|refine s4 rfl ‹_› rfl ?_ ?_);first|exact tI|omega|simp only[oZ] at *;omega) |refine s2 rfl λ_ a=>?_ |refine s3 rfl ?_ ?_<;>rintro rfl |refine aU rfl ?_ |refine Aa ?_)
     have hA3:GC 40 (IH t) ls (41 - (rows++[row]).length) b (rows++[row])=A:=by
      rw [nw,pv,show 41 - (rows.length+1)=k by omega];exact y
     have J:rows.length < b.length:=(am.1 p).1;by_cases Y:rows=[]
     ·subst Y
      ((refine aC rfl ?_ ?_<;>rintro⟨⟩);all_goals try(exfalso;first|omega|simp only[oZ] at *;omega))
      (repeat first |refine sN rfl ?_ |((first|refine sA rfl ?_ ?_|refine s4 rfl ‹_› rfl ?_ ?_);first|exact tI|omega|simp only[oZ] at *;omega) |refine s2 rfl λ_ a=>?_ |refine s3 rfl ?_ ?_<;>rintro rfl |refine aU rfl ?_ |refine Aa ?_);refine rG (RH [(1,13),(6,1),(8,1)]) (by kernel_rfl) ?_;(repeat first |refine sN rfl ?_ |((first|refine sA rfl ?_ ?_|refine s4 rfl ‹_› rfl ?_ ?_);first|exact tI|omega|simp only[oZ] at *;omega) |refine s2 rfl λ_ a=>?_ |refine sP rfl (hr1) rfl ?_ |refine s3 rfl ?_ ?_<;>rintro rfl |refine aU rfl ?_ |refine Aa ?_);(refine pW rfl ?_ rfl (by rfl);refine Aj rfl rfl rfl (by first|(simp;done)|(simp;(first|omega|simp only[oZ] at *;omega))) rfl (by intro r c;simp at c;subst c;rfl) (by rfl) (co rfl) (by simp;omega) ?_);(repeat first |refine sN rfl ?_ |((first|refine sA rfl ?_ ?_|refine s4 rfl ‹_› rfl ?_ ?_);first|exact tI|omega|simp only[oZ] at *;omega) |refine s2 rfl λ_ a=>?_ |refine s3 rfl ?_ ?_<;>rintro rfl |refine aU rfl ?_ |refine Aa ?_);(refine pW rfl ?_ rfl (by rfl);refine Aj rfl rfl rfl (by first|(simp;done)|(simp;(first|omega|simp only[oZ] at *;omega))) rfl (by intro r c;simp at c;subst c;rfl) (by rfl) (co rfl) (by simp;omega) ?_);(repeat first |refine sN rfl ?_ |((first|refine sA rfl ?_ ?_|refine s4 rfl ‹_› rfl ?_ ?_);first|exact tI|omega|simp only[oZ] at *;omega) |refine s2 rfl λ_ a=>?_ |refine s3 rfl ?_ ?_<;>rintro rfl |refine aU rfl ?_ |refine Aa ?_);refine⟨⟨⟨b,[row]⟩,hA3,by simp;omega,by dsimp only;omega,by dsimp only;omega,f⟩,by dsimp only;(first|omega|simp only[oZ] at *;omega),[0,8,9,3,4],?_⟩;simp[cX,zC,n,OI,ND,eC,Bb,Ae]
     ·obtain⟨p1,p2⟩:=YD (al:=t.al) (r:=row) Y
      have hrp:0 < rows.length:=pE.2 Y
      ((refine aC rfl ?_ ?_<;>rintro⟨⟩);all_goals try(exfalso;first|omega|simp only[oZ] at *;omega))
      refine aK ?_;(repeat first |refine sN rfl ?_ |((first|refine sA rfl ?_ ?_|refine s4 rfl ‹_› rfl ?_ ?_);first|exact tI|omega|simp only[oZ] at *;omega) |refine s2 rfl λ_ a=>?_ |refine s3 rfl ?_ ?_<;>rintro rfl |refine aU rfl ?_ |refine Aa ?_);refine⟨⟨⟨b,rows++[row]⟩,hA3,by simp;omega,by dsimp only;omega,by dsimp only;omega,f⟩,by dsimp only;(first|omega|simp only[oZ] at *;omega),[0,6,7,3,4],?_⟩;simp[cX,zC,n,p1,p2,eC,Bb,Ae]
  ·have hA2:A=some (nd,rows):=by
    rw [<-y]
    cases 41 - rows.length with
    | zero=>rfl
    | succ k=>simp only [GC];rw [i8 (by omega)]
   subst hA2
   have hne:rows≠[]:=λh=>by subst h;simp at I;subst I;simp at hn1
   (repeat first |refine sN rfl ?_ |((first|refine sA rfl ?_ ?_|refine s4 rfl ‹_› rfl ?_ ?_);first|exact tI|omega|simp only[oZ] at *;omega) |refine s2 rfl λ_ a=>?_ |refine s3 rfl ?_ ?_<;>rintro rfl |refine aU rfl ?_ |refine Aa ?_)
   ((refine aC rfl ?_ ?_<;>rintro⟨⟩);all_goals try(exfalso;first|omega|simp only[oZ] at *;omega))
   refine aE ?_;rw [nv,eY hne];refine Au.AM [1,2,3] [(2,.o (.ptr 0 3 0 0)),(4,.o (.ip [iD t.al,CI (OI t.al rows),Fv (ND rows)]))] ⟨⟨_,rfl,.inl rfl⟩,⟨_,rfl,.inr (.o (.box rfl (.cons .d (.cons (.full rfl (by simp [d4]) (by simp)) (.cons (.full rfl (by simp [d4]) (by simp)) .nil)))))⟩,trivial⟩ ?_;(repeat first |refine sN rfl ?_ |((first|refine sA rfl ?_ ?_|refine s4 rfl ‹_› rfl ?_ ?_);first|exact tI|omega|simp only[oZ] at *;omega) |refine s2 rfl λ_ a=>?_ |refine s3 rfl ?_ ?_<;>rintro rfl |refine aU rfl ?_ |refine Aa ?_);(subst_vars;exact aR ⟨_,rfl,rfl⟩)
 ·rw [hb] at N
  rw [if_pos rfl];(repeat first |refine sN rfl ?_ |((first|refine sA rfl ?_ ?_|refine s4 rfl ‹_› rfl ?_ ?_);first|exact tI|omega|simp only[oZ] at *;omega) |refine s2 rfl λ_ a=>?_ |refine sP rfl (N) rfl ?_ |refine s3 rfl ?_ ?_<;>rintro rfl |refine aU rfl ?_ |refine Aa ?_)
  ((refine aC rfl ?_ ?_<;>rintro⟨⟩);all_goals try (simp at a;done))
  (repeat first |refine sN rfl ?_ |((first|refine sA rfl ?_ ?_|refine s4 rfl ‹_› rfl ?_ ?_);first|exact tI|omega|simp only[oZ] at *;omega) |refine s2 rfl λ_ a=>?_ |refine s3 rfl ?_ ?_<;>rintro rfl |refine aU rfl ?_ |refine Aa ?_);refine rG (RH [(1,13),(6,1),(8,1)]) (by kernel_rfl) ?_;(repeat first |refine sN rfl ?_ |((first|refine sA rfl ?_ ?_|refine s4 rfl ‹_› rfl ?_ ?_);first|exact tI|omega|simp only[oZ] at *;omega) |refine s2 rfl λ_ a=>?_ |refine sP rfl (hr0) rfl ?_ |refine s3 rfl ?_ ?_<;>rintro rfl |refine aU rfl ?_ |refine Aa ?_);(refine pW rfl ?_ rfl (by rfl);refine Aj rfl rfl rfl (by first|(simp;done)|(simp;(first|omega|simp only[oZ] at *;omega))) rfl (by intro r c;simp at c;subst c;rfl) (by rfl) (co rfl) (by simp) ?_);(repeat first |refine sN rfl ?_ |((first|refine sA rfl ?_ ?_|refine s4 rfl ‹_› rfl ?_ ?_);first|exact tI|omega|simp only[oZ] at *;omega) |refine s2 rfl λ_ a=>?_ |refine s3 rfl ?_ ?_<;>rintro rfl |refine aU rfl ?_ |refine Aa ?_);(refine pW rfl ?_ rfl (by rfl);refine Aj rfl rfl rfl (by first|(simp;done)|(simp;(first|omega|simp only[oZ] at *;omega))) rfl (by intro r c;simp at c;subst c;rfl) (by rfl) (co rfl) (by simp) ?_);(repeat first |refine sN rfl ?_ |((first|refine sA rfl ?_ ?_|refine s4 rfl ‹_› rfl ?_ ?_);first|exact tI|omega|simp only[oZ] at *;omega) |refine s2 rfl λ_ a=>?_ |refine s3 rfl ?_ ?_<;>rintro rfl);refine Aa ?_;subst hls;refine Au.AM [5,6,3] [(2,.o (.ptr 0 3 0 0)),(4,.o (.ip (BO (Kf t.al))))] ⟨⟨_,rfl,.inl rfl⟩,⟨_,rfl,.inr (.o (.box rfl (.cons .d (.cons (.full rfl (by simp [d4,Kf]) (by simp [Kf])) (.cons (.full rfl (by simp [d4,Kf]) (by simp [Kf])) .nil)))))⟩,trivial⟩ ?_;(repeat first |refine sN rfl ?_ |((first|refine sA rfl ?_ ?_|refine s4 rfl ‹_› rfl ?_ ?_);first|exact tI|omega|simp only[oZ] at *;omega) |refine s2 rfl λ_ a=>?_ |refine s3 rfl ?_ ?_<;>rintro rfl |refine aU rfl ?_ |refine Aa ?_);(subst_vars;exact aR ⟨_,rfl,rfl⟩)
theorem NY(t:BE):Pure Tryz.prog TB 47 [FU t] (Se (if AZ t then Ig t else none)):=by
 have g:=KX (TB:=TB) t;by_cases ht:AZ t=true
 ·rw [ht] at g
  have h:=az (TB:=TB) ht;rw [if_pos ht,<-fC]
  have o:∀m,US t=some m->Cg m:=λm c=>by
   unfold US at c;by_cases hb:Eo t (A0 t)=true
   ·rw [if_pos hb] at c
    injection c with c
    obtain⟨p,hp,_,n⟩:=Lb hb;rw [<-c,<-n];exact(Ex hp).1
   ·rw [if_neg hb] at c
    obtain⟨p,hp,rfl⟩:=d7.1 c;obtain⟨k,j⟩:=Jn 41 (by simp) (by simp) ⟨rfl,by simp,by simp,λi r b=>(by cases b),λZ l _ q e=>by simp at e;subst e;exact l⟩ hp;exact UR k j
  have hw:Xc t=(US t).bind λm=>Si (Df m):=by
   unfold Xc US;by_cases hb:Eo t (A0 t)=true
   ·obtain⟨p,hp,_,n⟩:=Lb hb
    rw [if_pos hb,if_pos hb,oh,Nk (n ▸ (Ex hp).1)]
   ·rw [if_neg hb,if_neg hb]
    cases hp:GC 40 (IH t) (Ac t.al) 41 [A0 t] [] with
    | none=>rfl
    | some p=>
     obtain⟨k,j⟩:=Jn 41 (by simp) (by simp) ⟨rfl,by simp,by simp,λi r b=>(by cases b),λZ l _ q e=>by simp at e;subst e;exact l⟩ hp;rw [nv,oh,<-Nk (UR k j)]
  rw [hw]
  cases b:US t with
  | none=>
   rw [b] at h;refine eG Tryz.func47 rfl (by kernel_rfl) rfl ?_;intro Γ d;(repeat first |refine sN rfl ?_ |((first|refine sA rfl ?_ ?_|refine s4 rfl ‹_› rfl ?_ ?_);first|exact tI|omega|simp only[oZ] at *;omega) |refine s2 rfl λ_ a=>?_ |refine sP rfl (g) rfl ?_ |refine s3 rfl ?_ ?_<;>rintro rfl |refine aU rfl ?_ |refine Aa ?_)
   ((refine aC rfl ?_ ?_<;>rintro⟨⟩);all_goals try (simp at a;done))
   refine aK ?_;(repeat first |refine sN rfl ?_ |((first|refine sA rfl ?_ ?_|refine s4 rfl ‹_› rfl ?_ ?_);first|exact tI|omega|simp only[oZ] at *;omega) |refine s2 rfl λ_ a=>?_ |refine sP rfl (h) rfl ?_ |refine s3 rfl ?_ ?_<;>rintro rfl |refine aU rfl ?_ |refine Aa ?_)
   ((refine aC rfl ?_ ?_<;>rintro⟨⟩);all_goals try (simp at a;done))
   (repeat first |refine sN rfl ?_ |((first|refine sA rfl ?_ ?_|refine s4 rfl ‹_› rfl ?_ ?_);first|exact tI|omega|simp only[oZ] at *;omega) |refine s2 rfl λ_ a=>?_|(refine Af rfl ?_;refine gA rfl ?_;first|refine gS (λ_ _=>AF rfl rfl (by rfl) (by rfl)) ?_) |refine s3 rfl ?_ ?_<;>rintro rfl |refine aU rfl ?_ |refine Aa ?_);(subst_vars;exact aR ⟨_,rfl,rfl⟩)
  | some m=>
   rw [b] at h;rw [oh];have s:=Qv (TB:=TB) (o m b);generalize Df m=M at *;unfold Si;refine eG Tryz.func47 rfl (by kernel_rfl) rfl ?_;intro Γ d;(repeat first |refine sN rfl ?_ |((first|refine sA rfl ?_ ?_|refine s4 rfl ‹_› rfl ?_ ?_);first|exact tI|omega|simp only[oZ] at *;omega) |refine s2 rfl λ_ a=>?_ |refine sP rfl (g) rfl ?_ |refine s3 rfl ?_ ?_<;>rintro rfl |refine aU rfl ?_ |refine Aa ?_)
   ((refine aC rfl ?_ ?_<;>rintro⟨⟩);all_goals try (simp at a;done))
   refine aK ?_;(repeat first |refine sN rfl ?_ |((first|refine sA rfl ?_ ?_|refine s4 rfl ‹_› rfl ?_ ?_);first|exact tI|omega|simp only[oZ] at *;omega) |refine s2 rfl λ_ a=>?_ |refine sP rfl (h) rfl ?_ |refine s3 rfl ?_ ?_<;>rintro rfl |refine aU rfl ?_ |refine Aa ?_)
   ((refine aC rfl ?_ ?_<;>rintro⟨⟩);all_goals try (simp at a;done))
   refine aK ?_;(repeat first |refine sN rfl ?_ |((first|refine sA rfl ?_ ?_|refine s4 rfl ‹_› rfl ?_ ?_);first|exact tI|omega|simp only[oZ] at *;omega) |refine s2 rfl λ_ a=>?_ |refine sP rfl (s) rfl ?_ |refine s3 rfl ?_ ?_<;>rintro rfl |refine aU rfl ?_ |refine Aa ?_);by_cases f:12 < M.nx.length
   ·rw [if_pos f]
    (repeat' first |refine sN rfl ?_ |((first|refine sA rfl ?_ ?_|refine s4 rfl ‹_› rfl ?_ ?_);first|exact tI|omega|simp only[oZ] at *;omega) |refine s2 rfl λ_ a=>?_|(refine Af rfl ?_;refine gA rfl ?_;first|refine gS (λ_ _=>AF rfl rfl (by rfl) (by rfl)) ?_) |refine s3 rfl ?_ ?_<;>rintro rfl |refine aU rfl ?_ |refine Aa ?_|(refine aC rfl ?_ ?_<;>rintro⟨⟩));all_goals try contradiction
    all_goals first
     | (exfalso;first|omega|simp only[oZ] at *;omega;done)
     | (subst_vars;exact aR ⟨_,rfl,rfl⟩)
   ·rw [if_neg f]
    (repeat' first |refine sN rfl ?_ |((first|refine sA rfl ?_ ?_|refine s4 rfl ‹_› rfl ?_ ?_);first|exact tI|omega|simp only[oZ] at *;omega) |refine s2 rfl λ_ a=>?_ |refine s3 rfl ?_ ?_<;>rintro rfl |refine aU rfl ?_ |refine Aa ?_|(refine aC rfl ?_ ?_<;>rintro⟨⟩));all_goals try contradiction
    all_goals first
     | (exfalso;first|omega|simp only[oZ] at *;omega;done)
     | skip
    refine aK ?_;(repeat first |refine sN rfl ?_ |((first|refine sA rfl ?_ ?_|refine s4 rfl ‹_› rfl ?_ ?_);first|exact tI|omega|simp only[oZ] at *;omega) |refine s2 rfl λ_ a=>?_ |refine s3 rfl ?_ ?_<;>rintro rfl |refine aU rfl ?_ |refine Aa ?_);(subst_vars;exact aR ⟨_,rfl,rfl⟩)
 ·have ht:AZ t=false:=by simpa using ht
  rw [ht] at g;rw [if_neg (by rw [ht];decide)];refine eG Tryz.func47 rfl (by kernel_rfl) rfl ?_;intro Γ d;(repeat first |refine sN rfl ?_ |((first|refine sA rfl ?_ ?_|refine s4 rfl ‹_› rfl ?_ ?_);first|exact tI|omega|simp only[oZ] at *;omega) |refine s2 rfl λ_ a=>?_ |refine sP rfl (g) rfl ?_ |refine s3 rfl ?_ ?_<;>rintro rfl |refine aU rfl ?_ |refine Aa ?_)
  ((refine aC rfl ?_ ?_<;>rintro⟨⟩);all_goals try (simp at a;done))
  (repeat first |refine sN rfl ?_ |((first|refine sA rfl ?_ ?_|refine s4 rfl ‹_› rfl ?_ ?_);first|exact tI|omega|simp only[oZ] at *;omega) |refine s2 rfl λ_ a=>?_|(refine Af rfl ?_;refine gA rfl ?_;first|refine gS (λ_ _=>AF rfl rfl (by rfl) (by rfl)) ?_) |refine s3 rfl ?_ ?_<;>rintro rfl |refine aU rfl ?_ |refine Aa ?_);(subst_vars;exact aR ⟨_,rfl,rfl⟩)
end Go.Am
namespace Go.Am
open Go Go.Proofs
set_option maxHeartbeats 1000000
set_option maxRecDepth 4000
attribute [local irreducible] AO BS Lex A4 Au Spec
variable {TB:Bi}[Fa TB]
theorem XH(l:List Int)(s:Int):Pure Tryz.prog TB 181 [AH l,eI .i64 s] (eI .i64 (if s∈l then (l.idxOf s:Int) else -1)):=by
 refine eG Tryz.func181 rfl (by kernel_rfl) rfl ?_;intro Γ c;refine Au.bound 0 rfl λi=>?_;have o:=i (l.map Br) .refl;rw [f7] at o;(repeat first |refine sN rfl ?_ |((first|refine sA rfl ?_ ?_|refine s4 rfl ‹_› rfl ?_ ?_);first|exact tI|omega|simp only[oZ] at *;omega) |refine s2 rfl λ_ a=>?_ |refine s3 rfl ?_ ?_<;>rintro rfl |refine aU rfl ?_ |refine Aa ?_);refine aB ?_;refine aL (U:={k:Nat // k<=l.length/\s∉l.take k}) [0,1,7] [] rfl rfl (λ⟨k,hk,b⟩=>[(8,eI .i64 k)]) (λ⟨k,hk,b⟩=>[]) 0 (λ⟨k,hk,b⟩=>l.length - k) (⟨0,by omega,by simp⟩) c rfl (by ((repeat' first|exact tI|rfl|refine And.intro ?_ ?_)<;>(simp[cX,zC,c]<;>rfl))) ?_;rintro⟨k,hk,b⟩;(try dsimp only[cA,cB]);have hk:k<=l.length:=hk;have b:s∉l.take k:=b;by_cases h:k < l.length
 ·obtain⟨x,d⟩:=get_some h
  have m:=get_map (g:=Br) d;(repeat first |refine sN rfl ?_ |((first|refine sA rfl ?_ ?_|refine s4 rfl ‹_› rfl ?_ ?_);first|exact tI|omega|simp only[oZ] at *;omega) |refine s2 rfl λ_ a=>?_ |refine s3 rfl ?_ ?_<;>rintro rfl |refine aU rfl ?_ |refine Aa ?_)
  ((refine aC rfl ?_ ?_<;>rintro⟨⟩);all_goals try(exfalso;first|omega|simp only[oZ] at *;omega))
  refine aK ?_;refine aS (aB ?_);by_cases j:s=x
  ·subst j
   have n:s∈l:=ce d
   have hi:l.idxOf s=k:=by
    have e:l=l.take k++s::l.drop (k+1):=by rw [<-BF d,nJ]
    rw [e,nL,if_neg b,ou];simp;omega
   rw [if_pos n,hi]
   (repeat' first |refine sN rfl ?_ |((first|refine sA rfl ?_ ?_|refine s4 rfl ‹_› rfl ?_ ?_);first|exact tI|omega|simp only[oZ] at *;omega) |refine s2 rfl λ_ a=>?_ |refine s3 rfl ?_ ?_<;>rintro rfl |refine aU rfl ?_ |refine Aa ?_|(refine aC rfl ?_ ?_<;>rintro⟨⟩));all_goals try contradiction
   all_goals first
    | (exfalso;first|omega|simp only[oZ] at *;omega;done)
    | (exfalso;simp at *;done)
    | (subst_vars;exact aR ⟨_,rfl,rfl⟩)
  ·have f:s∉l.take (k+1):=by
    rw [gc,d];simp [b,j]
   (repeat' first |refine sN rfl ?_ |((first|refine sA rfl ?_ ?_|refine s4 rfl ‹_› rfl ?_ ?_);first|exact tI|omega|simp only[oZ] at *;omega) |refine s2 rfl λ_ a=>?_ |refine s3 rfl ?_ ?_<;>rintro rfl |refine aU rfl ?_ |refine Aa ?_|(refine aC rfl ?_ ?_<;>rintro⟨⟩));all_goals try contradiction
   all_goals first
    | (exfalso;first|omega|simp only[oZ] at *;omega;done)
    | skip
   refine aK ?_;(repeat first |refine sN rfl ?_ |((first|refine sA rfl ?_ ?_|refine s4 rfl ‹_› rfl ?_ ?_);first|exact tI|omega|simp only[oZ] at *;omega) |refine s2 rfl λ_ a=>?_ |refine s3 rfl ?_ ?_<;>rintro rfl |refine aU rfl ?_ |refine Aa ?_);refine⟨⟨k+1,by first|omega|simp only[oZ] at *;omega,f⟩,by dsimp only;(first|omega|simp only[oZ] at *;omega),[],?_⟩;simp[cX,zC,c]
 ·obtain rfl:k=l.length:=by omega
  rw [i9] at b;rw [if_neg b];(repeat first |refine sN rfl ?_ |((first|refine sA rfl ?_ ?_|refine s4 rfl ‹_› rfl ?_ ?_);first|exact tI|omega|simp only[oZ] at *;omega) |refine s2 rfl λ_ a=>?_ |refine s3 rfl ?_ ?_<;>rintro rfl |refine aU rfl ?_ |refine Aa ?_)
  ((refine aC rfl ?_ ?_<;>rintro⟨⟩);all_goals try(exfalso;first|omega|simp only[oZ] at *;omega))
  refine aE ?_;(repeat first |refine sN rfl ?_ |((first|refine sA rfl ?_ ?_|refine s4 rfl ‹_› rfl ?_ ?_);first|exact tI|omega|simp only[oZ] at *;omega) |refine s2 rfl λ_ a=>?_ |refine s3 rfl ?_ ?_<;>rintro rfl |refine aU rfl ?_ |refine Aa ?_);(subst_vars;exact aR ⟨_,rfl,rfl⟩)
theorem Qk(l:List Int)(s:Int):Pure Tryz.prog TB 112 [AH l,eI .i64 s] (eB (decide (s∈l))):=by
 have h:=XH (TB:=TB) l s;refine eG Tryz.func112 rfl (by kernel_rfl) rfl ?_;intro Γ c;(repeat first |refine sN rfl ?_ |((first|refine sA rfl ?_ ?_|refine s4 rfl ‹_› rfl ?_ ?_);first|exact tI|omega|simp only[oZ] at *;omega) |refine s2 rfl λ_ a=>?_ |refine sP rfl (h) rfl ?_ |refine s3 rfl ?_ ?_<;>rintro rfl |refine aU rfl ?_ |refine Aa ?_);by_cases b:s∈l
 ·rw [if_pos b] at *
  (repeat first |refine sN rfl ?_ |((first|refine sA rfl ?_ ?_|refine s4 rfl ‹_› rfl ?_ ?_);first|exact tI|omega|simp only[oZ] at *;omega) |refine s2 rfl λ_ a=>?_ |refine sP rfl (h) rfl ?_ |refine s3 rfl ?_ ?_<;>rintro rfl |refine aU rfl ?_ |refine Aa ?_);refine aR ⟨_,rfl,?_⟩
  show E.o _=E.o _
  congr;simp at *;grind
 ·rw [if_neg b] at *
  (repeat first |refine sN rfl ?_ |((first|refine sA rfl ?_ ?_|refine s4 rfl ‹_› rfl ?_ ?_);first|exact tI|omega|simp only[oZ] at *;omega) |refine s2 rfl λ_ a=>?_ |refine sP rfl (h) rfl ?_ |refine s3 rfl ?_ ?_<;>rintro rfl |refine aU rfl ?_ |refine Aa ?_);refine aR ⟨_,rfl,?_⟩
  show E.o _=E.o _
  congr;simp at *;grind
theorem TG{t:BE}(ht:AZ t=true)(m:Cr)(q l:Int)(p:Ds t Y0 m)(H:m.F.length<=1000)(G:Om t m q)(I:l∈Ac t.al):∃(m':Cr) (y:Int),Ds t Y0 m'/\Mt m m'/\m'.F.length<=m.F.length+1/\Om t m' y/\GP m' y=LK (IH t) (GP m q) l/\
 AJ Tryz.prog TB 109 2 (cL t m) 6 [eI .i64 q,eI .i64 l,.o (.ptr 0 1 0 0)] (λx σ nx=>x=eI .i64 y/\σ=cL t m'/\nx=6):=by
 have f:=Ai I
 rcases G with rfl|⟨j,F,rfl,r,hb⟩
 ·refine⟨m,-1,p,Mt.refl _,qR _,.inl rfl,by rw [Ff];rfl,?_⟩
  refine AJ.AX (AJ.QP (m:=2) (co rfl) Tryz.func109 rfl (by kernel_rfl) (co rfl) ?_);intro Γ a
  (repeat' first |refine sN rfl ?_ |((first|refine sA rfl ?_ ?_|refine s4 rfl ‹_› rfl ?_ ?_);first|exact tI|omega|simp only[oZ] at *;omega) |refine s2 rfl λ_ b=>?_ |refine s3 rfl ?_ ?_<;>rintro rfl |refine aU rfl ?_ |refine Aa ?_|(refine aC rfl ?_ ?_<;>rintro⟨⟩));all_goals try contradiction
  all_goals first
   | (exfalso;first|omega|simp only[oZ] at *;omega;done)
   | (exfalso;simp at *;done)
   | (refine aK ?_)
  (repeat' first |refine sN rfl ?_ |((first|refine sA rfl ?_ ?_|refine s4 rfl ‹_› rfl ?_ ?_);first|exact tI|omega|simp only[oZ] at *;omega) |refine s2 rfl λ_ b=>?_ |refine s3 rfl ?_ ?_<;>rintro rfl |refine aU rfl ?_ |refine Aa ?_|(refine aC rfl ?_ ?_<;>rintro⟨⟩));all_goals try contradiction
  all_goals first
   | (exfalso;first|omega|simp only[oZ] at *;omega;done)
   | (exfalso;simp at *;done)
   | (refine aK ?_)
  (repeat first |refine sN rfl ?_ |((first|refine sA rfl ?_ ?_|refine s4 rfl ‹_› rfl ?_ ?_);first|exact tI|omega|simp only[oZ] at *;omega) |refine s2 rfl λ_ b=>?_ |refine s3 rfl ?_ ?_<;>rintro rfl |refine aU rfl ?_ |refine Aa ?_);exact aR ⟨_,rfl,[0,1,2,3,4,5],eI .i64 (-1),cL t m,⟨by intro i hi;match i with|0=>rfl|1=>rfl,by decide⟩,rfl,by ((repeat' first|exact tI|rfl|refine And.intro ?_ ?_)<;>(simp[cX,zC,a,AB]<;>rfl)),rfl,rfl,rfl⟩
 ·obtain⟨m',k,u,z,s,w,v⟩:=OW (TB:=TB) ht p r ⟨f.1,by omega⟩ (by omega) (eZ (.next f.1 (by omega) (p.rc F (ce r))))
  have e:LK (IH t) (GP m j) l=IH t F l:=by rw [EB,r];rfl
  have d:=u.un k _ s;have B:=(am.1 d).1;cases c:Eo t (BR t l F)
  ·rw [c] at d
   have n:(m'.un.map AP)[0+((k:Nat):Int).toNat]? = some (AP false):=by rw [ms,f6];simp [d]
   refine⟨m',k,u,z,w,.inr ⟨k,_,rfl,s,c⟩,by rw [e,EB,s];unfold IH;rw [if_neg (by rw [c];decide)],?_⟩;refine AJ.AX (AJ.QP (m:=2) (co rfl) Tryz.func109 rfl (by kernel_rfl) (co rfl) ?_);intro Γ a;(repeat first |refine sN rfl ?_ |((first|refine sA rfl ?_ ?_|refine s4 rfl ‹_› rfl ?_ ?_);first|exact tI|omega|simp only[oZ] at *;omega) |refine s2 rfl λ_ b=>?_ |refine s3 rfl ?_ ?_<;>rintro rfl |refine aU rfl ?_ |refine Aa ?_)
   ((refine aC rfl ?_ ?_<;>rintro⟨⟩);all_goals try(exfalso;first|omega|simp only[oZ] at *;omega))
   (repeat first |refine sN rfl ?_ |((first|refine sA rfl ?_ ?_|refine s4 rfl ‹_› rfl ?_ ?_);first|exact tI|omega|simp only[oZ] at *;omega) |refine s2 rfl λ_ b=>?_ |refine s3 rfl ?_ ?_<;>rintro rfl |refine aU rfl ?_ |refine Aa ?_);(refine pW rfl ?_ rfl (by rfl);refine BJ [1,2,3,4,5] rfl rfl 1 (v) (by decide) ⟨rfl,by decide,by decide⟩ rfl (by simp[cX,zC,a,AB]) ?_;rintro A g h ⟨rfl,rfl,rfl⟩ _);(repeat first |refine sN rfl ?_ |((first|refine sA rfl ?_ ?_|refine s4 rfl ‹_› rfl ?_ ?_);first|exact tI|omega|simp only[oZ] at *;omega) |refine s2 rfl λ_ b=>?_ |refine s3 rfl ?_ ?_<;>rintro rfl);refine Aa ?_;refine Au.AL [] [] rfl rfl [(0,eI .i64 k),(2,.o (.ptr 0 1 0 0))] [(0,.cells 124 1 [[.ptr 1 14 0 0]]),(1,.cells 131 14 [NR t (.arr 2 12 0 (m').F.length) (.mp 3) (.arr 4 6 0 (m').nx.length) (.arr 5 1 0 (m').un.length)]),(2,.cells 189 12 ((m').F.map Ls)),(3,.mp (mapA .u16 (KG (m').F))),(4,.cells 109 6 ((m').nx.map Lq)),(5,.cells 4 1 ((m').un.map AP))] [0,1,6,7,8,9] (rl a rfl) (by ((repeat' first|exact tI|rfl|refine And.intro ?_ ?_)<;>(simp[cX,zC,a,AB]<;>rfl))) ?_;(try dsimp only[cA,cB])
   (repeat' first |refine sN rfl ?_ |((first|refine sA rfl ?_ ?_|refine s4 rfl ‹_› rfl ?_ ?_);first|exact tI|omega|simp only[oZ] at *;omega) |refine s2 rfl λ_ b=>?_ |refine s3 rfl ?_ ?_<;>rintro rfl |refine aU rfl ?_ |refine Aa ?_|(refine aC rfl ?_ ?_<;>rintro⟨⟩));all_goals try contradiction
   all_goals first
    | (exfalso;first|omega|simp only[oZ] at *;omega;done)
    | skip
   refine aK ?_;(repeat first |refine sN rfl ?_ |((first|refine sA rfl ?_ ?_|refine s4 rfl ‹_› rfl ?_ ?_);first|exact tI|omega|simp only[oZ] at *;omega) |refine s2 rfl λ_ b=>?_ |refine s3 rfl ?_ ?_<;>rintro rfl |refine aU rfl ?_ |refine Aa ?_);exact aR ⟨_,rfl,[0,1,2,3,4,5],eI .i64 k,cL t m',⟨by intro i hi;match i with|0=>rfl|1=>rfl,by decide⟩,rfl,by ((repeat' first|exact tI|rfl|refine And.intro ?_ ?_)<;>(simp[cX,zC,a,AB]<;>rfl)),rfl,rfl,rfl⟩
  ·rw [c] at d
   have n:(m'.un.map AP)[0+((k:Nat):Int).toNat]? = some (AP true):=by rw [ms,f6];simp [d]
   refine⟨m',-1,u,z,w,.inl rfl,by rw [e,Ff];unfold IH;rw [if_pos c],?_⟩;refine AJ.AX (AJ.QP (m:=2) (co rfl) Tryz.func109 rfl (by kernel_rfl) (co rfl) ?_);intro Γ a;(repeat first |refine sN rfl ?_ |((first|refine sA rfl ?_ ?_|refine s4 rfl ‹_› rfl ?_ ?_);first|exact tI|omega|simp only[oZ] at *;omega) |refine s2 rfl λ_ b=>?_ |refine s3 rfl ?_ ?_<;>rintro rfl |refine aU rfl ?_ |refine Aa ?_)
   ((refine aC rfl ?_ ?_<;>rintro⟨⟩);all_goals try(exfalso;first|omega|simp only[oZ] at *;omega))
   (repeat first |refine sN rfl ?_ |((first|refine sA rfl ?_ ?_|refine s4 rfl ‹_› rfl ?_ ?_);first|exact tI|omega|simp only[oZ] at *;omega) |refine s2 rfl λ_ b=>?_ |refine s3 rfl ?_ ?_<;>rintro rfl |refine aU rfl ?_ |refine Aa ?_);(refine pW rfl ?_ rfl (by rfl);refine BJ [1,2,3,4,5] rfl rfl 1 (v) (by decide) ⟨rfl,by decide,by decide⟩ rfl (by simp[cX,zC,a,AB]) ?_;rintro A g h ⟨rfl,rfl,rfl⟩ _);(repeat first |refine sN rfl ?_ |((first|refine sA rfl ?_ ?_|refine s4 rfl ‹_› rfl ?_ ?_);first|exact tI|omega|simp only[oZ] at *;omega) |refine s2 rfl λ_ b=>?_ |refine s3 rfl ?_ ?_<;>rintro rfl);refine Aa ?_;refine Au.AL [] [] rfl rfl [(0,eI .i64 k),(2,.o (.ptr 0 1 0 0))] [(0,.cells 124 1 [[.ptr 1 14 0 0]]),(1,.cells 131 14 [NR t (.arr 2 12 0 (m').F.length) (.mp 3) (.arr 4 6 0 (m').nx.length) (.arr 5 1 0 (m').un.length)]),(2,.cells 189 12 ((m').F.map Ls)),(3,.mp (mapA .u16 (KG (m').F))),(4,.cells 109 6 ((m').nx.map Lq)),(5,.cells 4 1 ((m').un.map AP))] [0,1,6,7,8,9] (rl a rfl) (by ((repeat' first|exact tI|rfl|refine And.intro ?_ ?_)<;>(simp[cX,zC,a,AB]<;>rfl))) ?_;(try dsimp only[cA,cB])
   (repeat' first |refine sN rfl ?_ |((first|refine sA rfl ?_ ?_|refine s4 rfl ‹_› rfl ?_ ?_);first|exact tI|omega|simp only[oZ] at *;omega) |refine s2 rfl λ_ b=>?_ |refine s3 rfl ?_ ?_<;>rintro rfl |refine aU rfl ?_ |refine Aa ?_|(refine aC rfl ?_ ?_<;>rintro⟨⟩));all_goals try contradiction
   all_goals first
    | (exfalso;first|omega|simp only[oZ] at *;omega;done)
    | skip
   exact aR ⟨_,rfl,[0,1,2,3,4,5],eI .i64 (-1),cL t m',⟨by intro i hi;match i with|0=>rfl|1=>rfl,by decide⟩,rfl,by ((repeat' first|exact tI|rfl|refine And.intro ?_ ?_)<;>(simp[cX,zC,a,AB]<;>rfl)),rfl,rfl,rfl⟩
theorem Ys{U:Type}{a:U}{l:List U}(b:l.Nodup)(h:∀x∈l,x=a):l.length<=1:=by
 match l,b,h with
 | [],_,_=>simp
 | [x],_,_=>simp
 | x::y::r,b,h=>
  have d:=h x (by simp);have c:=h y (by simp);rw [d,c] at b;simp at b
theorem OF{t:BE}(ht:AZ t=true):∃m,(Ji t Y0 m/\m.F.length<=100)/\AJ Tryz.prog TB 107 0 [] 0 [FU t] (λx σ nx=>x=.o (.ptr 0 14 0 0)/\σ=Kk t m/\nx=5):=by
 obtain⟨m,a,h⟩:=JI (TB:=TB) ht (λ_=>False)
 have hk:∀F∈m.F,F=A0 t:=λF b=>by
  rcases a.1.rk F b with h|⟨_,_,h,_⟩
  ·exact h
  ·exact h.elim
 have c:=Ys a.1.nd hk;exact⟨m,⟨⟨⟨a.1.l1,a.1.l2,a.1.nd,a.1.rc,λF b=>.inl (hk F b),a.1.un,a.1.nx⟩,a.2⟩,by omega⟩,h⟩
noncomputable def TF(t:BE):Option AK:=if AZ t then Ig t else none
theorem jE{X:Nat->Prop}{Y:Prop}(h:∀z,X z)(hk:(∀z,X z)->Y):Y:=hk h
theorem jD{C X:Int->Prop}{Y:Prop}(h:∀s,C s->X s)(hk:(∀s,C s->X s)->Y):Y:=hk h
theorem Zg{t:BE}{m:Cr}{nd:List Int}(h:∀q∈nd,Om t m q):(nd.map (GP m)).map Option.isSome=nd.map (λq=>decide (q≠-1))/\((none:Option PS)∈nd.map (GP m)↔(-1:Int)∈nd):=by
 have key:∀q,Om t m q->(GP m q).isSome=decide (q≠-1):=by
  rintro q (rfl|⟨j,F,rfl,e,_⟩)
  ·rw [Ff];rfl
  ·rw [EB,e]
   show true=decide _
   symm;rw [decide_eq_true_eq];omega
 refine⟨by rw [nV];exact nu λq a=>key q (h q a),λb=>?_,λb=>em.2 ⟨-1,b,Ff m⟩⟩;obtain⟨q,a,d⟩:=em.1 b;have:=key q (h q a);rw [d] at this;by_cases c:q = -1
 ·exact c ▸ a
 ·rw [decide_eq_true c] at this;cases this
theorem MW(t:BE):Pure Tryz.prog TB 45 [FU t] (Se (TF t)):=by
 have G:=GJ (TB:=TB) t;unfold TF;by_cases ht:AZ t=true
 ·rw [ht] at G
  rw [if_pos ht];obtain⟨m,⟨y,Q⟩,N⟩:=OF (TB:=TB) ht;have h2:=Cu (TB:=TB) t.al;have R:(Ac t.al).length<=6:=AD t.al 6;have X:=y.1.un 0 _ y.2;have hul:=(am.1 X).1
  have w:(m.un.map AP)[0+(0:Int).toNat]? = some (AP (Eo t (A0 t))):=by show (m.un.map AP)[0]? = _;simp [X]
  refine eG Tryz.func45 rfl (by kernel_rfl) rfl ?_;intro Γ c;(repeat first |refine sN rfl ?_ |((first|refine sA rfl ?_ ?_|refine s4 rfl ‹_› rfl ?_ ?_);first|exact tI|omega|simp only[oZ] at *;omega) |refine s2 rfl λ_ a=>?_ |refine sP rfl (G) rfl ?_ |refine s3 rfl ?_ ?_<;>rintro rfl |refine aU rfl ?_ |refine Aa ?_)
  ((refine aC rfl ?_ ?_<;>rintro⟨⟩);all_goals try (simp at a;done))
  refine aK ?_;(repeat first |refine sN rfl ?_ |((first|refine sA rfl ?_ ?_|refine s4 rfl ‹_› rfl ?_ ?_);first|exact tI|omega|simp only[oZ] at *;omega) |refine s2 rfl λ_ a=>?_ |refine s3 rfl ?_ ?_<;>rintro rfl |refine aU rfl ?_ |refine Aa ?_);(refine pW rfl ?_ rfl (by rfl);refine BJ [] rfl rfl 0 (N) (by decide) ⟨rfl,by decide,by decide⟩ rfl (by simp[cX,zC,c,AB]) ?_;rintro x0 H I ⟨rfl,rfl,rfl⟩ _);(repeat first |refine sN rfl ?_ |((first|refine sA rfl ?_ ?_|refine s4 rfl ‹_› rfl ?_ ?_);first|exact tI|omega|simp only[oZ] at *;omega) |refine s2 rfl λ_ a=>?_ |refine s3 rfl ?_ ?_<;>rintro rfl);refine Aa ?_;refine Au.AL [1] [0] rfl rfl [(2,.o (.ptr 0 3 0 0)),(4,.o (.ptr 1 1 0 0))] [(1,.cells 124 1 [[.ptr 2 14 0 0]]),(2,.cells 131 14 [NR t (.arr 3 12 0 (m).F.length) (.mp 4) (.arr 5 6 0 (m).nx.length) (.arr 6 1 0 (m).un.length)]),(3,.cells 189 12 ((m).F.map Ls)),(4,.mp (mapA .u16 (KG (m).F))),(5,.cells 109 6 ((m).nx.map Lq)),(6,.cells 4 1 ((m).un.map AP))] [0,6,1,2,3,4,5] (rl c rfl) (by ((repeat' first|exact tI|rfl|refine And.intro ?_ ?_)<;>(simp[cX,zC,c,AB,eC,Ae]<;>rfl))) ?_;(try dsimp only[cA,cB]);apply jD (C:=λs=>Om t m s/\GP m s=Y3 t)
  case hk=>
   intro hk;cases n:Eo t (A0 t)
   ·rw [n] at w
    (repeat first |refine sN rfl ?_ |((first|refine sA rfl ?_ ?_|refine s4 rfl ‹_› rfl ?_ ?_);first|exact tI|omega|simp only[oZ] at *;omega) |refine s2 rfl λ_ a=>?_ |refine sP rfl (h2) rfl ?_ |refine s3 rfl ?_ ?_<;>rintro rfl |refine aU rfl ?_ |refine Aa ?_)
    ((refine aC rfl ?_ ?_<;>rintro⟨⟩);all_goals try (simp at a;done))
    refine aK ?_
    obtain⟨s,u⟩:∃s:Int,s=0:=⟨_,rfl⟩
    refine Au.AL [1,5] [0,1,2,3,4,5,6] rfl rfl [(2,.o (.ptr 0 3 0 0)),(4,.o (.ptr 1 1 0 0)),(6,.o (.fn 109 [.ptr 1 1 0 0])),(7,eI .i64 s)] [] [0,1,2,3,4,5,6] (rl c rfl) (by ((repeat' first|exact tI|rfl|refine And.intro ?_ ?_)<;>(simp[cX,zC,c,AB,u]<;>rfl))) ?_;(try dsimp only[cA,cB]);exact hk s ⟨.inr ⟨0,_,u,y.2,n⟩,by rw [u];show GP m ((0:Nat):Int)=_;rw [EB,y.2];unfold Y3;rw [if_neg (by rw [n];decide)]⟩
   ·rw [n] at w
    (repeat first |refine sN rfl ?_ |((first|refine sA rfl ?_ ?_|refine s4 rfl ‹_› rfl ?_ ?_);first|exact tI|omega|simp only[oZ] at *;omega) |refine s2 rfl λ_ a=>?_ |refine sP rfl (h2) rfl ?_ |refine s3 rfl ?_ ?_<;>rintro rfl |refine aU rfl ?_ |refine Aa ?_)
    ((refine aC rfl ?_ ?_<;>rintro⟨⟩);all_goals try (simp at a;done))
    (repeat first |refine sN rfl ?_ |((first|refine sA rfl ?_ ?_|refine s4 rfl ‹_› rfl ?_ ?_);first|exact tI|omega|simp only[oZ] at *;omega) |refine s2 rfl λ_ a=>?_ |refine s3 rfl ?_ ?_<;>rintro rfl);refine aU rfl ?_;(repeat first |refine sN rfl ?_ |((first|refine sA rfl ?_ ?_|refine s4 rfl ‹_› rfl ?_ ?_);first|exact tI|omega|simp only[oZ] at *;omega) |refine s2 rfl λ_ a=>?_ |refine s3 rfl ?_ ?_<;>rintro rfl);refine Aa ?_
    obtain⟨s,u⟩:∃s:Int,s = -1:=⟨_,rfl⟩
    refine Au.AL [1,5] [0,1,2,3,4,5,6] rfl rfl [(2,.o (.ptr 0 3 0 0)),(4,.o (.ptr 1 1 0 0)),(6,.o (.fn 109 [.ptr 1 1 0 0])),(7,eI .i64 s)] [] [0,1,2,3,4,5,6] (rl c rfl) (by ((repeat' first|exact tI|rfl|refine And.intro ?_ ?_)<;>(simp[cX,zC,c,AB,u]<;>rfl))) ?_;(try dsimp only[cA,cB]);exact hk s ⟨.inl u,by rw [u,Ff];unfold Y3;rw [if_pos n]⟩
  case h =>
   intro s ⟨K,J⟩;have P:=QO (TB:=TB) (t:=t) (m0:=m) (f:=LK (IH t)) (ls:=Ac t.al) (s0:=s) (g:=109) R y.1 Q K (TG ht);(repeat first |refine sN rfl ?_ |((first|refine sA rfl ?_ ?_|refine s4 rfl ‹_› rfl ?_ ?_);first|exact tI|omega|simp only[oZ] at *;omega) |refine s2 rfl λ_ a=>?_ |refine s3 rfl ?_ ?_<;>rintro rfl |refine aU rfl ?_ |refine Aa ?_);(refine pW rfl ?_ rfl (by rfl);refine BJ [1,2,3,4,5,6] rfl rfl 2 (P) (by decide) ⟨rfl,by decide,by decide⟩ rfl (by simp[cX,zC,c,AB]) ?_;rintro x0 H I ⟨m2,o,hm2,Z,L,e,rfl,rfl,rfl⟩ _);rw [J] at e
   cases o with
   | none=>
    have i:Ig t=none:=by unfold Ig;rw [e];rfl
    rw [i];(repeat first |refine sN rfl ?_ |((first|refine sA rfl ?_ ?_|refine s4 rfl ‹_› rfl ?_ ?_);first|exact tI|omega|simp only[oZ] at *;omega) |refine s2 rfl λ_ a=>?_ |refine s3 rfl ?_ ?_<;>rintro rfl |refine aU rfl ?_ |refine Aa ?_)
    (repeat' first |refine sN rfl ?_ |((first|refine sA rfl ?_ ?_|refine s4 rfl ‹_› rfl ?_ ?_);first|exact tI|omega|simp only[oZ] at *;omega) |refine s2 rfl λ_ a=>?_|(refine Af rfl ?_;refine gA rfl ?_;first|refine gS (λ_ _=>AF rfl rfl (by rfl) (by rfl)) ?_) |refine s3 rfl ?_ ?_<;>rintro rfl |refine aU rfl ?_ |refine Aa ?_|(refine aC rfl ?_ ?_<;>rintro⟨⟩));all_goals try contradiction
    all_goals (subst_vars;exact aR ⟨_,rfl,rfl⟩)
   | some p =>
    obtain⟨nd,rows⟩:=p;have L:=L _ rfl;obtain⟨A,T⟩:=Zg L;have S:=Qk (TB:=TB) nd (-1);have e:FV 41 (LK (IH t)) (Ac t.al) (Y3 t)=some (nd.map (GP m2),rows):=e;have hw:=(Ex e).1;have j:=SE (TB:=TB) hw
    have hnd:nd.length<=64:=by
     have h3:=hw.b.1;have h4:=hw.ac;unfold YV at h3 h4;simp only [f7] at h3 h4;omega
    unfold YV at j;rw [A] at j
    have i:Ig t=if 40 < nd.length/\(-1:Int)∉nd then none else Si (Df ⟨t.al,rows,nd.map (λq=>decide (q≠-1))⟩):=by
     unfold Ig;rw [e];simp only [f7,T];unfold YV;rw [A]
    rw [i];generalize Df ⟨t.al,rows,nd.map (λq=>decide (q≠-1))⟩=M at *;by_cases v:40 < nd.length/\(-1:Int)∉nd
    ·rw [if_pos v]
     rw [decide_eq_false v.2] at S;(repeat first |refine sN rfl ?_ |((first|refine sA rfl ?_ ?_|refine s4 rfl ‹_› rfl ?_ ?_);first|exact tI|omega|simp only[oZ] at *;omega) |refine s2 rfl λ_ a=>?_ |refine s3 rfl ?_ ?_<;>rintro rfl |refine aU rfl ?_ |refine Aa ?_)
     (repeat' first |refine sN rfl ?_ |((first|refine sA rfl ?_ ?_|refine s4 rfl ‹_› rfl ?_ ?_);first|exact tI|omega|simp only[oZ] at *;omega) |refine s2 rfl λ_ a=>?_ |refine sP rfl (S) rfl ?_|(refine Af rfl ?_;refine gA rfl ?_;first|refine gS (λ_ _=>AF rfl rfl (by rfl) (by rfl)) ?_) |refine s3 rfl ?_ ?_<;>rintro rfl |refine aU rfl ?_ |refine Aa ?_|(refine aC rfl ?_ ?_<;>rintro⟨⟩));all_goals try contradiction
     all_goals first
      | (exfalso;first|omega|simp only[oZ] at *;omega;done)
      | (exfalso;simp at *;done)
      | (exfalso;grind;done)
      | (subst_vars;exact aR ⟨_,rfl,rfl⟩)
    ·rw [if_neg v]
     apply jE
     case hk=>
      intro hk;(repeat first |refine sN rfl ?_ |((first|refine sA rfl ?_ ?_|refine s4 rfl ‹_› rfl ?_ ?_);first|exact tI|omega|simp only[oZ] at *;omega) |refine s2 rfl λ_ a=>?_ |refine s3 rfl ?_ ?_<;>rintro rfl |refine aU rfl ?_ |refine Aa ?_)
      (repeat' first |refine sN rfl ?_ |((first|refine sA rfl ?_ ?_|refine s4 rfl ‹_› rfl ?_ ?_);first|exact tI|omega|simp only[oZ] at *;omega) |refine s2 rfl λ_ a=>?_ |refine sP rfl (S) rfl ?_ |refine s3 rfl ?_ ?_<;>rintro rfl |refine aU rfl ?_ |refine Aa ?_|(refine aC rfl ?_ ?_<;>rintro⟨⟩));all_goals try contradiction
      all_goals first
       | (exfalso;first|omega|simp only[oZ] at *;omega;done)
       | (exfalso;simp at *;done)
       | (exfalso;grind;done)
       | skip
      all_goals
       refine aK ?_;refine Au.AL [1,8,9] [0] rfl rfl [(2,.o (.ptr 0 3 0 0))] [] [0] (rl c rfl) (by ((repeat' first|exact tI|rfl|refine And.intro ?_ ?_)<;>(simp[cX,zC,c]<;>rfl))) ?_;(try dsimp only[cA,cB])
       obtain⟨z,_⟩:∃z:Nat,z=0:=⟨_,rfl⟩
       exact hk z
     case h=>
     intro _;(repeat first |refine sN rfl ?_ |((first|refine sA rfl ?_ ?_|refine s4 rfl ‹_› rfl ?_ ?_);first|exact tI|omega|simp only[oZ] at *;omega) |refine s2 rfl λ_ a=>?_ |refine s3 rfl ?_ ?_<;>rintro rfl |refine aU rfl ?_ |refine Aa ?_);(refine pW rfl ?_ rfl (by rfl);refine JH 2 1 4 rfl rfl rfl (by rfl) (by rfl) ?_);(repeat first |refine sN rfl ?_ |((first|refine sA rfl ?_ ?_|refine s4 rfl ‹_› rfl ?_ ?_);first|exact tI|omega|simp only[oZ] at *;omega) |refine s2 rfl λ_ a=>?_ |refine s3 rfl ?_ ?_<;>rintro rfl |refine aU rfl ?_ |refine Aa ?_);refine Au.AL [56,57,58] [0] rfl rfl [(2,.o (.ptr 0 3 0 0)),(11,.o (.ptr 1 3 0 0))] [(1,.cells 29 3 [[.d (iD t.al),.d (CI rows),.arr 2 1 0 0]]),(2,.cells 4 1 [])] [0,2,1] (rl c rfl) (by ((repeat' first|exact tI|rfl|refine And.intro ?_ ?_)<;>(simp[cX,zC,c,eC,Bb,Ae]<;>rfl))) ?_;(try dsimp only[cA,cB]);refine aB ?_;refine aL (U:={k:Nat // k<=nd.length}) [56,57] [] rfl rfl (λ⟨k,hk⟩=>[(2,.o (.ptr 0 3 0 0)),(11,.o (.ptr 1 3 0 0)),(58,eI .i64 k)]) (λ⟨k,hk⟩=>[(0,.cells 29 3 [[.d (iD 0),.d (.l []),.d (.l [])]]),(1,.cells 29 3 [[.d (iD t.al),.d (CI rows),.arr 2 1 0 k]]),(2,.cells 4 1 ((nd.take k).map λq=>AP (decide (q≠-1))))]) 3 (λ⟨k,hk⟩=>nd.length - k) (⟨0,by omega⟩) c rfl (by ((repeat' first|exact tI|rfl|refine And.intro ?_ ?_)<;>(simp[cX,zC,c,cN,Ae,eC,Bb]<;>rfl))) ?_;rintro⟨k,hk⟩;(try dsimp only[cA,cB]);(repeat first |refine sN rfl ?_ |((first|refine sA rfl ?_ ?_|refine s4 rfl ‹_› rfl ?_ ?_);first|exact tI|omega|simp only[oZ] at *;omega) |refine s2 rfl λ_ a=>?_ |refine s3 rfl ?_ ?_<;>rintro rfl |refine aU rfl ?_ |refine Aa ?_)
     ((refine aC rfl ?_ ?_<;>rintro⟨⟩);all_goals try (simp at a;done))
     ·obtain⟨x,V⟩:=get_some (l:=nd) (k:=k) (by first|omega|simp only[oZ] at *;omega)
      have hx':=get_map (g:=Br) V;refine aK ?_;refine aS (aB ?_);(repeat first |refine sN rfl ?_ |((first|refine sA rfl ?_ ?_|refine s4 rfl ‹_› rfl ?_ ?_);first|exact tI|omega|simp only[oZ] at *;omega) |refine s2 rfl λ_ a=>?_ |refine s3 rfl ?_ ?_<;>rintro rfl |refine aU rfl ?_ |refine Aa ?_);subst a;(refine pW rfl ?_ rfl (by rfl);refine Aj rfl rfl rfl (by first|(simp;done)|(simp;(first|omega|simp only[oZ] at *;omega))) rfl (by intro r Y;simp at Y;subst Y;rfl) (by rfl) (co rfl) (by simp;omega) ?_);(repeat first |refine sN rfl ?_ |((first|refine sA rfl ?_ ?_|refine s4 rfl ‹_› rfl ?_ ?_);first|exact tI|omega|simp only[oZ] at *;omega) |refine s2 rfl λ_ a=>?_ |refine s3 rfl ?_ ?_<;>rintro rfl |refine aU rfl ?_ |refine Aa ?_);refine⟨⟨k+1,by first|omega|simp only[oZ] at *;omega⟩,by dsimp only;(first|omega|simp only[oZ] at *;omega),[0,1,3],?_⟩;simp[cX,zC,c,cN,Ae,eC,Bb,gc,V]
     ·obtain rfl:k=nd.length:=by first|omega|simp only[oZ] at *;omega
      refine aE ?_;rw [i9];refine Au.AM [1,2] [(2,.o (.ptr 0 3 0 0)),(11,.o (.ip (BO ⟨t.al,rows,nd.map (λq=>decide (q≠-1))⟩)))] ⟨⟨_,rfl,.inl rfl⟩,⟨_,rfl,.inr (.o (.box rfl (.cons .d (.cons .d (.cons (.full rfl (by simp [d4]) (by simp)) .nil)))))⟩,trivial⟩ ?_;(repeat first |refine sN rfl ?_ |((first|refine sA rfl ?_ ?_|refine s4 rfl ‹_› rfl ?_ ?_);first|exact tI|omega|simp only[oZ] at *;omega) |refine s2 rfl λ_ a=>?_ |refine sP rfl (j) rfl ?_ |refine s3 rfl ?_ ?_<;>rintro rfl |refine aU rfl ?_ |refine Aa ?_);unfold Si;by_cases B:12 < M.nx.length
      ·rw [if_pos B]
       (repeat first |refine sN rfl ?_ |((first|refine sA rfl ?_ ?_|refine s4 rfl ‹_› rfl ?_ ?_);first|exact tI|omega|simp only[oZ] at *;omega) |refine s2 rfl λ_ a=>?_ |refine s3 rfl ?_ ?_<;>rintro rfl |refine aU rfl ?_ |refine Aa ?_)
       (repeat' first |refine sN rfl ?_ |((first|refine sA rfl ?_ ?_|refine s4 rfl ‹_› rfl ?_ ?_);first|exact tI|omega|simp only[oZ] at *;omega) |refine s2 rfl λ_ a=>?_|(refine Af rfl ?_;refine gA rfl ?_;first|refine gS (λ_ _=>AF rfl rfl (by rfl) (by rfl)) ?_) |refine s3 rfl ?_ ?_<;>rintro rfl |refine aU rfl ?_ |refine Aa ?_|(refine aC rfl ?_ ?_<;>rintro⟨⟩));all_goals try contradiction
       all_goals first
        | (exfalso;first|omega|simp only[oZ] at *;omega;done)
        | (subst_vars;exact aR ⟨_,rfl,rfl⟩)
      ·rw [if_neg B]
       (repeat first |refine sN rfl ?_ |((first|refine sA rfl ?_ ?_|refine s4 rfl ‹_› rfl ?_ ?_);first|exact tI|omega|simp only[oZ] at *;omega) |refine s2 rfl λ_ a=>?_ |refine s3 rfl ?_ ?_<;>rintro rfl |refine aU rfl ?_ |refine Aa ?_)
       (repeat' first |refine sN rfl ?_ |((first|refine sA rfl ?_ ?_|refine s4 rfl ‹_› rfl ?_ ?_);first|exact tI|omega|simp only[oZ] at *;omega) |refine s2 rfl λ_ a=>?_|(refine Af rfl ?_;refine gA rfl ?_;first|refine gS (λ_ _=>AF rfl rfl (by rfl) (by rfl)) ?_) |refine s3 rfl ?_ ?_<;>rintro rfl |refine aU rfl ?_ |refine Aa ?_|(refine aC rfl ?_ ?_<;>rintro⟨⟩));all_goals try contradiction
       all_goals first
        | (exfalso;first|omega|simp only[oZ] at *;omega;done)
        | (refine aK ?_)
       (repeat first |refine sN rfl ?_ |((first|refine sA rfl ?_ ?_|refine s4 rfl ‹_› rfl ?_ ?_);first|exact tI|omega|simp only[oZ] at *;omega) |refine s2 rfl λ_ a=>?_ |refine s3 rfl ?_ ?_<;>rintro rfl |refine aU rfl ?_ |refine Aa ?_);(subst_vars;exact aR ⟨_,rfl,rfl⟩)
 ·have ht:AZ t=false:=by simpa using ht
  rw [ht] at G;rw [if_neg (by rw [ht];decide)];refine eG Tryz.func45 rfl (by kernel_rfl) rfl ?_;intro Γ c;(repeat first |refine sN rfl ?_ |((first|refine sA rfl ?_ ?_|refine s4 rfl ‹_› rfl ?_ ?_);first|exact tI|omega|simp only[oZ] at *;omega) |refine s2 rfl λ_ a=>?_ |refine sP rfl (G) rfl ?_ |refine s3 rfl ?_ ?_<;>rintro rfl |refine aU rfl ?_ |refine Aa ?_)
  ((refine aC rfl ?_ ?_<;>rintro⟨⟩);all_goals try (simp at a;done))
  (repeat first |refine sN rfl ?_ |((first|refine sA rfl ?_ ?_|refine s4 rfl ‹_› rfl ?_ ?_);first|exact tI|omega|simp only[oZ] at *;omega) |refine s2 rfl λ_ a=>?_|(refine Af rfl ?_;refine gA rfl ?_;first|refine gS (λ_ _=>AF rfl rfl (by rfl) (by rfl)) ?_) |refine s3 rfl ?_ ?_<;>rintro rfl |refine aU rfl ?_ |refine Aa ?_);(subst_vars;exact aR ⟨_,rfl,rfl⟩)
end Go.Am
