/-
  Nodes are numbered: walked.
-/
import Derived.Test.YtdipaikojjjebaaGreatDoorPart28
import Derived.Test.YtdipaikojjjebaaGreatDoorPart12
set_option linter.all false
namespace Go.Am
open Go Go.Proofs
set_option maxHeartbeats 1000000
set_option maxRecDepth 4000
attribute [local irreducible] A5 Ck Lex Br Aj Spec
variable {TB:BJ}
def br(o:Option (List Int×List (List Int))):E:=match o with
 | some p=>.t [(false,[.d (EA p.1)]),(false,[.d (Ce p.2)]),(false,[.d (bD true)])]
 | none=>.t [(false,[.d (.l [])]),(false,[.d (.l [])]),(false,[.d (bD false)])]
theorem N6{lim:Nat}{f:Int->Int->Int}{ls:List Int}{s0:Int}{g:FuncId}{caps:List C}{R:Int->Prop}(h1:1<=lim/\lim<=64)(hll:ls.length<=6)(hs:R s0)(hR:∀q l,R q->l∈ls->R (f q l))
 (hg:∀q l,R q->l∈ls->Pure Tryz.prog TB g ([eI .i64 q,eI .i64 l]++caps.map .o) (eI .i64 (f q l))) (hc:C.Ie caps=true) (c:∀r,C.Cp r caps=caps) :
 Pure Tryz.prog TB 56 [eI .i64 s0,Ak ls,eI .i64 lim,.o (.fn g caps)] (br (HC lim f ls s0)):=by
 unfold HC;generalize X:FO lim f ls lim [s0] []=A;refine eG Tryz.func56 rfl (by kernel_rfl) rfl ?_;intro U e;(repeat first|refine tX rfl ?_|refine aU rfl ?_|apply Aa);(refine pW rfl ?_ rfl (by rfl);refine A8 rfl rfl rfl rfl (by simp[eC]) (by rfl) (by rfl) (by rfl) (by rfl) ?_);(repeat first|refine tX rfl ?_|refine aU rfl ?_|apply Aa);(refine pW rfl ?_ rfl (by rfl);refine J7 ?_);(repeat first|refine tA rfl ?_);(refine Al rfl ?_;refine Gf ?_ rfl (by rfl);refine fq (TA (l:=[]) rfl rfl rfl rfl rfl ?_));(repeat first|refine tM rfl ?_|refine aU rfl ?_|apply Aa);(refine pW rfl ?_ rfl (by rfl);refine G0 1 63 ?_);(repeat first|refine tM rfl ?_|refine aU rfl ?_|apply Aa);apply aB;refine aL (α:={z:List Int×List (List Int) // FO lim f ls (lim-z.2.length) z.1 z.2=A/\z.2.length<=z.1.length/\1<=z.1.length/\z.1.length<=lim/\∀q∈z.1,R q}) [1,2,3,12] [] rfl rfl (λs=>[(11,.o (.arr 0 1 0 s.1.1.length)),(13,.o (.arr 2 1 0 s.1.2.length)),(14,eI .i64 s.1.2.length)]) (λs=>[(0,.cells 3 1 (s.1.1.map Av)),(1,.mp (JA (Uh s.1.1))),(2,.cells 63 1 (s.1.2.map λr=>[.d (EA r)]))]) 3 (λs=>lim-s.1.2.length) (⟨⟨[s0],[]⟩,by simpa using X,by simp,by simp,by simpa using h1.1,by simpa using hs⟩) e rfl (by (simp[cX,zC,e,c,eC,BM,Ae,Uh])) ?_;rintro⟨⟨nd,rows⟩,u,G,H,F,w⟩;(try dsimp only[cA,cB]);have u:FO lim f ls (lim-rows.length) nd rows=A:=u;have G:rows.length<=nd.length:=G;have H:1<=nd.length:=H;have F:nd.length<=lim:=F;have w:∀q∈nd,R q:=w;by_cases N:rows.length<nd.length
 ·obtain⟨q,M⟩:=get_some N
  obtain⟨k,hk⟩:∃k,lim-rows.length=k+1:=⟨lim-rows.length-1,by omega⟩
  rw[hk]at u;simp only[FO,M]at u;generalize T:Er lim f q nd [] ls=B at u;have L:=w q (co M);(repeat first|refine tA rfl ?_|refine s2 rfl λ_ b=>?_|refine aU rfl ?_|apply Aa)
  ((refine aC rfl ?_ ?_<;>rintro⟨⟩);all_goals try(exfalso;(simp only[oZ] at *;omega)))
  apply aK;refine aS (aB ?_);(repeat first|refine aU rfl ?_);(refine pW rfl ?_ rfl (by rfl);refine G0 1 3 ?_);(repeat first|refine sN rfl ?_|refine tM rfl ?_|refine aU rfl ?_|apply Aa);apply aB;refine aL (α:={z:(List Int×List Int)×Nat // z.2<=ls.length/\Er lim f q z.1.1 z.1.2 (ls.drop z.2)=B/\z.1.2.length=z.2/\nd.length<=z.1.1.length/\z.1.1.length<=lim/\(∀q∈z.1.1,R q)/\z.1.1[rows.length]?=some q}) [1,2,3,12,13,14,32,33] [2] rfl rfl (λs=>[(11,.o (.arr 0 1 0 s.1.1.1.length)),(15,.o (.arr 3 1 0 s.1.2)),(34,eI .i64 s.1.2)]) (λs=>[(0,.cells 3 1 (s.1.1.1.map Av)),(1,.mp (JA (Uh s.1.1.1))),(3,.cells 3 1 (s.1.1.2.map Av))]) 4 (λs=>ls.length-s.1.2) (⟨⟨⟨nd,[]⟩,0⟩,by simp,T,rfl,lc _,F,w,M⟩) e rfl (by (simp[cX,zC,e,c,eC,BM,Ae,Gb])) ?_;rintro⟨⟨⟨a,row⟩,j⟩,Y,i,m,x,v,t,n⟩;(try dsimp only[cA,cB]);have Y:j<=ls.length:=Y;have i:Er lim f q a row (ls.drop j)=B:=i;have m:row.length=j:=m;have x:nd.length<=a.length:=x;have v:a.length<=lim:=v;have t:∀q∈a,R q:=t;have n:a[rows.length]?=some q:=n;by_cases Q:j<ls.length
  ·obtain⟨l,P⟩:=get_some Q
   have hl':=get_map (g:=Bc) P;have I:=co P;have hf:=hg q l L I;have S:=hR q l L I
   have hq':(a.map Av)[0+((rows.length:Nat):Int).toNat]?=some (Av q):=by rw[ms,d8];simp[n]
   rw[Bv P]at i;simp only[Er]at i;have p:=RT a (f q l);generalize f q l=y at *;(repeat first|refine s2 rfl λ_ b=>?_|refine aU rfl ?_|apply Aa)
   ((refine aC rfl ?_ ?_<;>rintro⟨⟩);all_goals try(exfalso;(simp only[oZ] at *;omega)))
   apply aK;refine aS (aB ?_);(repeat first|((first|refine sA rfl ?_ ?_|refine s4 rfl ‹_› rfl ?_ ?_);first|exact tI|omega)|(refine Al rfl ?_;refine gA rfl ?_;first|refine gS (λ_ _=>Fu rfl rfl (by simp[E.Gz,C.Gz,C.Ie,hc]) hf rfl) ?_)|refine aU rfl ?_|apply Aa);by_cases J:y∈a
   ·rw[if_pos J]at i p
    (repeat first|refine tA rfl ?_|refine s2 rfl λ_ b=>?_|(refine Al rfl ?_;refine gA rfl ?_;first|refine gQ (VM p rfl rfl rfl) rfl ?_)|refine aU rfl ?_|apply Aa)
    ((refine aC rfl ?_ ?_<;>rintro⟨⟩);all_goals try (simp at b;done))
    apply aK;(repeat first|refine tA rfl ?_|refine aU rfl ?_);(refine pW rfl ?_ rfl (by rfl);refine Au rfl rfl rfl (by first|(simp;done)|(simp;(omega))) rfl (by intro r c;simp at c;subst c;rfl) (by rfl) (ce rfl) (by simp;omega) ?_);(repeat first|(refine sA rfl ?_ ?_;first|exact tI|omega)|refine aU rfl ?_|apply Aa);refine⟨⟨⟨⟨a,row++[((a.idxOf y:Nat):Int)]⟩,j+1⟩,by dsimp only;omega,i,by simp[m],x,v,t,n⟩,by dsimp only;(omega),[0,1,2,4],?_⟩;simp[cX,zC,e,c,Gb]
   ·rw [if_neg J]at i p
    (repeat first|refine tA rfl ?_|refine s2 rfl λ_ b=>?_|(refine Al rfl ?_;refine gA rfl ?_;first|refine gQ (VL p rfl rfl rfl) rfl ?_)|refine aU rfl ?_|apply Aa)
    ((refine aC rfl ?_ ?_<;>rintro⟨⟩);all_goals try (simp at b;done))
    by_cases K:a.length=lim
    ·rw[if_pos K]at i
     subst i;(repeat first|refine tA rfl ?_|refine s2 rfl λ_ b=>?_|refine aU rfl ?_|apply Aa)
     ((refine aC rfl ?_ ?_<;>rintro⟨⟩);all_goals try(exfalso;(simp only[oZ] at *;omega)))
     (repeat first|refine tA rfl ?_|refine aU rfl ?_|apply Aa);have u:none=A:=u;subst u;exact aR ⟨_,rfl,rfl⟩
    ·rw[if_neg K]at i
     (repeat first|refine tA rfl ?_|refine s2 rfl λ_ b=>?_|refine aU rfl ?_|apply Aa)
     ((refine aC rfl ?_ ?_<;>rintro⟨⟩);all_goals try(exfalso;(simp only[oZ] at *;omega)))
     apply aK;(repeat first|refine tA rfl ?_|refine aU rfl ?_|apply Aa);(refine Al rfl ?_;refine Gf ?_ rfl (by rfl);refine TA rfl rfl rfl rfl p ?_);rw[<-Tx];(repeat first|refine tA rfl ?_|refine aU rfl ?_|apply Aa);(refine pW rfl ?_ rfl (by rfl);refine Au rfl rfl rfl (by first|(simp;done)|(simp;(omega))) rfl (by intro r c;simp at c;subst c;rfl) (by rfl) (ce rfl) (by simp;omega) ?_);(repeat first|refine tA rfl ?_|refine aU rfl ?_|apply Aa);(refine pW rfl ?_ rfl (by rfl);refine Au rfl rfl rfl (by first|(simp;done)|(simp;(omega))) rfl (by intro r c;simp at c;subst c;rfl) (by rfl) (ce rfl) (by simp;omega) ?_);(repeat first|(refine sA rfl ?_ ?_;first|exact tI|omega)|refine aU rfl ?_|apply Aa);refine⟨⟨⟨⟨a++[y],row++[(a.length:Int)]⟩,j+1⟩,by dsimp only;omega,i,by simp[m],by simp;omega,by simp;omega,λz Z=>by rcases gc.1 Z with h|h;exact t z h;simp at h;subst h;exact S,by rw[f9 (by omega)];exact n⟩,by dsimp only;(omega),[4,1,2,5],?_⟩;simp[cX,zC,e,c,Gb]
  ·obtain rfl:j=ls.length:=by omega
   rw[tK]at i;simp only[Er]at i;subst i;simp only at u;(repeat first|refine s2 rfl λ_ b=>?_|refine aU rfl ?_|apply Aa)
   ((refine aC rfl ?_ ?_<;>rintro⟨⟩);all_goals try(exfalso;(simp only[oZ] at *;omega)))
   apply aE;refine Aj.IF [3] [1,2,3,11,12,13,14] rfl [(15,Ak row)] ⟨⟨_,rfl,.o (.full (by simp) rfl (by simp[d5]) (by simpa using m))⟩,trivial⟩ ?_;(try dsimp only[cA,cB]);(repeat first|refine tA rfl ?_|refine aU rfl ?_);(refine pW rfl ?_ rfl (by rfl);refine Au rfl rfl rfl (by first|(simp;done)|(simp;(omega))) rfl (by intro r c;simp at c;subst c;rfl) (by rfl) (ce rfl) (by simp;omega) ?_);(repeat first|(refine sA rfl ?_ ?_;first|exact tI|omega)|refine aU rfl ?_|apply Aa);refine⟨⟨⟨a,rows++[row]⟩,by show FO lim f ls (lim-(rows++[row]).length) a _=A;rw[rW,uD,show lim-(rows.length+1)=k by omega];exact u,by simp;omega,by dsimp only;omega,v,t⟩,by dsimp only;((simp only[oZ] at *;omega)),[0,1,4],?_⟩;simp[cX,zC,e,c,Gb]
 ·have V:A=some (nd,rows):=by
   rw[<-u]
   cases lim-rows.length with
   | zero=>rfl
   | succ k=>simp only[FO];rw[qT (by omega)]
  subst V;(repeat first|refine tA rfl ?_|refine s2 rfl λ_ b=>?_|refine aU rfl ?_|apply Aa)
  ((refine aC rfl ?_ ?_<;>rintro⟨⟩);all_goals try(exfalso;(simp only[oZ] at *;omega)))
  apply aE;refine Aj.settle [(11,Ak nd),(13,EN rows)] ⟨⟨_,rfl,.o (.full rfl (by simp[d5]) (by simp))⟩,⟨_,rfl,.o (.full rfl (by simp[d5]) (by simp))⟩,trivial⟩ ?_;(repeat first|refine tA rfl ?_|refine aU rfl ?_|apply Aa);(subst_vars;exact aR ⟨_,rfl,rfl⟩)
end Go.Am
