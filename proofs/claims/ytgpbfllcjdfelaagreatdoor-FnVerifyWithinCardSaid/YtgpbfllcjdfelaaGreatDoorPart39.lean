/-
  Verdicts with other systems, other properties, wider assumptions, plainly.
-/
import Derived.Test.YtgpbfllcjdfelaaGreatDoorPart37
import Derived.Test.YtgpbfllcjdfelaaGreatDoorPart36
import Derived.Test.YtgpbfllcjdfelaaGreatDoorPart38
set_option linter.all false
namespace Go.Am
open Go Go.Proofs
set_option maxHeartbeats 1000000
set_option maxRecDepth 4000
attribute [local irreducible] AW BQ Lex A9 Aj Spec
theorem T7{s t:Sys}{p:AX}(h:(C5 s t p).code=0):¬BL s p t < 0:=λa=>by rw [Xa a] at h;cases h
theorem U7{s t:Sys}{p q:AX}(g:AE q=true)(l:∀w,EO w->CQ p w=true->CQ q w=true)(h:(C5 s t p).code=0):(C5 s t q).code=0\/(C5 s t q).code=2:=by
 have f:=T7 h;have hI:=Kn f;have b:¬BL s q t < 0:=Sq ⟨hI.hs,g,hI.ht,rfl⟩
 rcases Qb f with ⟨_,k,_⟩|⟨a,_⟩|⟨a,_⟩
 ·rcases Qb b with ⟨e,_⟩|⟨e,_⟩|⟨_,j,_⟩
  ·exact .inl e
  ·exact .inr e
  ·exfalso
   have d:(Bc [s,t] && AE p)=true:=by rw [Fy,hI.hs,hI.ht,hI.hp];rfl
   have c:(Bc [s,t] && AE q)=true:=by rw [Fy,hI.hs,hI.ht,g];rfl
   rw [FW d] at k;rw [(FW c).2 λw i m=>l w (EP i) (k w i m)] at j;cases j
 ·rw [h] at a;cases a
 ·rw [h] at a;cases a
end Go.Am
namespace Go.Am
open Go Go.Proofs
set_option maxHeartbeats 1000000
set_option maxRecDepth 4000
attribute [local irreducible] AW BQ Lex A9 Aj Spec
variable {TB:Bp}
theorem OY{c:C}{L:W->Bool}{ok:W->Prop}(H:Ja Tryz.prog TB c L ok)(al:Int)(t:Bl)(V:Ig ok (Bo al) t)(ht:Ie al 20012 t)(ho:BC L (Bo al) t=none) :
 AK Tryz.prog TB 65 0 [] 0 [Iq al c,Ir t] (JS (Bw L al t)):=by
 have e:=Eu c H.BX;have hrl:=ht.rl;have hcl:=ht.cl;have hla:(Ac al).length<=6:=AN al 6;have n:=ht.eM V (by omega)
 have K:(Bw L al t).nx.length=t.rows.length:=by simp [Bw]
 have hal:(Bw L al t).ac.length=t.rows.length:=by simp [Bw]
 refine AK.A7 (AK.PR (m:=0) (am rfl) Tryz.func65 rfl (by kernel_rfl) (am rfl) ?_);intro Z b;(repeat first |refine sN rfl ?_ |((first|refine sM rfl ?_ ?_|refine s4 rfl ‹_› rfl ?_ ?_);first|exact tI|omega|simp only[oZ] at *;omega) |refine s2 rfl λ_ a=>?_ |refine s3 rfl ?_ ?_<;>rintro rfl |refine aU rfl ?_ |refine Aa ?_ |refine rE (by kernel_rfl) ?_);(refine pW rfl ?_ rfl (by rfl);refine CT rfl rfl ?_);(refine Ai rfl ?_;refine Cv (λ_ _=>C4 rfl rfl rfl) rfl ?_);(repeat first |refine sN rfl ?_ |((first|refine sA rfl ?_ ?_|refine s4 rfl ‹_› rfl ?_ ?_);first|exact tI|omega|simp only[oZ] at *;omega) |refine s2 rfl λ_ a=>?_ |refine s3 rfl ?_ ?_<;>rintro rfl |refine aU rfl ?_ |refine Aa ?_);(refine pW rfl ?_ rfl (by rfl);refine Ae [] rfl rfl (GF H al t n.1) ⟨rfl,by simp,by simp⟩ (by simp [Es,E.A7,C.Cj,C.A7,e,eC]) trivial ?_;rintro x0 X Y ⟨rfl,rfl,rfl⟩ _);(repeat first |refine sN rfl ?_ |((first|refine sA rfl ?_ ?_|refine s4 rfl ‹_› rfl ?_ ?_);first|exact tI|omega|simp only[oZ] at *;omega) |refine s2 rfl λ_ a=>?_ |refine s3 rfl ?_ ?_<;>rintro rfl |refine aU rfl ?_ |refine Aa ?_);(refine pW rfl ?_ rfl (by rfl);refine IX 1 1 53 2 1 4 rfl rfl (by decide) rfl rfl (by rfl) (by rfl) ?_);(repeat first |refine sN rfl ?_ |((first|refine sA rfl ?_ ?_|refine s4 rfl ‹_› rfl ?_ ?_);first|exact tI|omega|simp only[oZ] at *;omega) |refine s2 rfl λ_ a=>?_ |refine s3 rfl ?_ ?_<;>rintro rfl |refine aU rfl ?_ |refine Aa ?_);refine aB ?_;refine Aj.Yw 3 ?_;refine aL (α:={s:Nat×Ho // s.1<=t.rows.length/\s.2.map (·.2)=(Bw L al t).nx.take s.1}) [2,3,4,5,6,19,20] [0,1,2] rfl rfl (λs=>[(21,eI .i64 s.1.1)]) (λs=>[(5,.cells 29 3 [[.d (iD al),.arr 3 1 0 s.1.2.length,.arr 4 1 0 s.1.1]]),(3,.cells 53 1 (AB s.1.2)),(4,.cells 4 1 (((Bw L al t).ac.take s.1.1).map AO)),(6,.sld 3 (sI s.1.2))]) 7 (λs=>t.rows.length - s.1.1) (⟨⟨0,[]⟩,by simp,by simp⟩) b rfl (by ((repeat' first|exact tI|rfl|refine And.intro ?_ ?_)<;>(simp[cX,zC,b,cN,e,eC,BV,Af]<;>rfl))) ?_;rintro⟨⟨k,l⟩,B,A⟩;(try dsimp only[cA,cB]);have B:k<=t.rows.length:=B;have A:l.map (·.2)=(Bw L al t).nx.take k:=A
 have hll:l.length=k:=by have:=congrArg List.length A;simp at this;omega
 by_cases R:k < t.rows.length
 ·obtain⟨r,u⟩:=get_some (l:=t.rows) (k:=k) R
  have hx':=get_map (g:=Gh) u;have f:=co u;(repeat first |refine sN rfl ?_ |((first|refine sA rfl ?_ ?_|refine s4 rfl ‹_› rfl ?_ ?_);first|exact tI|omega|simp only[oZ] at *;omega) |refine s2 rfl λ_ a=>?_ |refine s3 rfl ?_ ?_<;>rintro rfl |refine aU rfl ?_ |refine Aa ?_)
  ((refine aC rfl ?_ ?_<;>rintro⟨⟩);all_goals try(exfalso;first|omega|simp only[oZ] at *;omega))
  refine aK ?_;refine aS (aB ?_);(repeat first |refine sN rfl ?_ |((first|refine sM rfl ?_ ?_|refine s4 rfl ‹_› rfl ?_ ?_);first|exact tI|omega|simp only[oZ] at *;omega) |refine s2 rfl λ_ a=>?_ |refine s3 rfl ?_ ?_<;>rintro rfl |refine aU rfl ?_ |refine Aa ?_ |refine rE (by kernel_rfl) ?_);(refine pW rfl ?_ rfl (by rfl);refine Gx 1 3 ?_);(repeat first |refine sN rfl ?_ |((first|refine sM rfl ?_ ?_|refine s4 rfl ‹_› rfl ?_ ?_);first|exact tI|omega|simp only[oZ] at *;omega) |refine s2 rfl λ_ a=>?_ |refine sP rfl (Cn al) rfl ?_ |refine s3 rfl ?_ ?_<;>rintro rfl |refine aU rfl ?_ |refine Aa ?_ |refine rE (by kernel_rfl) ?_);refine aB ?_;refine aL (α:={j:Nat // j<=(Ac al).length}) [2,3,4,5,6,8,19,20,21,27,28] [0,1,2,3,4,5,6] rfl rfl (λs=>[(9,.o (.arr 7 1 0 s.1)),(29,eI .i64 s.1)]) (λs=>[(7,.cells 3 1 (((Ac al).take s.1).map λl=>[.d (iD ((EJ L t (r++[lb l]):Nat):Int))]))]) 8 (λs=>(Ac al).length - s.1) (⟨0,by omega⟩) b rfl (by ((repeat' first|exact tI|rfl|refine And.intro ?_ ?_)<;>(simp[cX,zC,b,cN,e,eC]<;>rfl))) ?_;rintro⟨j,G⟩;(try dsimp only[cA,cB]);have G:j<=(Ac al).length:=G;by_cases F:j < (Ac al).length
  ·obtain⟨m,P⟩:=get_some F
   have hm':=get_map (g:=BB) P;have p:=co P;have z:=Ak p;have hrb:=ht.onR r f;have N:=Kt (TB:=TB) H al t (r++[lb m]) (by omega) (λx u=>n.2 r f _ (d8.2 ⟨m,p,rfl⟩) x u) (λy hy=>by have:=(ht.onC y hy).2;simp;omega);have S:=Sz ho f p;(repeat first |refine sN rfl ?_ |((first|refine sA rfl ?_ ?_|refine s4 rfl ‹_› rfl ?_ ?_);first|exact tI|omega|simp only[oZ] at *;omega) |refine s2 rfl λ_ a=>?_ |refine s3 rfl ?_ ?_<;>rintro rfl |refine aU rfl ?_ |refine Aa ?_)
   ((refine aC rfl ?_ ?_<;>rintro⟨⟩);all_goals try(exfalso;first|omega|simp only[oZ] at *;omega))
   refine aK ?_;refine aS (aB ?_);(repeat first |refine sN rfl ?_ |((first|refine sA rfl ?_ ?_|refine s4 rfl ‹_› rfl ?_ ?_);first|exact tI|omega|simp only[oZ] at *;omega) |refine s2 rfl λ_ a=>?_ |refine s3 rfl ?_ ?_<;>rintro rfl |refine aU rfl ?_ |refine Aa ?_);refine rG (HQ [13]) (by kernel_rfl) ?_;(repeat first |refine sN rfl ?_ |((first|refine sA rfl ?_ ?_|refine s4 rfl ‹_› rfl ?_ ?_);first|exact tI|omega|simp only[oZ] at *;omega) |refine s2 rfl λ_ a=>?_ |refine sP rfl (EU m z.1 (by omega)) rfl ?_|(refine Ai rfl ?_;refine gA rfl ?_;first|refine gS (λ_ _=>UK rfl (by omega) (by omega)) ?_) |refine s3 rfl ?_ ?_<;>rintro rfl |refine aU rfl ?_ |refine Aa ?_);rw [ZC z.1];(repeat first |refine sN rfl ?_ |((first|refine sM rfl ?_ ?_|refine s4 rfl ‹_› rfl ?_ ?_);first|exact tI|omega|simp only[oZ] at *;omega) |refine s2 rfl λ_ a=>?_|(refine Ai rfl ?_;refine gA rfl ?_;first|refine gS (λ_ _=>Bh rfl rfl (by simp [E.BX,C.C6,C.BX,H.BX,eC]) N rfl) ?_|refine gQ (WB rfl rfl rfl) (by rfl) ?_) |refine s3 rfl ?_ ?_<;>rintro rfl |refine aU rfl ?_ |refine Aa ?_ |refine rE (by kernel_rfl) ?_);(repeat first |refine sN rfl ?_ |((first|refine sA rfl ?_ ?_|refine s4 rfl ‹_› rfl ?_ ?_);first|exact tI|omega|simp only[oZ] at *;omega) |refine s2 rfl λ_ a=>?_ |refine s3 rfl ?_ ?_<;>rintro rfl |refine aU rfl ?_ |refine Aa ?_);(refine pW rfl ?_ rfl (by rfl);refine Aw rfl rfl rfl (by first|(simp;done)|(simp;(first|omega|simp only[oZ] at *;omega))) rfl (by intro r e;simp at e;subst e;rfl) (by rfl) (am rfl) (by simp;omega) ?_);(repeat first |refine sN rfl ?_ |((first|refine sA rfl ?_ ?_|refine s4 rfl ‹_› rfl ?_ ?_);first|exact tI|omega|simp only[oZ] at *;omega) |refine s2 rfl λ_ a=>?_ |refine s3 rfl ?_ ?_<;>rintro rfl |refine aU rfl ?_ |refine Aa ?_);rw [S];refine⟨⟨j+1,by first|omega|simp only[oZ] at *;omega⟩,by dsimp only;(first|omega|simp only[oZ] at *;omega),[0,1,2,3,4,5,6,8],?_⟩;simp[cX,zC,b,cN,e,gt,P]
  ·obtain rfl:j=(Ac al).length:=by omega
   have I:=V r ⟨r,f,[],.inl rfl,[],.inl rfl,by simp⟩
   have J:(Bw L al t).nx.take (k+1)=(Bw L al t).nx.take k++[(Ac al).map λl=>((EJ L t (r++[lb l]):Nat):Int)]:=by
    rw [gt];simp [Bw,u]
   have q:(Bw L al t).ac.take (k+1)=(Bw L al t).ac.take k++[L r]:=by
    rw [gt];simp [Bw,u]
   rw [i7];generalize h:(Ac al).map (λl=>((EJ L t (r++[lb l]):Nat):Int))=row at *
   have w:(Ac al).length=row.length:=by rw [<-h];simp
   have M:(Ac al).map (λl=>[C.d (iD ((EJ L t (r++[lb l]):Nat):Int))])=row.map AP:=by rw [<-h,mr];rfl
   (repeat first |refine sN rfl ?_ |((first|refine sA rfl ?_ ?_|refine s4 rfl ‹_› rfl ?_ ?_);first|exact tI|omega|simp only[oZ] at *;omega) |refine s2 rfl λ_ a=>?_ |refine s3 rfl ?_ ?_<;>rintro rfl |refine aU rfl ?_ |refine Aa ?_)
   ((refine aC rfl ?_ ?_<;>rintro⟨⟩);all_goals try(exfalso;first|omega|simp only[oZ] at *;omega))
   refine aE ?_;(repeat first |refine sN rfl ?_ |((first|refine sX rfl ?_ ?_|refine s4 rfl ‹_› rfl ?_ ?_);first|exact tI|omega|simp only[oZ] at *;omega) |refine s2 rfl λ_ a=>?_ |refine s3 rfl ?_ ?_<;>rintro rfl |refine aU rfl ?_ |refine Aa ?_);(refine pW rfl ?_ rfl (by rfl);refine Bb rfl rfl rfl rfl (by simp [eC]) (by rfl) (by rfl) (by rfl) (by rfl) ?_);(repeat first |refine sN rfl ?_ |((first|refine sX rfl ?_ ?_|refine s4 rfl ‹_› rfl ?_ ?_);first|exact tI|omega|simp only[oZ] at *;omega) |refine s2 rfl λ_ a=>?_ |refine s3 rfl ?_ ?_<;>rintro rfl |refine aU rfl ?_ |refine Aa ?_);(refine pW rfl ?_ rfl (by rfl);refine Aw rfl rfl rfl (Ci _) rfl (by intro r e;simp at e;subst e;rfl) (by rfl) (am rfl) (by simp;omega) ?_);(repeat first |refine sN rfl ?_ |((first|refine sX rfl ?_ ?_|refine s4 rfl ‹_› rfl ?_ ?_);first|exact tI|omega|simp only[oZ] at *;omega) |refine s2 rfl λ_ a=>?_ |refine s3 rfl ?_ ?_<;>rintro rfl |refine aU rfl ?_ |refine Aa ?_);refine Aj.AA [2,3,4,5,6,8,19,20,21] [0,1,2,4] rfl rfl [] [(3,.cells 53 1 (AB l++[[.arr 7 1 0 row.length]])),(5,.cells 29 3 [[.d (iD al),.arr 3 1 0 (l.length+1),.arr 4 1 0 k]]),(6,.sld 3 (sI l)),(7,.cells 3 1 (row.map AP))] [0,1,2,9,4,5,6,7] (rl b rfl) (by ((repeat' first|exact tI|rfl|refine And.intro ?_ ?_)<;>(simp[cX,zC,b,cN,e,BV,Af,eC,w,M]<;>rfl))) ?_;(try dsimp only[cA,cB]);refine Aj.Og 3 7 6 l row rfl rfl rfl λv=>?_;(repeat first |refine sN rfl ?_ |((first|refine sA rfl ?_ ?_|refine s4 rfl ‹_› rfl ?_ ?_);first|exact tI|omega|simp only[oZ] at *;omega) |refine s2 rfl λ_ a=>?_ |refine s3 rfl ?_ ?_<;>rintro rfl |refine aU rfl ?_ |refine Aa ?_);refine rG (HQ [7,9]) (by kernel_rfl) ?_;(repeat first |refine sN rfl ?_ |((first|refine sA rfl ?_ ?_|refine s4 rfl ‹_› rfl ?_ ?_);first|exact tI|omega|simp only[oZ] at *;omega) |refine s2 rfl λ_ a=>?_|(refine Ai rfl ?_;refine gA rfl ?_;first|refine gS (λ_ _=>H.ask rfl rfl I) ?_) |refine s3 rfl ?_ ?_<;>rintro rfl |refine aU rfl ?_ |refine Aa ?_);(refine pW rfl ?_ rfl (by rfl);refine Aw rfl rfl rfl (by first|(simp;done)|(simp;(first|omega|simp only[oZ] at *;omega))) rfl (by intro r e;simp at e;subst e;rfl) (by rfl) (am rfl) (by simp;omega) ?_);(repeat first |refine sN rfl ?_ |((first|refine sA rfl ?_ ?_|refine s4 rfl ‹_› rfl ?_ ?_);first|exact tI|omega|simp only[oZ] at *;omega) |refine s2 rfl λ_ a=>?_ |refine s3 rfl ?_ ?_<;>rintro rfl |refine aU rfl ?_ |refine Aa ?_);refine⟨⟨⟨k+1,l++[(v,row)]⟩,by dsimp only;omega,by dsimp only;rw [mn,A,J];rfl⟩,by dsimp only;(first|omega|simp only[oZ] at *;omega),[0,1,2,3,8,5,6],?_⟩;simp[cX,zC,b,cN,e,eC,BV,Af,q]
 ·have T:k=t.rows.length:=by omega
  (repeat first |refine sN rfl ?_ |((first|refine sA rfl ?_ ?_|refine s4 rfl ‹_› rfl ?_ ?_);first|exact tI|omega|simp only[oZ] at *;omega) |refine s2 rfl λ_ a=>?_ |refine s3 rfl ?_ ?_<;>rintro rfl |refine aU rfl ?_ |refine Aa ?_)
  ((refine aC rfl ?_ ?_<;>rintro⟨⟩);all_goals try(exfalso;first|omega|simp only[oZ] at *;omega))
  refine aE ?_;(repeat first |refine sN rfl ?_ |((first|refine sA rfl ?_ ?_|refine s4 rfl ‹_› rfl ?_ ?_);first|exact tI|omega|simp only[oZ] at *;omega) |refine s2 rfl λ_ a=>?_ |refine s3 rfl ?_ ?_<;>rintro rfl |refine aU rfl ?_ |refine Aa ?_)
  have Q:l.map (·.2)=(Bw L al t).nx:=by rw [A,T,<-K,i7]
  have U:l.length=t.rows.length:=by omega
  have q:(Bw L al t).ac.take k=(Bw L al t).ac:=lm (by rw [hal];omega);rw [q]
  obtain rfl:k=(Bw L al t).ac.length:=by omega
  refine aR ⟨_,rfl,[3,4,6],Ua al 0 1 l.length (Bw L al t).ac.length,[(0,.cells 53 1 (AB l)),(1,.cells 4 1 ((Bw L al t).ac.map AO)),(2,.sld 3 (sI l))],⟨by intro i hi;omega,by decide⟩,rfl,by ((repeat' first|exact tI|rfl|refine And.intro ?_ ?_)<;>(simp[cX,zC,b,cN]<;>rfl)),l,Q,rfl,rfl,rfl⟩
end Go.Am
namespace Go.Am
open Go Go.Proofs
set_option maxHeartbeats 1000000
set_option maxRecDepth 4000
attribute [local irreducible] AW BQ Lex A9 Aj Spec
variable {tabs:List (Nat×Obj)}
end Go.Am
namespace Go.Am
open Go Go.Proofs
set_option maxHeartbeats 1000000
set_option maxRecDepth 4000
attribute [local irreducible] AW BQ Lex A9 Aj Spec
set_option linter.unusedSectionVars false
section
variable {s t s' t':Sys}{p p':AX}{al:Int}(hI:FG s p t al)(hI':FG s' p' t' al)(hL:eu (LS ⟨s',p',al⟩) (LS ⟨s,p,al⟩) al)
include hI hI' hL
end
theorem Rq{s t:Sys}{p:AX}{al:Int}(hI:FG s p t al){x:Bl}{r:Nat}(c:GO s p al x r){w:W}{b:Bool}(h:Gm s t p al (Cz s p al x)=some (w,b)):AU (Bo al) w:=by
 obtain⟨g,a,_⟩:=Qs hI c;unfold Gm at h;split at h
 ·rename_i u e
  injection h with h;injection h with h f
  subst h;exact UX (Vk hI g a e).1
 ·split at h
  ·rename_i v d
   injection h with h;injection h with h f
   subst h;have:=(TX d).1;rw [a] at this;exact UX this
  ·cases h
end Go.Am
namespace Go.Am
open Go Go.Proofs
set_option linter.unusedVariables false
theorem Tw{s t:Sys}{p:AX}{al:Int}:∀(k:Nat) (x:Bl),(Eb s t p al k x).length<=k+1
 | 0,x=>by simp [Eb]
 | k+1,x=>by
  simp only [Eb]
  cases Ha s t p al x with
  | none=>simp
  | some y=>have:=Tw (s:=s) (t:=t) (p:=p) (al:=al) k y;simp only [l7];omega
def RU(s t:Sys)(p:AX)(al:Int)(x:Bl)(v:W):Prop:=Mk (Bo al) x v\/∃w b,Gm s t p al (Cz s p al x)=some (w,b)/\(v=w\/Vx (LS ⟨s,p,al⟩) (Bo al) x w v)
theorem WM{s t:Sys}{p:AX}{al:Int}(h:Bv ⟨s,p,al⟩=true){x:Bl}(a:x∈Ck s t p al):∃r,GO s p al x r:=by
 obtain⟨i,hi⟩:=List.mem_iff_getElem?.1 a;exact⟨_,OI 11 (RB h).2 i x hi⟩
theorem RC{s:Sys}{p:AX}{al:Int}{x:Bl}{r:Nat}(b:GO s p al x r):Ie al 20000 x:=by
 obtain⟨_,_,_,a,_⟩:=GB b.v;have:=a.bd;rwa [Fo] at this
section
variable {s t:Sys}{p:AX}{al:Int}(hI:FG s p t al)(h:Bv ⟨s,p,al⟩=true)
include hI h
theorem Xf{x:Bl}(g:x∈Ck s t p al):Ed 288238 (RU s t p al x):=by
 obtain⟨r,e⟩:=WM h g;have hb:=RC e;refine((Lq hb).or (b:=286474) ?_).sub (b:=288238) (λv c=>c) (by omega)
 cases f:Gm s t p al (Cz s p al x) with
 | none=>exact .none λv ⟨w,b,a,_⟩=>by cases a
 | some wb=>
  obtain⟨w,b⟩:=wb;have d:=Rq hI e f;have i:=Np f;refine((Ed.map (n:=1) (p:=λv=>v=w) (λ_:Unit=>w) [()] (by simp) λv c=>⟨(),by simp,c⟩).or (Xu (L:=LS ⟨s,p,al⟩) hb d (by omega))).sub (b:=286474) (λv ⟨w',b',a,c⟩=>?_) (by omega)
  injection a with a
  injection a with a _
  subst a;exact c
theorem bX{x:Bl}(k:x∈Ck s t p al)(v:W)(a:RU s t p al x v):okB al v:=by
 obtain⟨r,f⟩:=WM h k;have hb:=RC f
 rcases a with a|⟨w,b,g,a⟩
 ·exact hb.on (ID al) (by omega) v a
 ·have d:=Rq hI f g
  have e:=Np g
  rcases a with rfl|a
  ·exact⟨d,by omega⟩
  ·rcases a with a|a|⟨z,i,u,l,y,j,a⟩
   ·exact hb.on (ID al) (by omega) v a
   ·exact(hb.mono (by omega)).lk (ID al) d (by omega) v a
   ·obtain⟨q,_,rfl⟩:=JN i
    exact(Qo hb (λc m=>d c (by simp [m])) (by simp at e;omega) l).kG (ID al) (by omega) y j v a
theorem bW:∃ok:W->Prop,(∀w,ok w->gE al w)/\RD (HJ s p al) ok/\(∀y∈El (LS ⟨s,p,al⟩) (Bo al) 13 BT,Ig ok (Bo al) y)/\
 ∀x∈Ck s t p al,Ig ok (Bo al) x/\∀w b,Gm s t p al (Cz s p al x)=some (w,b)->ok w/\∀v,Vx (LS ⟨s,p,al⟩) (Bo al) x w v->ok v:=by
 have i:=Px (L:=LS ⟨s,p,al⟩) (Ma al);have g:Ed (12*288238) (λv=>∃x∈Ck s t p al,RU s t p al x v):=Ed.ex (n:=12) (b:=288238) (q:=λx v=>RU s t p al x v) (Ck s t p al) (Tw 11 _) (λx c=>Xf hI h c) λw d=>d;have l:=i.or g
 have e:∀w,((∃y∈El (LS ⟨s,p,al⟩) (Bo al) 13 BT,Mk (Bo al) y w)\/∃x∈Ck s t p al,RU s t p al x w)->okB al w:=λw d=>by
  rcases d with ⟨y,f,a⟩|⟨x,c,a⟩
  ·exact(Ma al).kG (ID al) (by omega) y f w a
  ·exact bX hI h c w a
 obtain⟨k,m⟩:=dM (te:=HJ s p al) l (by omega) (λw d=>by rw [Fo];exact e w d);rw [Fo] at k;exact⟨_,k,m,λy f v a=>.inl ⟨y,f,a⟩,λx c=>⟨λv a=>.inr ⟨x,c,.inl a⟩,λw b j=>⟨.inr ⟨x,c,.inr ⟨w,b,j,.inl rfl⟩⟩,λv a=>.inr ⟨x,c,.inr ⟨w,b,j,.inr a⟩⟩⟩⟩⟩
end
end Go.Am
namespace Go.Am
open Go Go.Proofs
set_option maxHeartbeats 1000000
set_option maxRecDepth 4000
attribute [local irreducible] AW BQ Lex A9 Aj Spec
def LR(al:Int)(w:W):W:=w.filter (O7 al)
theorem Zx{al l:Int}(h:0<=l/\l < 6):O7 al (UInt8.ofNat (97+l.toNat))=AR al l.toNat:=by
 have a:(UInt8.ofNat (97+l.toNat)).toNat=97+l.toNat:=by simp;omega
 have c:=Sr al (UInt8.ofNat (97+l.toNat))
 have b:MR (UInt8.ofNat (97+l.toNat))=true:=by rw [J9,a,decide_eq_true_eq];omega
 rw [<-c,if_pos b,a];unfold hasB;rw [show ((97+l.toNat:Nat):Int) - 97=l by omega,decide_eq_true h.1];rfl
theorem Oq{al:Int}:∀ {u:List Int},EO u->LR al (CA u)=CA (Bu al u)
 | [],_=>rfl
 | l::u,b=>by
  have a:=Oq (al:=al) (u:=u) (λx c=>b x (by simp [c]));have d:=Zx (al:=al) (b l (by simp));unfold LR CA Bu at *;rw [mt,nX,nX,d];cases AR al l.toNat
  ·simpa using a
  ·simpa using a
theorem aX(al:Int)(w:W):(LR al w).length<=w.length:=nn _ _
theorem X0{al:Int}{w:W}{k:Nat}{c:UInt8}(a:w[k]? = some c):LR al (w.take (k+1))=if O7 al c then LR al (w.take k)++[c] else LR al (w.take k):=by
 unfold LR;rw [gt,a,Option.toList_some,mB];cases h:O7 al c<;>simp [h]
theorem YG{s:Sys}{a p:AX}{u:List Int}(h:EE s a p=some u):EO u/\(CA u).length<=2304:=by
 obtain⟨_,b,_⟩:=JQ h;exact⟨EP b,by unfold CA;rw [f9];exact Qd h⟩
theorem YF{t:Sys}{a:AX}{u:List Int}(h:CW [t] a=some u):EO u/\(CA u).length<=192:=by
 obtain⟨_,_,b,_⟩:=Gq h;exact⟨EP b,by unfold CA;rw [f9];exact Qc h⟩
noncomputable def CS(s t:Sys)(p:AX)(al:Int)(k:Nat):Bl:=(Ck s t p al).getD k ⟨[],[]⟩
abbrev js(v:Vd):List D:=[iD v.code,iD v.a.al,C1 v.a.nx,Fp v.a.ac,tD v.tr,iD v.rd]
abbrev ff(v:Vd):E:=.a [.d (iD v.code),.d (iD v.a.al),.d (C1 v.a.nx),.d (Fp v.a.ac),.d (tD v.tr),.d (iD v.rd)]
section
variable {s t:Sys}{p:AX}{al:Int}(hI:FG s p t al)
include hI
theorem dH{x:Bl}{r:Nat}(b:GO s p al x r){w:W}(c:AU (Bo al) w)(d:w.length<=4000):OE (HJ s p al) x w=Gg (LS ⟨s,p,al⟩) (Bo al) x w:=by
 have e:(C7 (HJ s p al) && Ei (CI (HJ s p al)) (Bi (HJ s p al)) x)=true:=by
  rw [Xo b.v,OP,Fo,b.o];rfl
 have a:Kp (Bi (HJ s p al)) w=true:=by rw [Fo];exact VR (Sp hI) c d
 unfold OE;rw [e,a,pf,if_pos rfl,OP,Fo]
theorem ZV{x:Bl}{r:Nat}(a:GO s p al x r){w:W}{b:Bool}(h:Gm s t p al (Cz s p al x)=some (w,b))(hb:(b || LS ⟨s,p,al⟩ w)=true):Ha s t p al x=Gg (LS ⟨s,p,al⟩) (Bo al) x w:=by
 unfold Ha;rw [h];simp only [hb,if_true];exact dH hI a (Rq hI a h) (Np h)
omit hI in
theorem IM{k:Nat}(h:k < (Ck s t p al).length):(Ck s t p al)[k]? = some (CS s t p al k):=by
 unfold CS;rw [nY,d5 h];rfl
theorem OR{k:Nat}(h:k+1=(Ck s t p al).length):C5 s t p=NY s t p al (CS s t p al k) (k+1):=by
 unfold C5;rw [if_neg (Sq hI),<-hI.hal,<-h]
 have e:(Ck s t p al).getLastD BT=CS s t p al k:=by
  rw [List.getLastD_eq_getLast?,List.getLast?_eq_getElem?,<-h,Nat.add_sub_cancel,IM (by omega)];rfl
 rw [e]
theorem bf{k:Nat}(h:k < (Ck s t p al).length):GO s p al (CS s t p al k) (k+1)/\
    ((Gm s t p al (Cz s p al (CS s t p al k))=none/\C5 s t p=⟨0,Cz s p al (CS s t p al k),[],(k:Int)+1⟩/\k+1=(Ck s t p al).length)\/
      ∃ w b,Gm s t p al (Cz s p al (CS s t p al k))=some (w,b)/\AU (Bo al) w/\w.length<=4000/\
        ((b = false/\LS ⟨s,p,al⟩ w=false/\C5 s t p=⟨1,UC,TR (CW [s,t] p),(k:Int)+1⟩/\k+1=(Ck s t p al).length)\/
         ((b=true\/LS ⟨s,p,al⟩ w=true)/\((Gg (LS ⟨s,p,al⟩) (Bo al) (CS s t p al k) w=some (CS s t p al (k+1))/\k+1 < (Ck s t p al).length)\/
           (Gg (LS ⟨s,p,al⟩) (Bo al) (CS s t p al k) w=none/\CS s t p al (k+1)=⟨[],[]⟩/\k+1=(Ck s t p al).length/\C5 s t p=⟨2,UC,[],(k:Int)+1⟩))))):=by
  obtain⟨l,g⟩:=run_get hI (IM h);refine⟨l,?_⟩
  have f:((k+1:Nat):Int)=(k:Int)+1:=by omega
  have a:Ha s t p al (CS s t p al k)=none->k+1=(Ck s t p al).length:=λe=>by
    rw [e] at g;have:=List.getElem?_eq_none_iff.1 g;omega
  cases d:Gm s t p al (Cz s p al (CS s t p al k)) with
  | none=>
    have e:Ha s t p al (CS s t p al k)=none:=by unfold Ha;rw [d]
    have c:=OR hI (a e);unfold NY at c;rw [d,f] at c;exact .inl ⟨rfl,c,a e⟩
  | some wb=>
    obtain⟨w,b⟩:=wb;refine .inr ⟨w,b,rfl,Rq hI l d,Np d,?_⟩;by_cases hb:(b || LS ⟨s,p,al⟩ w)=true
    · refine .inr ⟨by simpa using hb,?_⟩
      have e:=ZV hI l d hb
      cases i:Gg (LS ⟨s,p,al⟩) (Bo al) (CS s t p al k) w with
      | some y=>
        rw [i] at e;rw [e] at g;have j:=(ce.1 g).1;refine .inl ⟨?_,j⟩;rw [IM j] at g;exact g.symm
      | none=>
        rw [i] at e;have hk:=a e;have c:=OR hI hk;unfold NY at c;rw [d] at c;simp only [hb,if_true,f] at c;refine .inr ⟨rfl,?_,hk,c⟩;unfold CS;rw [nY,lQ (by omega)];rfl
    · have e:Ha s t p al (CS s t p al k)=none:=by unfold Ha;rw [d];simp only [hb];rfl
      have hk:=a e;have c:=OR hI hk;unfold NY at c;rw [d] at c;simp only [hb,f] at c
      have hb:b=false/\LS ⟨s,p,al⟩ w=false:=by simpa using hb
      exact .inl ⟨hb.1,hb.2,c,hk⟩
theorem aN{a:AX}{w:W}{b:Bool}(h:Gm s t p al a=some (w,b)):(∃u,b=true/\EE s a p=some u/\LR al (CA u)=w/\EO u/\(CA u).length<=2304)\/(∃u,b=false/\EE s a p=none/\CW [t] a=some u/\LR al (CA u)=w/\EO u/\(CA u).length<=192):=by
 unfold Gm at h;split at h
 ·rename_i u d
  injection h with h;injection h with h e
  obtain⟨c,f⟩:=YG d;exact .inl ⟨u,e.symm,d,(Oq c).trans h,c,f⟩
 ·rename_i d
  split at h
  ·rename_i v g
   injection h with h;injection h with h e
   obtain⟨c,f⟩:=YF g;exact .inr ⟨v,e.symm,d,g,(Oq c).trans h,c,f⟩
  ·cases h
omit hI in
theorem aO{a:AX}(h:Gm s t p al a=none):EE s a p=none/\CW [t] a=none:=by
 unfold Gm at h;split at h
 ·cases h
 ·rename_i c
  split at h
  ·cases h
  ·rename_i b
   exact⟨c,b⟩
theorem gi:XQ (HJ s p al)=some (CS s t p al 0):=by
 obtain⟨b,_⟩:=RB (s:=s) (p:=p) (al:=al) (Gt hI);have a:=IM (s:=s) (t:=t) (p:=p) (al:=al) (k:=0) (by have:=Rv hI;omega);rw [b];unfold Ck at a;simp only [Eb] at a
 simpa using a
end
end Go.Am
namespace Go.Am
open Go Go.Proofs
set_option maxHeartbeats 1000000
set_option maxRecDepth 4000
attribute [local irreducible] AW BQ Lex A9 Aj Spec
variable {TB:Bp}
abbrev dN(s:Sys)(p:AX)(t:Sys):CR×Bool:=if BL s p t < 0 then (⟨⟨0,0,[]⟩,⟨0,[],[]⟩,0⟩,false) else (⟨s,p,BL s p t⟩,true)
section
variable {tabs:List (Nat×Obj)}[hTb:Dx ⟨tabs,none⟩]{te:Ii}
include hTb
end
theorem Xl(l:List Ec)(h:l.length<=1048576):Spec Tryz.prog TB 198 [] 0 [.o (.d (Ej l))] (λx σ nx=>x=.o (.arr 0 3 0 l.length)/\nx=1/\σ=[(0,.cells 158 3 (l.map A5))]):=by
 refine eN Tryz.func198 rfl (by kernel_rfl) rfl ?_;intro Z a;(repeat first|refine aU rfl ?_);(refine Ai rfl ?_;refine Cv (λ_ _=>Cy rfl) rfl ?_);(repeat first|refine tM rfl ?_ |refine aU rfl ?_ |refine Aa ?_);(refine pW rfl ?_ rfl (by rfl);refine Kz rfl ?_;intro e b);(repeat first|refine Aa ?_);(refine aC rfl ?_ ?_<;>rintro⟨⟩)
 ·obtain rfl:l=[]:=by simpa using b rfl
  (repeat first|refine aU rfl ?_);(refine pW rfl ?_ rfl (by rfl);refine Gx 3 158 ?_);(repeat first|refine Aa ?_);refine aR ⟨_,rfl,rfl,rfl,rfl⟩
 ·refine aK ?_
  (repeat first|refine aU rfl ?_);(refine pW rfl ?_ rfl (by rfl);refine Bb rfl rfl rfl rfl (by simp) (by rfl) (by rfl) (by rfl) (by rfl) ?_);(repeat first|refine tM rfl ?_);(refine pW rfl ?_ rfl (by rfl);refine Aw rfl rfl rfl (by first| (simp;done)|(simp;(omega))) rfl (by intro r c;simp only [mr,d8] at c;obtain⟨_,_,rfl⟩:=c;rfl) (by rfl) (am rfl) (by simp;omega) ?_);(repeat first|refine tM rfl ?_ |refine Aa ?_);refine Aj.names [1] [(2,.o (.arr 0 3 0 l.length))] [(0,.cells 158 3 (l.map A5))] (by intro i hi;rw [a] at hi;omega) (by simp) (by simp[cX,zC,a]) (by simp[cX,zC,a]) ?_;refine aR ⟨_,rfl,rfl,rfl,rfl⟩
theorem Jm(s:Sys)(p:AX)(t:Sys)(f:s.es.length<=1048576):Pure Tryz.prog TB 120 [BN s,Bd p,BN t] (kW (dN s p t)):=by
 have b:=JC (TB:=TB) s p t;unfold dN;by_cases i:BL s p t < 0
 ·rw [if_pos i]
  refine eG Tryz.func120 rfl (by kernel_rfl) rfl ?_;intro Z a;(repeat first|refine tA rfl ?_ |refine s2 rfl λ_ j=>?_ |refine sP rfl (b) rfl ?_ |refine aU rfl ?_ |refine Aa ?_)
  ((refine aC rfl ?_ ?_<;>rintro⟨⟩);all_goals try(exfalso;(simp only[oZ] at *;omega)))
  (repeat first|refine tA rfl ?_|(refine Ai rfl ?_;refine gA rfl ?_;first| refine gS (λ_ _=>AV rfl rfl (by rfl) (by rfl)) ?_) |refine aU rfl ?_ |refine Aa ?_);(subst_vars;exact aR ⟨_,rfl,rfl⟩)
 ·rw [if_neg i]
  have hI:=Kn i;have h:=Xl (TB:=TB) s.es f;have g:=Ln (TB:=TB) p ((Y8 hI.hp).upto (by omega));generalize BL s p t=ai at *;refine eG Tryz.func120 rfl (by kernel_rfl) rfl ?_;intro Z a;(repeat first|refine aU rfl ?_);(refine pW rfl ?_ rfl (by rfl);refine CT rfl rfl ?_);(repeat first|refine tA rfl ?_ |refine s2 rfl λ_ j=>?_ |refine sP rfl (b) rfl ?_ |refine aU rfl ?_ |refine Aa ?_)
  ((refine aC rfl ?_ ?_<;>rintro⟨⟩);all_goals try(exfalso;(simp only[oZ] at *;omega)))
  refine aK ?_;(repeat first|refine tA rfl ?_ |refine aU rfl ?_);(refine pW rfl ?_ rfl (by rfl);refine Ae [] rfl rfl (h) ⟨rfl,by decide,by decide⟩ rfl (by simp[cX,zC,a,cN]) ?_;rintro k c e ⟨rfl,rfl,rfl⟩ _);(repeat first|refine tA rfl ?_ |refine aU rfl ?_ |refine Aa ?_);refine rG ⟨FU [(0,10),(2,1001),(5,1)],Y7 [0,1,3,2,4,5,6]⟩ (by kernel_rfl) ?_;(repeat first|refine tA rfl ?_);(refine Ai rfl ?_;refine Cw ?_ rfl ⟨rfl,rfl⟩;refine Cf [] rfl rfl 0 g (by decide) ⟨rfl,by decide,by decide⟩ rfl (by simp[cX,zC,a,cN]) ?_;rintro k c e ⟨l,m,rfl,rfl,rfl⟩ _;refine⟨BO 0 rfl rfl,?_⟩);(repeat first|refine tA rfl ?_|(refine Ai rfl ?_;refine gA rfl ?_;first| refine gS (λ_ _=>AV rfl rfl (by rfl) (by rfl)) ?_) |refine Aa ?_);refine Aj.AA [] [] rfl rfl [(6,.o (.ptr 0 7 0 0)),(7,eB true)] [(0,.cells 42 7 [[.d (iD s.al),.d (iD s.st),.arr 1 3 0 s.es.length,.d (iD p.al),.arr 2 1 0 l.length,.arr 3 1 0 p.ac.length,.d (iD ai)]]),(1,.cells 158 3 (s.es.map A5)),(2,.cells 53 1 (AB l)),(3,.cells 4 1 (p.ac.map AO)),(4,.sld 3 (sI l))] [1,2,3,4,5] (rl a rfl) (by (simp[cX,zC,a,cN,BV,Af,eC])) ?_;(try dsimp only[cA,cB]);refine Aj.AH [0,1,2,3,4] [(6,.o (.ip (P8 ⟨s,⟨p.al,l.map (·.2),p.ac⟩,ai⟩))),(7,eB true)] ⟨⟨_,rfl,.inr (.o (.box rfl (.cons .d (.cons .d (.cons (.full rfl (by simp [d6]) (by simp)) (.cons .d (.cons (.MA (s:=4) rfl rfl) (.cons (.full rfl (by simp [d6]) (by simp)) (.cons .d .nil)))))))))⟩,⟨_,rfl,.inl rfl⟩,trivial⟩ ?_;rw [m];(subst_vars;exact aR ⟨_,rfl,rfl⟩)
end Go.Am
namespace Go.Am
open Go
section
variable {P:Program}{TB:Bp}{Z:Ctx}{σ:Ab}
theorem Inv.freeze{V:View}(hi:Inv TB Z V σ)(ids:List Nat):Inv TB Z (Fg V (Gd σ ids)) (BP ids σ):=by
 have g:∀id o,look (Gd σ ids) id=some o->look σ id=some o:=λid o h=>(DW h).2;have e:Ext V (Fg V (Gd σ ids)):=J0;refine⟨hi.os,hi.tape,hi.output,hi.old,?_,?_,hi.ext.trans e,⟨?_,?_,?_,?_⟩,?_,λx n=>⟨.inl (hi.tabs x n).1,(hi.tabs x n).2⟩,hi.hid.same rfl (λ_ h=>.inl h) (λb hb=>hb.elim .inl λ⟨id,o,a,c,m⟩=>.inr ⟨id,o,g _ _ a,c,m⟩) λb ⟨id,o,a,c,hb⟩=>have f:=(A2 ids σ id o a).2;⟨id,o,f,c,(AD e (hi.st.lt id o f)).1 hb⟩⟩
 ·rintro b (hb|⟨id,o,a,c,hb⟩)
  ·exact hi.iLt b hb
  ·exact(hi.st.obj id o (g _ _ a)).blt c hb
 ·rintro b (hb|⟨id,o,a,c,hb⟩)
  ·exact hi.iNew b hb
  ·exact .inr (hi.live id o (g _ _ a) c b hb)
 ·intro id o a
  have:=(A2 ids σ id o a).2;exact(hi.st.obj id o this).AL e (hi.st.lt id o this) λ_ _ _=>rfl
 ·intro id o a;exact hi.st.lt id o (A2 ids σ id o a).2
 ·intro id o a c b d hb
  obtain⟨q,f⟩:=A2 ids σ id o a;have d:=(AD e (hi.st.lt id o f)).1 d
  rcases hb with hb|⟨id',o',j,i,m⟩
  ·exact hi.st.free id o f c b d hb
  ·have p:=DW j
   exact hi.st.inj id id' o o' f p.2 (λe=>q (e ▸ p.1)) c i b d m
 ·intro id id' o o' a j l c i b hb d
  have f:=(A2 ids σ id o a).2;have k:=(A2 ids σ id' o' j).2;exact hi.st.inj id id' o o' f k l c i b ((AD e (hi.st.lt id o f)).1 hb) ((AD e (hi.st.lt id' o' k)).1 d)
 ·intro id o a c b hb
  have f:=(A2 ids σ id o a).2;exact hi.live id o f c b ((AD e (hi.st.lt id o f)).1 hb)
theorem Z0{V:View}{e:E}{x:Bool×List C}{v:Value}(h:LN e=some x)(ht:Lj V x v):Bg V e v:=by
 cases e with
 | o c=>injection h with h;subst h;obtain⟨c',b,d⟩:=ht;injection b with b;subst b;exact d
 | a cs=>injection h with h;subst h;exact ht
 | t=>cases h
 | e=>cases h
inductive FT (σ:Ab):List (Bool×List C)->List (Bool×List C)->Prop
 | nil:FT σ [] []
 | cons {e e':E} {x x':Bool×List C} {xs xs':List (Bool×List C)}:LN e=some x->LN e'=some x'->EZ σ e e'->FT σ xs xs'->FT σ (x::xs) (x'::xs')
theorem FT.get{xs xs':List (Bool×List C)}(h:FT σ xs xs'):xs'.length=xs.length/\∀(j:Nat) x',xs'[j]? = some x'->∃x e e',xs[j]? = some x/\LN e=some x/\LN e'=some x'/\EZ σ e e':=by
 induction h with
 | nil=>exact⟨rfl,λj x h=>by simp at h⟩
 | @cons e e' x x' xs xs' f d c _ b=>
  refine⟨by simp [b.1],λj y a=>?_⟩
  cases j with
  | zero=>simp at a;subst a;exact⟨x,e,e',rfl,f,d,c⟩
  | succ j=>exact b.2 j y (by simpa using a)
theorem FT.rel{V:View}{xs xs':List (Bool×List C)}(hi:Inv TB Z V σ)(h:FT σ xs xs'){v:Value}(c:Bg V (.t xs) v):Bg (Fg V σ) (.t xs') v:=by
 obtain⟨vs,k,i,g⟩:=c;obtain⟨d,f⟩:=h.get;refine⟨vs,k,by rw [i,d],λj x' v' a b=>?_⟩;obtain⟨x,e,e',o,n,m,l⟩:=f j x' a;exact Fa m (l.rel hi (Z0 n (g j x v' o b)))
theorem AK.toPure{g:FuncId}{args:List E}{post:E->Ab->Nat->Prop}{r:E}(h:AK P TB g 0 [] 0 args post)
 (e:∀x σ nx,post x σ nx->∃ids,EZ (Gd σ ids) x r\/∃xs xs',x=.t xs/\r=.t xs'/\FT (Gd σ ids) xs xs'):Pure P TB g args r:=
 ⟨h.1,λV vs S c ha=>(h.2 V vs S c ha).mono λ_ _ ⟨V',v,x,σ',k,j,b,d,i⟩=>by
  obtain⟨ids,a⟩:=e _ _ _ i
  have f:JF V 0=V:=by have:=c.nx;unfold JF;rw [<-this]
  rw [f] at b;have hi:=b.sub λid o h=>(DW (σ:=σ') (ids:=ids) h).2;refine⟨Fg V' (Gd σ' ids),v,r,BP ids σ',k,j,b.freeze ids,?_,rfl⟩
  rcases a with a|⟨xs,xs',rfl,rfl,a⟩
  ·exact a.rel hi d
  ·exact a.rel hi d⟩
end
section
variable {P:Program}{TB:Bp}
end
end Go.Am
namespace Go.Am
open Go Go.Proofs
set_option maxHeartbeats 1000000
set_option maxRecDepth 4000
attribute [local irreducible] AW BQ Lex A9 Aj Spec
variable {TB:Bp}
theorem MF(w:W)(al:Int)(p:w.length<=1048576):Pure Tryz.prog TB 124 [eT w,eI .i64 al] (eT (LR al w)):=by
 refine eG Tryz.func124 rfl (by kernel_rfl) rfl ?_;intro Z d;(repeat first|refine tM rfl ?_ |refine aU rfl ?_ |refine Aa ?_);(refine pW rfl ?_ rfl (by rfl);refine Gx 1 5 ?_);(repeat first|refine tM rfl ?_ |refine aU rfl ?_ |refine Aa ?_);refine aB ?_;refine aL (α:={k:Nat // k<=w.length}) [0,1,8] [] rfl rfl (λ⟨k,hk⟩=>[(5,.o (.arr 0 1 0 (LR al (w.take k)).length)),(9,eI .i64 k)]) (λ⟨k,hk⟩=>[(0,.cells 5 1 ((LR al (w.take k)).map Fq))]) 1 (λ⟨k,hk⟩=>w.length - k) (⟨0,by omega⟩) d rfl (by (repeat' first|exact tI|rfl|refine And.intro ?_ ?_)) ?_;rintro⟨k,hk⟩;(try dsimp only[cA,cB]);by_cases i:k < w.length
 ·obtain⟨c,n⟩:=get_some i
  have j:w[((k:Nat):Int).toNat]? = some c:=by simpa using n
  have e:=QJ (TB:=TB) w k c j;have a:=Ly (TB:=TB) al (if MR c then (c.toNat:Int) - 97 else -1);rw [Sr] at a;generalize (if MR c then (c.toNat:Int) - 97 else -1:Int)=l at e a;have b:=X0 (al:=al) n;have h:=aX al (w.take k);rw [nW] at h;(repeat first|refine s2 rfl λ_ f=>?_ |refine aU rfl ?_ |refine Aa ?_)
  ((refine aC rfl ?_ ?_<;>rintro⟨⟩);all_goals try(exfalso;(simp only[oZ] at *;omega)))
  refine aK ?_;refine aS (aB ?_);cases g:O7 al c
  ·rw [g] at a b
   (repeat first|refine tA rfl ?_ |refine sP rfl (e) rfl ?_|refine sP rfl (a) rfl ?_ |refine aU rfl ?_ |refine Aa ?_)
   ((refine aC rfl ?_ ?_<;>rintro⟨⟩);all_goals try (simp at f;done))
   refine aK ?_;(repeat first|(refine sA rfl ?_ ?_;first|exact tI|omega) |refine aU rfl ?_ |refine Aa ?_);refine⟨⟨k+1,by omega⟩,by dsimp only;(omega),[0],?_⟩;simp[cX,zC,d,b,Fq,Hh]
  ·rw [g] at a b
   (repeat first|refine tA rfl ?_ |refine sP rfl (e) rfl ?_|refine sP rfl (a) rfl ?_ |refine aU rfl ?_ |refine Aa ?_)
   ((refine aC rfl ?_ ?_<;>rintro⟨⟩);all_goals try (simp at f;done))
   (repeat first|refine tA rfl ?_ |(refine s4 rfl ‹_› rfl ?_ ?_;omega) |refine aU rfl ?_);(refine pW rfl ?_ rfl (by rfl);refine Aw rfl rfl rfl (by first| (simp;done)|(simp;(omega))) rfl (by intro r m;simp at m;subst m;rfl) (by rfl) (am rfl) (by simp;omega) ?_);(repeat first|(refine sX rfl ?_ ?_;first|exact tI|omega) |refine aU rfl ?_ |refine Aa ?_);refine⟨⟨k+1,by omega⟩,by dsimp only;(omega),[1],?_⟩;simp[cX,zC,d,b,Hh,Fq,mn]
 ·obtain rfl:k=w.length:=by omega
  rw [i7] at *;(repeat first|refine s2 rfl λ_ f=>?_ |refine aU rfl ?_ |refine Aa ?_)
  ((refine aC rfl ?_ ?_<;>rintro⟨⟩);all_goals try(exfalso;(simp only[oZ] at *;omega)))
  refine aE ?_;(repeat first|refine tM rfl ?_|(refine Ai rfl ?_;refine gA rfl ?_;first| refine gQ (Ro (LR al w) rfl rfl (by simp) (by first| rw [mw,lm (by simp)]|rw [mw,WH,lm (by simp)])) (by rfl) ?_) |refine aU rfl ?_ |refine Aa ?_);(subst_vars;exact aR ⟨_,rfl,rfl⟩)
theorem HY[Dx TB](s:Sys)(p:AX):Pure Tryz.prog TB 123 [BN s,Bd p] (Je (CW [s] p)):=by
 refine eN Tryz.func123 rfl (by kernel_rfl) rfl ?_;intro Z a;(repeat' first|refine tA rfl ?_ |refine sP rfl (EC [s] p) rfl ?_ |refine aU rfl ?_ |refine Aa ?_|(refine aC rfl ?_ ?_<;>rintro⟨⟩)|refine aK ?_|refine aE ?_|refine aB ?_|refine aR ⟨_,rfl,?_⟩)
 all_goals rfl
end Go.Am
namespace Go.Am
set_option linter.unusedVariables false
def Ib(x y:Bool):Bool:=x && !y
theorem VM{a b:AX}(ha:AE a=true)(hb:AE b=true){w:List Int}(k:∀l∈w,l∈Ac a.al):PB (Lf a b 0 Ib) w↔LA a (CA w)=true/\LA b (CA w)=false:=by
 have p:=Ay ha;have o:=Ay hb;have d:=UX (al:=a.al) k;have n:=Rt ha (CA w) 0 d (by omega);have c:=Rt hb (CA w) 0 (al:=a.al) d (by omega)
 have r:(Fk a 0 (CA w)*b.nx.length+Fk b 0 (CA w)) / b.nx.length=Fk a 0 (CA w):=by
  rw [oh,oH _ _ (by omega),oI c.1 c.2,nU]
 have q:(Fk a 0 (CA w)*b.nx.length+Fk b 0 (CA w)) % b.nx.length=Fk b 0 (CA w):=by
  rw [oh,nV,nL c.1 c.2]
 have g:∀x,reach (Lf a b 0 Ib) w (Lf a b 0 Ib).s0 x↔x=Fk a 0 (CA w)*b.nx.length+Fk b 0 (CA w):=λx=>by
  have:=SZ ha hb (op:=Ib) (s0:=0) (i:=0) (j:=0) (x:=x) k ⟨by omega,by omega⟩ ⟨by omega,by omega⟩
  simpa [Lf] using this
 have h:(Lf a b 0 Ib).goal (Fk a 0 (CA w)*b.nx.length+Fk b 0 (CA w))=Ib (LA a (CA w)) (LA b (CA w)):=by simp only [Lf,r,q,LA]
 constructor
 ·rintro⟨x,m,e⟩
  rw [(g x).1 m,h] at e
  simpa [Ib] using e
 ·intro f
  exact⟨_,(g _).2 rfl,by rw [h];simpa [Ib] using f⟩
theorem Vj{al:Int}{w:List Int}(b:EO w):∀l∈Bu al w,l∈Ac al:=λl c=>by
 have a:=lJ.1 c;have e:=b l a.1;have d:=(C8 (s:=al) (n:=6) (l:=l.toNat)).2 ⟨by omega,a.2⟩;rwa [o7 e.1] at d
theorem Sx{a b:AX}(ha:AE a=true)(hb:AE b=true)(hal:b.al=a.al):Cu (Lf a b 0 Ib)=none↔∀w,EO w->CQ a w=true->CQ b w=true:=by
 have hi:=CM (Lf a b 0 Ib)
 have hL:∀w,EO w->CQ a w=LA a (CA (Bu a.al w))/\CQ b w=LA b (CA (Bu a.al w)):=λw c=>by
  have g:Bu a.al (Bu a.al w)=Bu a.al w:=by simp [Bu]
  have e:EO (Bu a.al w):=λl f=>c l (lJ.1 f).1;have d:=Vj (al:=a.al) c;refine⟨?_,?_⟩
  ·rw [Ql d];exact Hq ha c e g.symm
  ·rw [Ql (by rw [hal];exact d)];exact Hq hb c e (by rw [hal];exact g.symm)
 constructor
 ·intro h w c d
  rw [h] at hi;have j:=hi (Bu a.al w) (Vj c);rw [VM ha hb (Vj c),<-(hL w c).1,<-(hL w c).2] at j
  cases i:CQ b w with
  | true=>rfl
  | false=>exact absurd ⟨d,i⟩ j
 ·intro h
  cases p:Cu (Lf a b 0 Ib) with
  | none=>rfl
  | some v=>
   obtain⟨d,j,_⟩:=Ny p;have f:∀l∈v,l∈Ac a.al:=d;have n:EO v:=EP f;have g:Bu a.al v=v:=o8.2 λl k=>(Ak (f l k)).2.2;have i:=(VM ha hb f).1 j;have m:=hL v n;rw [g] at m;have o:=h v n (by rw [m.1];exact i.1);rw [m.2,i.2] at o;cases o
end Go.Am
namespace Go.Am
open Go Go.Proofs
set_option maxHeartbeats 1000000
set_option maxRecDepth 4000
attribute [local irreducible] AW BQ Lex A9 Aj Spec
end Go.Am
namespace Go.Am
open Go Go.Proofs
set_option maxHeartbeats 1000000
set_option maxRecDepth 4000
attribute [local irreducible] AW BQ Lex A9 Aj Spec
variable {TB:Bp}
end Go.Am
namespace Go.Am
open Go Go.Proofs
set_option linter.unusedVariables false
theorem Jk{σ:Ab}{T U S:TypeId}{i j k n m:Nat}{al:Int}{l:Ho}{nx:List (List Int)}{ac:List Bool}(h:look σ i=some (.cells T 1 (AB l)))(g:look σ j=some (.cells U 1 (ac.map AO)))(f:look σ k=some (.sld S (sI l)))(e:l.map (·.2)=nx)(b:l.length=n)(c:ac.length=m):EZ σ (.a [.d (iD al),.arr i 1 0 n,.arr j 1 0 m]) (.a [.d (iD al),.d (C1 nx),.d (Fp ac)]):=by
 subst b c e;exact .a (ds:=[iD al,C1 (l.map (·.2)),Fp ac]) (.cons .d (.cons (.MA h f) (.cons (.full g (by simp [d6]) (f9 _)) .nil)))
end Go.Am
namespace Go.Am
open Go Go.Proofs
set_option maxHeartbeats 1000000
set_option maxRecDepth 4000
attribute [local irreducible] AW BQ Lex A9 Aj Spec
variable {TB:Bp}
theorem ET(r:Option (List Int)):E.MV (Je r):=by
 show ∀x∈[(false,[C.d (tD (TR r))]),(false,[C.d (bD r.isSome)])],∀c∈x.2,C.MV c=true
 simp [C.MV]
end Go.Am
namespace Go.Am
open Go Go.Proofs
set_option maxHeartbeats 1000000
set_option maxRecDepth 4000
attribute [local irreducible] AW BQ Lex A9 Aj Spec
section
variable {s t:Sys}{p:AX}{al:Int}(hI:FG s p t al)
include hI
end
end Go.Am
namespace Go.Am
open Go Go.Proofs
set_option maxHeartbeats 1000000
set_option maxRecDepth 4000
attribute [local irreducible] AW BQ Lex A9 Aj Spec
variable {TB:Bp}
abbrev Qz(r:Sys×Sys×AX):E:=.t [(true,(AJ r.1).map .d),(true,(AJ r.2.1).map .d),(true,(AM r.2.2).map .d)]
structure dT (r:Sys×Sys×AX) (n m:Nat):Prop where
 a:r.1.es.length<=n
 b:r.2.1.es.length<=n
 c:GJ m r.2.2
def Vp(b:List UInt8)(p d:Int)(n m:Nat)(x:E)(σ:Ab)(nx:Nat):Prop:=∃(p':Int) (r:Sys×Sys×AX),(p<=p'/\p'<=p+d)/\dT r n m/\x=Qz r/\σ=[(0,A0 b p')]/\nx=1
def bQ(b:List UInt8)(p d:Int)(n m:Nat)(x:E)(σ:Ab)(nx:Nat):Prop:=∃(p':Int) (r:Sys×AX×Sys),(p<=p'/\p'<=p+d)/\dT (r.1,r.2.2,r.2.1) n m/\x=Jz r/\σ=[(0,A0 b p')]/\nx=1
theorem Ut(b:List UInt8)(hb:b.length<=2000)(p:Int)(G:0<=p/\p < 700000000)(s:Sys)(q:AX)(t:Sys)(F:s.es.length<=2000)(ht:t.es.length<=2000)(A:GJ 1000 q):Spec Tryz.prog TB 118 [(0,A0 b p)] 1 [.o (.ptr 0 2 0 0),BN s,Bd q,BN t] (bQ b p 20 2003 1042):=by
 obtain⟨c,I,H,B⟩:=A3 (TB:=TB) b hb p 30 (by omega);refine eR Tryz.func118 rfl (by kernel_rfl) rfl ?_;intro Z a;(repeat first|refine aU rfl ?_);(refine pW rfl ?_ rfl (by rfl);refine CT rfl rfl ?_);(refine pW rfl ?_ rfl (by rfl);refine CT rfl rfl ?_);(refine pW rfl ?_ rfl (by rfl);refine CT rfl rfl ?_);(repeat first|refine tA rfl ?_ |refine aU rfl ?_ |refine Aa ?_);(refine pW rfl ?_ rfl (by rfl);refine Ae [0] rfl rfl (B) ⟨rfl,by decide,by decide⟩ rfl (by simp[cX,zC,a,cN]) ?_;rintro g d e ⟨rfl,rfl,rfl⟩ _);refine Aa ?_;refine aB ?_;(repeat first|refine tA rfl ?_ |refine s2 rfl λ_ z=>?_ |refine aU rfl ?_ |refine Aa ?_);(refine aC rfl ?_ ?_<;>rintro⟨⟩)
 ·have y:=EL (TB:=TB) b hb (p+1) (by omega) s (by omega)
  (repeat first|refine tA rfl ?_ |refine aU rfl ?_);(refine pW rfl ?_ rfl (by rfl);refine Ae [0] rfl rfl (y) ⟨rfl,by decide,by decide⟩ rfl (by simp[cX,zC,a,cN]) ?_;rintro g d e ⟨n,s1,v,l,rfl,rfl,rfl⟩ _);have x:=EL (TB:=TB) b hb n (by omega) s1 (by omega);(refine pW rfl ?_ rfl (by rfl);refine Ae [0] rfl rfl (x) ⟨rfl,by decide,by decide⟩ rfl (by simp[cX,zC,a,cN]) ?_;rintro g d e ⟨m,s2,u,k,rfl,rfl,rfl⟩ _);have w:=EL (TB:=TB) b hb m (by omega) s2 (by omega);(refine pW rfl ?_ rfl (by rfl);refine Ae [0] rfl rfl (w) ⟨rfl,by decide,by decide⟩ rfl (by simp[cX,zC,a,cN]) ?_;rintro g d e ⟨h,f,r,j,rfl,rfl,rfl⟩ _);(repeat first|refine tA rfl ?_ |refine aU rfl ?_ |refine Aa ?_);refine Aj.AH [1,2,3] [(5,.o (.ip (AJ f))),(6,.o (.ip (AM q))),(7,.o (.ip (AJ t))),(8,.o (.ptr 4 3 0 0)),(9,.o (.ptr 5 3 0 0)),(10,.o (.ptr 6 3 0 0))] ⟨⟨_,rfl,.inr (.o (.box rfl (FB.refl (AJ f))))⟩,⟨_,rfl,.inr (.o (.box rfl (FB.refl (AM q))))⟩,⟨_,rfl,.inr (.o (.box rfl (FB.refl (AJ t))))⟩,⟨_,rfl,.inl rfl⟩,⟨_,rfl,.inl rfl⟩,⟨_,rfl,.inl rfl⟩,trivial⟩ ?_;refine rG (GI [(3,1),(4,1),(5,1)]) (by kernel_rfl) ?_;(repeat first|refine tA rfl ?_ |refine Aa ?_);exact aR ⟨_,rfl,[0],Jz (f,q,t),[(0,A0 b (h))],⟨by intro i hi;match i with|0=>rfl,by decide⟩,rfl,by (simp[cX,zC,a,cN]),h,(f,q,t),by omega,⟨by show f.es.length<=_;omega,by show t.es.length<=_;omega,A.upto (by omega)⟩,rfl,rfl,rfl⟩
 ·(repeat first|refine tA rfl ?_ |refine s2 rfl λ_ z=>?_ |refine aU rfl ?_ |refine Aa ?_)
  (refine aC rfl ?_ ?_<;>rintro⟨⟩)
  ·have y:=Be (TB:=TB) b hb (p+1) (by omega) q 1000 A (by omega)
   (repeat first|refine tA rfl ?_ |refine aU rfl ?_);(refine pW rfl ?_ rfl (by rfl);refine Ae [0] rfl rfl (y) ⟨rfl,by decide,by decide⟩ rfl (by simp[cX,zC,a,cN]) ?_;rintro g d e ⟨n,s1,v,l,rfl,rfl,rfl⟩ _);have x:=Be (TB:=TB) b hb n (by omega) s1 _ l (by omega);(refine pW rfl ?_ rfl (by rfl);refine Ae [0] rfl rfl (x) ⟨rfl,by decide,by decide⟩ rfl (by simp[cX,zC,a,cN]) ?_;rintro g d e ⟨m,s2,u,k,rfl,rfl,rfl⟩ _);have w:=Be (TB:=TB) b hb m (by omega) s2 _ k (by omega);(refine pW rfl ?_ rfl (by rfl);refine Ae [0] rfl rfl (w) ⟨rfl,by decide,by decide⟩ rfl (by simp[cX,zC,a,cN]) ?_;rintro g d e ⟨h,f,r,j,rfl,rfl,rfl⟩ _);(repeat first|refine tA rfl ?_ |refine aU rfl ?_ |refine Aa ?_);refine Aj.AH [1,2,3] [(5,.o (.ip (AJ s))),(6,.o (.ip (AM f))),(7,.o (.ip (AJ t))),(8,.o (.ptr 4 3 0 0)),(9,.o (.ptr 5 3 0 0)),(10,.o (.ptr 6 3 0 0))] ⟨⟨_,rfl,.inr (.o (.box rfl (FB.refl (AJ s))))⟩,⟨_,rfl,.inr (.o (.box rfl (FB.refl (AM f))))⟩,⟨_,rfl,.inr (.o (.box rfl (FB.refl (AJ t))))⟩,⟨_,rfl,.inl rfl⟩,⟨_,rfl,.inl rfl⟩,⟨_,rfl,.inl rfl⟩,trivial⟩ ?_;refine rG (GI [(3,1),(4,1),(5,1)]) (by kernel_rfl) ?_;(repeat first|refine tA rfl ?_ |refine Aa ?_);exact aR ⟨_,rfl,[0],Jz (s,f,t),[(0,A0 b (h))],⟨by intro i hi;match i with|0=>rfl,by decide⟩,rfl,by (simp[cX,zC,a,cN]),h,(s,f,t),by omega,⟨by show s.es.length<=_;omega,by show t.es.length<=_;omega,GJ.upto j (by omega)⟩,rfl,rfl,rfl⟩
  ·(repeat first|refine tA rfl ?_ |refine s2 rfl λ_ z=>?_ |refine aU rfl ?_ |refine Aa ?_)
   (refine aC rfl ?_ ?_<;>rintro⟨⟩)
   ·have y:=EL (TB:=TB) b hb (p+1) (by omega) t (by omega)
    (repeat first|refine tA rfl ?_ |refine aU rfl ?_);(refine pW rfl ?_ rfl (by rfl);refine Ae [0] rfl rfl (y) ⟨rfl,by decide,by decide⟩ rfl (by simp[cX,zC,a,cN]) ?_;rintro g d e ⟨n,s1,v,l,rfl,rfl,rfl⟩ _);have x:=EL (TB:=TB) b hb n (by omega) s1 (by omega);(refine pW rfl ?_ rfl (by rfl);refine Ae [0] rfl rfl (x) ⟨rfl,by decide,by decide⟩ rfl (by simp[cX,zC,a,cN]) ?_;rintro g d e ⟨m,s2,u,k,rfl,rfl,rfl⟩ _);have w:=EL (TB:=TB) b hb m (by omega) s2 (by omega);(refine pW rfl ?_ rfl (by rfl);refine Ae [0] rfl rfl (w) ⟨rfl,by decide,by decide⟩ rfl (by simp[cX,zC,a,cN]) ?_;rintro g d e ⟨h,f,r,j,rfl,rfl,rfl⟩ _);(repeat first|refine tA rfl ?_ |refine aU rfl ?_ |refine Aa ?_);refine Aj.AH [1,2,3] [(5,.o (.ip (AJ s))),(6,.o (.ip (AM q))),(7,.o (.ip (AJ f))),(8,.o (.ptr 4 3 0 0)),(9,.o (.ptr 5 3 0 0)),(10,.o (.ptr 6 3 0 0))] ⟨⟨_,rfl,.inr (.o (.box rfl (FB.refl (AJ s))))⟩,⟨_,rfl,.inr (.o (.box rfl (FB.refl (AM q))))⟩,⟨_,rfl,.inr (.o (.box rfl (FB.refl (AJ f))))⟩,⟨_,rfl,.inl rfl⟩,⟨_,rfl,.inl rfl⟩,⟨_,rfl,.inl rfl⟩,trivial⟩ ?_;refine rG (GI [(3,1),(4,1),(5,1)]) (by kernel_rfl) ?_;(repeat first|refine tA rfl ?_ |refine Aa ?_);exact aR ⟨_,rfl,[0],Jz (s,q,f),[(0,A0 b (h))],⟨by intro i hi;match i with|0=>rfl,by decide⟩,rfl,by (simp[cX,zC,a,cN]),h,(s,q,f),by omega,⟨by show s.es.length<=_;omega,by show f.es.length<=_;omega,A.upto (by omega)⟩,rfl,rfl,rfl⟩
   ·refine aK ?_
    (repeat first|refine aU rfl ?_);refine Aj.AH [1,2,3] [(5,.o (.ip (AJ s))),(6,.o (.ip (AM q))),(7,.o (.ip (AJ t))),(8,.o (.ptr 4 3 0 0)),(9,.o (.ptr 5 3 0 0)),(10,.o (.ptr 6 3 0 0))] ⟨⟨_,rfl,.inr (.o (.box rfl (FB.refl (AJ s))))⟩,⟨_,rfl,.inr (.o (.box rfl (FB.refl (AM q))))⟩,⟨_,rfl,.inr (.o (.box rfl (FB.refl (AJ t))))⟩,⟨_,rfl,.inl rfl⟩,⟨_,rfl,.inl rfl⟩,⟨_,rfl,.inl rfl⟩,trivial⟩ ?_;refine rG (GI [(3,1),(4,1),(5,1)]) (by kernel_rfl) ?_;(repeat first|refine tA rfl ?_ |refine Aa ?_);exact aR ⟨_,rfl,[0],Jz (s,q,t),[(0,A0 b (p+1))],⟨by intro i hi;match i with|0=>rfl,by decide⟩,rfl,by (simp[cX,zC,a,cN]),p+1,(s,q,t),by omega,⟨by show s.es.length<=_;omega,by show t.es.length<=_;omega,A.upto (by omega)⟩,rfl,rfl,rfl⟩
noncomputable def MX(a b:AX):Option (List Int):=if Gi a b then Cu (DJ (Ee a b 2)) else none
noncomputable def MK(a b:AX):Bool:=Gi a b && (MX a b).isNone
theorem SM(x y:Bool):Pure Tryz.prog TB 174 [eB x,eB y] (eB (Ib x y)):=by
 refine eN Tryz.func174 rfl (by kernel_rfl) rfl ?_;intro Z a;(repeat' first |refine sN rfl ?_ |((first|refine sA rfl ?_ ?_|refine s4 rfl ‹_› rfl ?_ ?_);first|exact tI|omega|simp only[oZ] at *;omega) |refine s2 rfl λ_ b=>?_ |refine s3 rfl ?_ ?_<;>rintro rfl |refine aU rfl ?_ |refine Aa ?_ |refine rE (by kernel_rfl) ?_|(refine aC rfl ?_ ?_<;>rintro⟨⟩)|refine aK ?_|refine aE ?_|refine aB ?_|refine aR ⟨_,rfl,?_⟩)
 all_goals (show E.o _=E.o _;congr;first|done|(unfold Ib;grind))
theorem Jh(a b:AX):Pure Tryz.prog TB 100 [Bd a,Bd b] (Je (MX a b)):=by
 by_cases f:Gi a b=true
 ·have c:=f
  unfold Gi at c;simp only [d4,decide_eq_true_eq] at c;obtain⟨⟨ha,hb⟩,_⟩:=c;have k:=Ay ha;have j:=Ay hb
  have h:MX a b=Cu (Lf a b 0 Ib):=by unfold MX;rw [if_pos f,SE ha hb (λx y=>by simp [Ib]) (.inr rfl)]
  have i:=NM (TB:=TB) ha hb SM 0 0 ⟨by omega,by omega⟩ ⟨by omega,by omega⟩
  have g:Pure Tryz.prog TB 155 [Bd a,Bd b,eI .i64 0,eI .i64 0,.o (.fn 174 [])] (Je (Cu (Lf a b 0 Ib))):=by
   have:=Spec.jL (l:=[Bd a,Bd b,eI .i64 0,eI .i64 0]) (m:=[]) i;rw [o3,nU] at this;exact this
  rw [h];refine eN Tryz.func100 rfl (by kernel_rfl) rfl ?_;intro Z e;(repeat' first |refine sN rfl ?_ |((first|refine sA rfl ?_ ?_|refine s4 rfl ‹_› rfl ?_ ?_);first|exact tI|omega|simp only[oZ] at *;omega) |refine s2 rfl λ_ d=>?_ |(refine sC rfl (FP a b) ?_;intro _ d)|refine sP rfl (g) rfl ?_ |refine s3 rfl ?_ ?_<;>rintro rfl |refine aU rfl ?_ |refine Aa ?_ |refine rE (by kernel_rfl) ?_|(refine aC rfl ?_ ?_<;>rintro⟨⟩)|refine aK ?_|refine aE ?_|refine aB ?_|refine aR ⟨_,rfl,?_⟩)
  all_goals first
   | rfl
   | (exfalso;grind;done)
 ·have h:MX a b=none:=by unfold MX;rw [if_neg f]
  rw [h];refine eN Tryz.func100 rfl (by kernel_rfl) rfl ?_;intro Z e;(repeat' first |refine sN rfl ?_ |((first|refine sA rfl ?_ ?_|refine s4 rfl ‹_› rfl ?_ ?_);first|exact tI|omega|simp only[oZ] at *;omega) |refine s2 rfl λ_ d=>?_ |(refine sC rfl (FP a b) ?_;intro _ d) |refine s3 rfl ?_ ?_<;>rintro rfl |refine aU rfl ?_ |refine Aa ?_ |refine rE (by kernel_rfl) ?_|(refine aC rfl ?_ ?_<;>rintro⟨⟩)|refine aK ?_|refine aE ?_|refine aB ?_|refine aR ⟨_,rfl,?_⟩)
  all_goals first
   | rfl
   | (exfalso;grind;done)
theorem HZ(a b:AX):Pure Tryz.prog TB 39 [Bd a,Bd b] (eB (MK a b)):=by
 refine eN Tryz.func39 rfl (by kernel_rfl) rfl ?_;intro Z d;(repeat' first |refine sN rfl ?_ |((first|refine sA rfl ?_ ?_|refine s4 rfl ‹_› rfl ?_ ?_);first|exact tI|omega|simp only[oZ] at *;omega) |refine s2 rfl λ_ c=>?_ |refine sP rfl (Jh a b) rfl ?_|(refine sC rfl (FP a b) ?_;intro _ c) |refine s3 rfl ?_ ?_<;>rintro rfl |refine aU rfl ?_ |refine Aa ?_ |refine rE (by kernel_rfl) ?_|(refine aC rfl ?_ ?_<;>rintro⟨⟩)|refine aK ?_|refine aE ?_|refine aB ?_|refine aR ⟨_,rfl,?_⟩)
 all_goals (show E.o _=E.o _;congr;first|done|(unfold MK;grind))
theorem Ji(a b:AX):Pure Tryz.prog TB 101 [Bd a,Bd b] (Je (MX a b)):=by
 by_cases g:Gi a b=true
 ·have c:=g
  unfold Gi at c;simp only [d4,decide_eq_true_eq] at c;obtain⟨⟨ha,hb⟩,_⟩:=c;obtain⟨m,hk,k⟩:=VZ (kd:=2) ha hb;have j:=Uo (TB:=TB) m hk k (CM _);rw [bU] at j
  have i:MX a b=Cu (DJ (Ee a b 2)):=by unfold MX;rw [if_pos g]
  rw [i];have h:Pure Tryz.prog TB 175 [.a [.d (.l []),.d (TT [a,b]),.d (EB [0,0]),.d (iD a.al),.d (iD 2),.d (iD 0)]] (Je (Cu (DJ (Ee a b 2)))):=j;refine eN Tryz.func101 rfl (by kernel_rfl) rfl ?_;intro Z f;(repeat' first |refine sN rfl ?_ |((first|refine sA rfl ?_ ?_|refine s4 rfl ‹_› rfl ?_ ?_);first|exact tI|omega|simp only[oZ] at *;omega) |refine s2 rfl λ_ e=>?_ |(refine sC rfl (NX a b) ?_;intro _ e)|refine sP rfl (h) rfl ?_|(refine Ai rfl ?_;refine gA rfl ?_;first|refine gS (λ_ _=>AV rfl rfl (by rfl) (by rfl)) ?_) |refine s3 rfl ?_ ?_<;>rintro rfl |refine aU rfl ?_ |refine Aa ?_ |refine rE (by kernel_rfl) ?_|(refine aC rfl ?_ ?_<;>rintro⟨⟩)|refine aK ?_|refine aE ?_|refine aB ?_|refine aR ⟨_,rfl,?_⟩)
  all_goals first
   | rfl
   | (exfalso;grind;done)
 ·have i:MX a b=none:=by unfold MX;rw [if_neg g]
  rw [i];refine eN Tryz.func101 rfl (by kernel_rfl) rfl ?_;intro Z f;(repeat' first |refine sN rfl ?_ |((first|refine sA rfl ?_ ?_|refine s4 rfl ‹_› rfl ?_ ?_);first|exact tI|omega|simp only[oZ] at *;omega) |refine s2 rfl λ_ e=>?_ |(refine sC rfl (NX a b) ?_;intro _ e) |refine s3 rfl ?_ ?_<;>rintro rfl |refine aU rfl ?_ |refine Aa ?_ |refine rE (by kernel_rfl) ?_|(refine aC rfl ?_ ?_<;>rintro⟨⟩)|refine aK ?_|refine aE ?_|refine aB ?_|refine aR ⟨_,rfl,?_⟩)
  all_goals first
   | rfl
   | (exfalso;grind;done)
theorem Ic(a b:AX):Pure Tryz.prog TB 40 [Bd a,Bd b] (eB (MK a b)):=by
 refine eN Tryz.func40 rfl (by kernel_rfl) rfl ?_;intro Z d;(repeat' first |refine sN rfl ?_ |((first|refine sA rfl ?_ ?_|refine s4 rfl ‹_› rfl ?_ ?_);first|exact tI|omega|simp only[oZ] at *;omega) |refine s2 rfl λ_ c=>?_ |refine sP rfl (Ji a b) rfl ?_|(refine sC rfl (NX a b) ?_;intro _ c) |refine s3 rfl ?_ ?_<;>rintro rfl |refine aU rfl ?_ |refine Aa ?_ |refine rE (by kernel_rfl) ?_|(refine aC rfl ?_ ?_<;>rintro⟨⟩)|refine aK ?_|refine aE ?_|refine aB ?_|refine aR ⟨_,rfl,?_⟩)
 all_goals (show E.o _=E.o _;congr;first|done|(unfold MK;grind))
theorem OU{a b:AX}(h:MK a b=true):AE b=true/\∀w,EO w->CQ a w=true->CQ b w=true:=by
 unfold MK MX at h;simp only [d4] at h;obtain⟨c,d⟩:=h;rw [if_pos c] at d;unfold Gi at c;simp only [d4,decide_eq_true_eq] at c;obtain⟨⟨ha,hb⟩,hal⟩:=c;rw [Option.isNone_iff_eq_none,<-SE ha hb (op:=Ib) (λx y=>by simp [Ib]) (.inr rfl)] at d;exact⟨hb,(Sx ha hb hal.symm).1 d⟩
end Go.Am
