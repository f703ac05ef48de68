/-
  The automaton of a closed table, of the caller's own: walked.
-/
import Derived.Test.YtohfiindiidcfaaGreatDoorPart35
set_option linter.all false
namespace Go.Am
open Go Go.Proofs
set_option maxHeartbeats 1000000
set_option maxRecDepth 4000
attribute [local irreducible] A6 Cz Lex Bv Aj Spec
variable {TB:BF}
theorem Qr{c:C}{L:W->Bool}{ok:W->Prop}(H:JS Tryz.prog TB c L ok)(al:Int)(t:A1)(V:IW ok (A7 al) t)(ht:Hd al 20012 t)(ho:Bh L (A7 al) t=none) :
 AS Tryz.prog TB 66 0 [] 0 [I9 al c,Ef t] (KQ (AZ L al t)):=by
 have b:=E4 c H.Cm;have hrl:=ht.rl;have hcl:=ht.cl;have hla:(Ac al).length<=6:=AM al 6;have h:=ht.iH V (by omega)
 have K:(AZ L al t).nx.length=t.rows.length:=by simp [AZ]
 have hal:(AZ L al t).ac.length=t.rows.length:=by simp [AZ]
 refine AS.Bj (AS.RL (m:=0) (am rfl) Tryz.func66 rfl (by kernel_rfl) (am rfl) ?_);intro Γ a;(repeat first|refine aU rfl ?_);(refine pW rfl ?_ rfl (by rfl);refine C9 rfl rfl ?_);(refine Af rfl ?_;refine CE (λ_ _=>C7 rfl rfl rfl) rfl ?_);(repeat first|refine tA rfl ?_ |refine aU rfl ?_ |apply Aa);(refine pW rfl ?_ rfl (by rfl);refine Ai [] rfl rfl (Hy H al t h.1) ⟨rfl,by simp,by simp⟩ (by simp [EX,E.Bj,C.Cy,C.Bj,b,eC]) trivial ?_;rintro x0 X Y ⟨rfl,rfl,rfl⟩ _);(repeat first|refine tA rfl ?_ |refine aU rfl ?_ |apply Aa);(refine pW rfl ?_ rfl (by rfl);refine JF 1 1 64 2 1 4 rfl rfl (by decide) rfl rfl (by rfl) (by rfl) ?_);(repeat first|refine sN rfl ?_ |refine tA rfl ?_ |refine aU rfl ?_ |apply Aa);apply aB;refine Aj.en 3 ?_;refine aL (α:={s:Nat×Ii // s.1<=t.rows.length/\s.2.map (·.2)=(AZ L al t).nx.take s.1}) [2,3,4,5,6,19,20] [0,1,2] rfl rfl (λs=>[(21,eI .i64 s.1.1)]) (λs=>[(5,.cells 29 3 [[.d (iD al),.arr 3 1 0 s.1.2.length,.arr 4 1 0 s.1.1]]),(3,.cells 64 1 (AA s.1.2)),(4,.cells 4 1 (((AZ L al t).ac.take s.1.1).map AV)),(6,.sld 3 (sI s.1.2))]) 7 (λs=>t.rows.length - s.1.1) (⟨⟨0,[]⟩,by simp,by simp⟩) a rfl (by (simp[cX,zC,a,cN,b,eC,BR,Ae]<;>rfl)) ?_;rintro⟨⟨k,l⟩,B,A⟩;(try dsimp only[cA,cB]);have B:k<=t.rows.length:=B;have A:l.map (·.2)=(AZ L al t).nx.take k:=A
 have hll:l.length=k:=by have:=congrArg List.length A;simp at this;omega
 by_cases R:k < t.rows.length
 ·obtain⟨r,u⟩:=get_some (l:=t.rows) (k:=k) R
  have hx':=get_map (g:=CQ) u;have e:=co u;(repeat first|refine s2 rfl λ_ q=>?_ |refine aU rfl ?_ |apply Aa)
  ((refine aC rfl ?_ ?_<;>rintro⟨⟩);all_goals try(exfalso;(simp only[oZ] at *;omega)))
  apply aK;refine aS (aB ?_);(repeat first|refine tM rfl ?_ |(refine s4 rfl ‹_› rfl ?_ ?_;omega) |refine aU rfl ?_ |apply Aa);(refine pW rfl ?_ rfl (by rfl);refine Hp 1 3 ?_);(repeat first|refine sN rfl ?_ |refine tM rfl ?_ |refine sP rfl (CW al) rfl ?_ |refine aU rfl ?_ |apply Aa);apply aB;refine aL (α:={j:Nat // j<=(Ac al).length}) [2,3,4,5,6,8,19,20,21,27,28] [0,1,2,3,4,5,6] rfl rfl (λs=>[(9,.o (.arr 7 1 0 s.1)),(29,eI .i64 s.1)]) (λs=>[(7,.cells 3 1 (((Ac al).take s.1).map λl=>[.d (iD ((C3 L t (r++[lb l]):Nat):Int))]))]) 8 (λs=>(Ac al).length - s.1) (⟨0,by omega⟩) a rfl (by (simp[cX,zC,a,cN,b,eC])) ?_;rintro⟨j,G⟩;(try dsimp only[cA,cB]);have G:j<=(Ac al).length:=G;by_cases F:j < (Ac al).length
  ·obtain⟨m,P⟩:=get_some F
   have hm':=get_map (g:=Br) P;have n:=co P;have z:=Au n;have hrb:=ht.onR r e;have N:=LB (TB:=TB) H al t (r++[lb m]) (by omega) (λx u=>h.2 r e _ (d9.2 ⟨m,n,rfl⟩) x u) (λy Z=>by have:=(ht.onC y Z).2;simp;omega);have S:=UJ ho e n;(repeat first|refine s2 rfl λ_ q=>?_ |refine aU rfl ?_ |apply Aa)
   ((refine aC rfl ?_ ?_<;>rintro⟨⟩);all_goals try(exfalso;(simp only[oZ] at *;omega)))
   apply aK;refine aS (aB ?_);(repeat first|refine tA rfl ?_ |(refine s4 rfl ‹_› rfl ?_ ?_;omega) |refine aU rfl ?_ |apply Aa);refine rG (He [13]) (by kernel_rfl) ?_;(repeat first|(refine sA rfl ?_ ?_;first|exact tI|omega|simp only[oZ] at *;omega) |refine sP rfl (Fz m z.1 (by omega)) rfl ?_|(refine Af rfl ?_;refine gA rfl ?_;first| refine gS (λ_ _=>Xl rfl (by omega) (by omega)) ?_));rw [cL z.1];(repeat first| (refine Af rfl ?_;refine gA rfl ?_;first| refine gS (λ_ _=>Bt rfl rfl (by simp [E.Cm,C.Dl,C.Cm,H.Cm,eC]) N rfl) ?_|refine gQ (YV rfl rfl rfl) (by rfl) ?_));(repeat first|refine tA rfl ?_);(refine pW rfl ?_ rfl (by rfl);refine Al rfl rfl rfl (by first| (simp;done)|(simp;(omega))) rfl (by intro r b;simp at b;subst b;rfl) (by rfl) (am rfl) (by simp;omega) ?_);(repeat first|(refine sA rfl ?_ ?_;first|exact tI|omega) |refine aU rfl ?_ |apply Aa);rw [S];refine⟨⟨j+1,by omega⟩,by dsimp only;(omega),[0,1,2,3,4,5,6,8],?_⟩;simp[cX,zC,a,cN,b,d8,P]
  ·obtain rfl:j=(Ac al).length:=by omega
   have I:=V r ⟨r,e,[],.inl rfl,[],.inl rfl,by simp⟩
   have J:(AZ L al t).nx.take (k+1)=(AZ L al t).nx.take k++[(Ac al).map λl=>((C3 L t (r++[lb l]):Nat):Int)]:=by
    rw [d8];simp [AZ,u]
   have p:(AZ L al t).ac.take (k+1)=(AZ L al t).ac.take k++[L r]:=by
    rw [d8];simp [AZ,u]
   rw [ge];generalize f:(Ac al).map (λl=>((C3 L t (r++[lb l]):Nat):Int))=row at *
   have w:(Ac al).length=row.length:=by rw [<-f];simp
   have M:(Ac al).map (λl=>[C.d (iD ((C3 L t (r++[lb l]):Nat):Int))])=row.map AE:=by rw [<-f,o9];rfl
   (repeat first|refine s2 rfl λ_ q=>?_ |refine aU rfl ?_ |apply Aa)
   ((refine aC rfl ?_ ?_<;>rintro⟨⟩);all_goals try(exfalso;(simp only[oZ] at *;omega)))
   apply aE;(repeat first|refine tX rfl ?_ |refine aU rfl ?_);(refine pW rfl ?_ rfl (by rfl);refine Bk rfl rfl rfl rfl (by simp [eC]) (by rfl) (by rfl) (by rfl) (by rfl) ?_);(refine pW rfl ?_ rfl (by rfl);refine Al rfl rfl rfl (CK _) rfl (by intro r b;simp at b;subst b;rfl) (by rfl) (am rfl) (by simp;omega) ?_);(repeat first|refine tX rfl ?_ |apply Aa);refine Aj.Ay [2,3,4,5,6,8,19,20,21] [0,1,2,4] rfl rfl [] [(3,.cells 64 1 (AA l++[[.arr 7 1 0 row.length]])),(5,.cells 29 3 [[.d (iD al),.arr 3 1 0 (l.length+1),.arr 4 1 0 k]]),(6,.sld 3 (sI l)),(7,.cells 3 1 (row.map AE))] [0,1,2,9,4,5,6,7] (rl a rfl) (by (simp[cX,zC,a,cN,b,BR,Ae,eC,w,M])) ?_;(try dsimp only[cA,cB]);refine Aj.Ti 3 7 6 l row rfl rfl rfl λv=>?_;refine rG (He [7,9]) (by kernel_rfl) ?_;(repeat first|refine tA rfl ?_|(refine Af rfl ?_;refine gA rfl ?_;first| refine gS (λ_ _=>H.ask rfl rfl I) ?_));(refine pW rfl ?_ rfl (by rfl);refine Al rfl rfl rfl (by first| (simp;done)|(simp;(omega))) rfl (by intro r b;simp at b;subst b;rfl) (by rfl) (am rfl) (by simp;omega) ?_);(repeat first|(refine sA rfl ?_ ?_;first|exact tI|omega) |refine aU rfl ?_ |apply Aa);refine⟨⟨⟨k+1,l++[(v,row)]⟩,by dsimp only;omega,by dsimp only;rw [o6,A,J];rfl⟩,by dsimp only;(omega),[0,1,2,3,8,5,6],?_⟩;simp[cX,zC,a,cN,b,eC,BR,Ae,p]
 ·have T:k=t.rows.length:=by omega
  (repeat first|refine s2 rfl λ_ q=>?_ |refine aU rfl ?_ |apply Aa)
  ((refine aC rfl ?_ ?_<;>rintro⟨⟩);all_goals try(exfalso;(simp only[oZ] at *;omega)))
  apply aE;(repeat first|refine tA rfl ?_ |refine aU rfl ?_ |apply Aa)
  have Q:l.map (·.2)=(AZ L al t).nx:=by rw [A,T,<-K,ge]
  have U:l.length=t.rows.length:=by omega
  have p:(AZ L al t).ac.take k=(AZ L al t).ac:=gc (by rw [hal];omega);rw [p]
  obtain rfl:k=(AZ L al t).ac.length:=by omega
  refine aR ⟨_,rfl,[3,4,6],WC al 0 1 l.length (AZ L al t).ac.length,[(0,.cells 64 1 (AA l)),(1,.cells 4 1 ((AZ L al t).ac.map AV)),(2,.sld 3 (sI l))],⟨by intro i hi;omega,by decide⟩,rfl,by (simp[cX,zC,a,cN]),l,Q,rfl,rfl,rfl⟩
def bm(o:Option AX)(x:E)(σ:Ab)(nx:Nat):Prop:=
 match o with
 | none=>x=Uh none/\σ=[]/\nx=0
 | some a=>∃l:Ii,l.map (·.2)=a.nx/\x=.t [(true,[.d (iD a.al),.arr 0 1 0 l.length,.arr 1 1 0 a.ac.length]),(false,[.d (bD true)])]/\σ=[(0,.cells 64 1 (AA l)),(1,.cells 4 1 (a.ac.map AV)),(2,.sld 3 (sI l))]/\nx=3
section
variable {tabs:List (Nat×Obj)}[hTb:C8 ⟨tabs,none⟩]{te:EE}
include hTb
end
end Go.Am
namespace Go.Am
open Go Go.Proofs
set_option maxHeartbeats 1000000
set_option maxRecDepth 4000
attribute [local irreducible] A6 Cz Lex Bv Aj Spec
theorem P6{s t:Sys}{p:AX}{al:Int}:∀(k:Nat) {x:A1} {r:Nat},Hu s p al x r->12<=k+r->∀(i:Nat) (y:A1),(EJ s t p al k x)[i]? = some y->(EJ s t p al k x)[i+1]? = HR s t p al y
 | 0, x,r,b,hk,i,y,h=>by
  cases i with
  | zero=>
   simp [EJ] at h;subst h
   cases a:HR s t p al x with
   | none=>simp [EJ]
   | some z=>
    have:=VE (SZ b a).1;omega
  | succ i=>simp [EJ] at h
 | k + 1,x,r,b,hk,i,y,h=>by
  simp only [EJ] at h |-
  cases a:HR s t p al x with
  | none=>
   rw [a] at h
   cases i with
   | zero=>simp at h;subst h;simp [a]
   | succ i=>simp at h
  | some z=>
   rw [a] at h
   cases i with
   | zero=>
    simp at h;subst h;rw [a];cases k<;>simp [EJ]
   | succ i=>
    simp only [qV] at h |-;exact P6 k (SZ b a).1 (by omega) i y h
section
variable {s t:Sys}{p:AX}{al:Int}(hI:Fb s p t al)
include hI
theorem run_get{i:Nat}{x:A1}(h:(BL s t p al)[i]? = some x):Hu s p al x (i+1)/\(BL s t p al)[i+1]? = HR s t p al x:=by
 obtain⟨_,b⟩:=TC (Gq hI);have a:=P7 11 b i x h;rw [qS] at a;exact⟨a,P6 11 b (by omega) i x h⟩
theorem IB:1<=(BL s t p al).length/\(BL s t p al).length<=12:=by
 have a:BL s t p al≠[]:=eE 11 _;have c:1<=(BL s t p al).length:=rz.2 a;obtain⟨x,b⟩:=get_some (l:=BL s t p al) (k:=(BL s t p al).length - 1) (by omega);have:=(VE (run_get hI b).1).2;omega
theorem ea:∃x,(BL s t p al).getLastD Bu=x/\Hu s p al x (BL s t p al).length/\HR s t p al x=none:=by
 have d:=IB hI;obtain⟨x,a⟩:=get_some (l:=BL s t p al) (k:=(BL s t p al).length - 1) (by omega);obtain⟨c,b⟩:=run_get hI a;rw [show (BL s t p al).length - 1+1=(BL s t p al).length by omega] at c b;refine⟨x,?_,c,?_⟩
 ·rw [List.getLastD_eq_getLast?,List.getLast?_eq_getElem?,a];rfl
 ·rw [<-b];simp
theorem Ux:¬AP s p t < 0:=by
 have:=Rs hI;rw [hI.hal] at this;unfold A8 at this;simp only [decide_eq_true_eq] at this;omega
theorem I0{x:A1}{r:Nat}(c:Hu s p al x r):AJ (BH s p al x)=true/\(BH s p al x).al=al/\(BH s p al x).nx.length=x.rows.length/\BS (LS ⟨s,p,al⟩) (A7 al) x:=by
 obtain⟨_,_,d,b,_⟩:=DA c.v;have hk:=IG d;rw [NZ,Fw] at hk
 have a:BS (LS ⟨s,p,al⟩) (A7 al) x:=⟨hk,GU c.o⟩
 exact⟨Lf (Rs hI) a b.rl,rfl,by simp [BH,AZ],a⟩
theorem aT{x:A1}{r:Nat}(b:Hu s p al x r):CR s (BH s p al x) p=true/\(A3 [t] && AJ (BH s p al x))=true:=by
 obtain⟨a,_⟩:=I0 hI b;exact⟨by unfold CR;rw [hI.hs,a,hI.hp];rfl,by rw [HT,hI.ht,a];rfl⟩
theorem QZ{x:A1}{r:Nat}(a:Hu s p al x r):(Gt s t p al (BH s p al x)=none↔EP s t p (BH s p al x)=0)/\(EP s t p (BH s p al x)=0\/EP s t p (BH s p al x)=3\/EP s t p (BH s p al x)=4):=by
 obtain⟨f,e,_⟩:=I0 hI a;obtain⟨c,b⟩:=aT hI a;have d:=Ux hI
 have hal:(BH s p al x).al=AP s p t:=by rw [e,hI.hal]
 unfold EP;rw [if_neg (not_or.2 ⟨d,by rw [f];simp⟩),if_neg (λh=>h hal)];unfold Gt Jd Du;rw [c,b,oM,oM]
 cases DK s (BH s p al x) p with
 | some u=>simp
 | none=>
  cases BV [t] (BH s p al x) with
  | some v=>simp
  | none=>simp
theorem jQ:∃x,Hu s p al x (BL s t p al).length/\HR s t p al x=none/\BY s t p=Pn s t p al x (BL s t p al).length:=by
 obtain⟨x,c,b,a⟩:=ea hI;refine⟨x,b,a,?_⟩;unfold BY;rw [if_neg (Ux hI),<-hI.hal,c]
theorem Nu:∃x,Hu s p al x (BL s t p al).length/\HR s t p al x=none/\
    ((BY s t p=⟨0,BH s p al x,[],(BL s t p al).length⟩/\EP s t p (BH s p al x)=0)\/
     (BY s t p=⟨2,IV,[],(BL s t p al).length⟩/\∃w b,Gt s t p al (BH s p al x)=some (w,b)/\(b || LS ⟨s,p,al⟩ w)=true/\Mi (EB s p al) x w=none)\/
     (BY s t p=⟨1,IV,Oa (BV [s,t] p),(BL s t p al).length⟩/\Du [s,t] p=false/\(BV [s,t] p).isSome=true)):=by
  obtain⟨x,e,c,i⟩:=jQ hI;refine⟨x,e,c,?_⟩;rw [i];unfold Pn;have h:=QZ hI e;unfold HR at c
  cases a:Gt s t p al (BH s p al x) with
  | none=>exact .inl ⟨rfl,h.1.1 a⟩
  | some wb=>
    obtain⟨w,b⟩:=wb;rw [a] at c;simp only at c |-;by_cases hb:(b || LS ⟨s,p,al⟩ w)=true
    · rw [if_pos hb] at c |-
      exact .inr (.inl ⟨rfl,w,b,rfl,hb,c⟩)
    · rw [if_neg hb]
      refine .inr (.inr ⟨rfl,?_⟩)
      have hb:b=false/\LS ⟨s,p,al⟩ w=false:=by simpa using hb
      unfold Gt at a;split at a
      · injection a with a;injection a with _ a;rw [hb.1] at a;cases a
      · split at a
        · rename_i v f
          injection a with a;injection a with a _
          subst a;obtain⟨n,m,k,j,l⟩:=Hk f;have hk:=TF hI k j hb.2;refine⟨hk,?_⟩;unfold Du at hk
          have d:(A3 [s,t] && AJ p)=true:=by rw [JH,hI.hs,hI.ht,hI.hp];rfl
          rw [d,oM] at hk
          cases g:BV [s,t] p with
          | none=>rw [g] at hk;cases hk
          | some _=>rfl
        · cases a
end
theorem Sc{s:Sys}{a p:AX}{w:List Int}(h:DK s a p=some w):w.length<=2304:=by
 obtain⟨b,_⟩:=KO h;unfold DK at h;rw [if_pos b] at h;obtain⟨c,hk,d⟩:=Oy b;have hi:=DE (En (Eb s a p));rw [h] at hi;have hs:=hi.short (O9 c d);have e:(En (Eb s a p)).N=(s.st*((a.nx.length:Int)*((p.nx.length:Int)*1))).toNat:=rfl;unfold CR at b;simp only [d4] at b;have k:=AO b.1.1;have j:=AG b.1.2;have i:=AG b.2;have g:(a.nx.length:Int)*((p.nx.length:Int)*1)<=12*12:=oS (by omega) (by omega) (by omega) (by omega)
 have f:s.st*((a.nx.length:Int)*((p.nx.length:Int)*1))<=16*144:=oS (by omega) (by omega) (by
  have:0<=(a.nx.length:Int)*((p.nx.length:Int)*1):=oU (by omega) (by omega)
  exact this) (by omega)
 omega
theorem Sb{t:Sys}{a:AX}{w:List Int}(h:BV [t] a=some w):w.length<=192:=by
 obtain⟨d,c,_⟩:=Hk h
 have b:(A3 [t] && AJ a)=true:=by rw [HT,d,c];rfl
 unfold BV at h;rw [if_pos b] at h;obtain⟨e,hk,f⟩:=Ox b;have hi:=DE (En (C0 [t] a));rw [h] at hi;have hs:=hi.short (O9 e f);have g:(En (C0 [t] a)).N=(t.st*((a.nx.length:Int)*1)).toNat:=rfl;have k:=AO d;have j:=AG c;have i:t.st*((a.nx.length:Int)*1)<=16*12:=oS (by omega) (by omega) (by omega) (by omega);omega
theorem VN(al:Int)(u:List Int):(Dx (BU al u)).length<=u.length:=by
 unfold Dx BU;rw [gt];exact pI _ _
theorem OG{s t:Sys}{p a:AX}{al:Int}{w:W}{b:Bool}(h:Gt s t p al a=some (w,b)):w.length<=4000:=by
 unfold Gt at h;split at h
 ·rename_i u d
  injection h with h;injection h with h e
  have:=Sc d;have:=VN al u;rw [<-h];omega
 ·split at h
  ·rename_i v c
   injection h with h;injection h with h e
   have:=Sb c;have:=VN al v;rw [<-h];omega
  ·cases h
section
variable {s t:Sys}{p:AX}{al:Int}(hI:Fb s p t al)
include hI
theorem eL:CN (EB s p al)=true:=by unfold CN;rw [if_neg o8];exact Gq hI
end
theorem FO{s t:Sys}{p:AX}(h:¬AP s p t < 0):Fb s p t (AP s p t):=by
 have a:(AW s && AJ p && AW t)=true:=by
  unfold AP at h;split at h
  ·assumption
  ·omega
 simp only [d4] at a;exact⟨a.1.1,a.1.2,a.2,rfl⟩
theorem aV{s t:Sys}{p:AX}(h:¬AP s p t < 0):((BY s t p).code=0/\Du [s,t] p=true/\(BY s t p).tr=[])\/((BY s t p).code=2/\(BY s t p).tr=[])\/((BY s t p).code=1/\Du [s,t] p=false/\(BY s t p).tr=Oa (BV [s,t] p)):=by
 obtain⟨x,c,_,b⟩:=Nu (FO h)
 rcases b with ⟨e,a⟩|⟨e,_⟩|⟨e,hk,_⟩
 ·rw [e];exact .inl ⟨rfl,(Uk a).1,rfl⟩
 ·rw [e];exact .inr (.inl ⟨rfl,rfl⟩)
 ·rw [e];exact .inr (.inr ⟨rfl,hk,rfl⟩)
theorem Zt{s t:Sys}{p:AX}(h:AP s p t < 0):BY s t p=⟨3,IV,[],0⟩:=by unfold BY;rw [if_pos h]
abbrev nU:Sys:=⟨0,1,[]⟩
section
variable {t:Sys}{p:AX}{al:Int}(hI:Fb nU p t al)
include hI
end
section
variable {s t s' t':Sys}{p p':AX}{al:Int}(hI:Fb s p t al)(hI':Fb s' p' t' al)(hL:TL (LS ⟨s',p',al⟩) (LS ⟨s,p,al⟩) al)
include hI hI' hL
end
theorem Tq{s t:Sys}{p:AX}{al:Int}(hI:Fb s p t al){x:A1}{r:Nat}(c:Hu s p al x r){w:W}{b:Bool}(h:Gt s t p al (BH s p al x)=some (w,b)):AR (A7 al) w:=by
 obtain⟨g,a,_⟩:=I0 hI c;unfold Gt at h;split at h
 ·rename_i u e
  injection h with h;injection h with h f
  subst h;exact eO (XH hI g a e).1
 ·split at h
  ·rename_i v d
   injection h with h;injection h with h f
   subst h;have:=(Wx d).1;rw [a] at this;exact eO this
  ·cases h
def IU(al:Int)(w:W):W:=w.filter (GO al)
theorem cD{al l:Int}(h:0<=l/\l < 6):GO al (UInt8.ofNat (97+l.toNat))=AY al l.toNat:=by
 have a:(UInt8.ofNat (97+l.toNat)).toNat=97+l.toNat:=by simp;omega
 have c:=Pb al (UInt8.ofNat (97+l.toNat))
 have b:FJ (UInt8.ofNat (97+l.toNat))=true:=by rw [FK,a,decide_eq_true_eq];omega
 rw [<-c,if_pos b,a];unfold hasB;rw [show ((97+l.toNat:Nat):Int) - 97=l by omega,decide_eq_true h.1];rfl
theorem PK{al:Int}:∀ {u:List Int},Hw u->IU al (Dx u)=Dx (BU al u)
 | [],_=>rfl
 | l::u,b=>by
  have a:=PK (al:=al) (u:=u) (λx c=>b x (by simp [c]));have d:=cD (al:=al) (b l (by simp));unfold IU Dx BU at *;rw [pA,qI,qI,d];cases AY al l.toNat
  ·simpa using a
  ·simpa using a
theorem Vl(al:Int)(w:W):(IU al w).length<=w.length:=pI _ _
theorem RS{al:Int}{w:W}{k:Nat}{c:UInt8}(a:w[k]? = some c):IU al (w.take (k+1))=if GO al c then IU al (w.take k)++[c] else IU al (w.take k):=by
 unfold IU;rw [d8,a,Option.toList_some,pm];cases h:GO al c<;>simp [h]
theorem aX{s:Sys}{a p:AX}{u:List Int}(h:DK s a p=some u):Hw u/\(Dx u).length<=2304:=by
 obtain⟨_,b,_⟩:=KO h;exact⟨GS b,by unfold Dx;rw [gt];exact Sc h⟩
theorem aW{t:Sys}{a:AX}{u:List Int}(h:BV [t] a=some u):Hw u/\(Dx u).length<=192:=by
 obtain⟨_,_,b,_⟩:=Hk h;exact⟨GS b,by unfold Dx;rw [gt];exact Sb h⟩
theorem Qi{u:List Int}(d:Hw u)(a:(Dx u).length<=50000):EC (Dx u)=true:=by
 unfold EC;rw [decide_eq_true a,oM,f7];intro c b;unfold Dx at b;obtain⟨l,a,rfl⟩:=d9.1 b;have:=d l a;rw [FK,decide_eq_true_eq]
 have e:(UInt8.ofNat (97+l.toNat)).toNat=97+l.toNat:=by simp;omega
 rw [e];omega
end Go.Am
namespace Go.Am
open Go Go.Proofs
theorem VG{s t:Sys}{p:AX}{al:Int}:∀(k:Nat) (x:A1),(EJ s t p al k x).length<=k+1
 | 0,x=>by simp [EJ]
 | k+1,x=>by
  simp only [EJ]
  cases HR s t p al x with
  | none=>simp
  | some y=>have:=VG (s:=s) (t:=t) (p:=p) (al:=al) k y;simp only [oR];omega
def T7(s t:Sys)(p:AX)(al:Int)(x:A1)(v:W):Prop:=Nz (A7 al) x v\/∃w b,Gt s t p al (BH s p al x)=some (w,b)/\(v=w\/XY (LS ⟨s,p,al⟩) (A7 al) x w v)
theorem Zc{s t:Sys}{p:AX}{al:Int}(h:Bg ⟨s,p,al⟩=true){x:A1}(a:x∈BL s t p al):∃r,Hu s p al x r:=by
 obtain⟨i,hi⟩:=List.mem_iff_getElem?.1 a;exact⟨_,P7 11 (TC h).2 i x hi⟩
theorem TD{s:Sys}{p:AX}{al:Int}{x:A1}{r:Nat}(b:Hu s p al x r):Hd al 20000 x:=by
 obtain⟨_,_,_,a,_⟩:=DA b.v;have:=a.bd;rwa [Fw] at this
section
variable {s t:Sys}{p:AX}{al:Int}(hI:Fb s p t al)(h:Bg ⟨s,p,al⟩=true)
include hI h
theorem Zx{x:A1}(g:x∈BL s t p al):EK 288238 (T7 s t p al x):=by
 obtain⟨r,e⟩:=Zc h g;have hb:=TD e;refine((MN hb).or (b:=286474) ?_).sub (b:=288238) (λv c=>c) (by omega)
 cases f:Gt s t p al (BH s p al x) with
 | none=>exact .none λv ⟨w,b,a,_⟩=>by cases a
 | some wb=>
  obtain⟨w,b⟩:=wb;have d:=Tq hI e f;have i:=OG f;refine((EK.map (n:=1) (p:=λv=>v=w) (λ_:Unit=>w) [()] (by simp) λv c=>⟨(),by simp,c⟩).or (ZG (L:=LS ⟨s,p,al⟩) hb d (by omega))).sub (b:=286474) (λv ⟨w',b',a,c⟩=>?_) (by omega)
  injection a with a
  injection a with a _
  subst a;exact c
theorem fk{x:A1}(k:x∈BL s t p al)(v:W)(a:T7 s t p al x v):okB al v:=by
 obtain⟨r,f⟩:=Zc h k;have hb:=TD f
 rcases a with a|⟨w,b,g,a⟩
 ·exact hb.on (Jk al) (by omega) v a
 ·have d:=Tq hI f g
  have e:=OG g
  rcases a with rfl|a
  ·exact⟨d,by omega⟩
  ·rcases a with a|a|⟨z,i,u,l,y,j,a⟩
   ·exact hb.on (Jk al) (by omega) v a
   ·exact(hb.mono (by omega)).nS (Jk al) d (by omega) v a
   ·obtain⟨q,_,rfl⟩:=IE i
    exact(Sm hb (λc m=>d c (by simp [m])) (by simp at e;omega) l).nv (Jk al) (by omega) y j v a
theorem fj:∃ok:W->Prop,(∀w,ok w->kc al w)/\TE (EB s p al) ok/\(∀y∈ER (LS ⟨s,p,al⟩) (A7 al) 13 Bu,IW ok (A7 al) y)/\
 ∀x∈BL s t p al,IW ok (A7 al) x/\∀w b,Gt s t p al (BH s p al x)=some (w,b)->ok w/\∀v,XY (LS ⟨s,p,al⟩) (A7 al) x w v->ok v:=by
 have i:=Rm (L:=LS ⟨s,p,al⟩) (JN al);have g:EK (12*288238) (λv=>∃x∈BL s t p al,T7 s t p al x v):=EK.ex (n:=12) (b:=288238) (q:=λx v=>T7 s t p al x v) (BL s t p al) (VG 11 _) (λx c=>Zx hI h c) λw d=>d;have l:=i.or g
 have e:∀w,((∃y∈ER (LS ⟨s,p,al⟩) (A7 al) 13 Bu,Nz (A7 al) y w)\/∃x∈BL s t p al,T7 s t p al x w)->okB al w:=λw d=>by
  rcases d with ⟨y,f,a⟩|⟨x,c,a⟩
  ·exact(JN al).nv (Jk al) (by omega) y f w a
  ·exact fk hI h c w a
 obtain⟨k,m⟩:=gT (te:=EB s p al) l (by omega) (λw d=>by rw [Fw];exact e w d);rw [Fw] at k;exact⟨_,k,m,λy f v a=>.inl ⟨y,f,a⟩,λx c=>⟨λv a=>.inr ⟨x,c,.inl a⟩,λw b j=>⟨.inr ⟨x,c,.inr ⟨w,b,j,.inl rfl⟩⟩,λv a=>.inr ⟨x,c,.inr ⟨w,b,j,.inr a⟩⟩⟩⟩⟩
end
end Go.Am
namespace Go.Am
open Go Go.Proofs
set_option maxHeartbeats 1000000
set_option maxRecDepth 4000
attribute [local irreducible] A6 Cz Lex Bv Aj Spec
noncomputable def BE(s t:Sys)(p:AX)(al:Int)(k:Nat):A1:=(BL s t p al).getD k ⟨[],[]⟩
abbrev Mq(v:Vd):List D:=[iD v.code,iD v.a.al,CZ v.a.nx,Fc v.a.ac,tD v.tr,iD v.rd]
abbrev eX(v:Vd):E:=.a [.d (iD v.code),.d (iD v.a.al),.d (CZ v.a.nx),.d (Fc v.a.ac),.d (tD v.tr),.d (iD v.rd)]
section
variable {s t:Sys}{p:AX}{al:Int}(hI:Fb s p t al)
include hI
theorem Zk{x:A1}{r:Nat}(b:Hu s p al x r){w:W}(c:AR (A7 al) w)(d:w.length<=4000):Mi (EB s p al) x w=G0 (LS ⟨s,p,al⟩) (A7 al) x w:=by
 have e:(CN (EB s p al) && BA (Ce (EB s p al)) (A5 (EB s p al)) x)=true:=by
  rw [QW b.v,NZ,Fw,b.o];rfl
 have a:Gs (A5 (EB s p al)) w=true:=by rw [Fw];exact YC (Rs hI) c d
 unfold Mi;rw [e,a,rI,if_pos rfl,NZ,Fw]
theorem db{x:A1}{r:Nat}(a:Hu s p al x r){w:W}{b:Bool}(h:Gt s t p al (BH s p al x)=some (w,b))(hb:(b || LS ⟨s,p,al⟩ w)=true):HR s t p al x=G0 (LS ⟨s,p,al⟩) (A7 al) x w:=by
 unfold HR;rw [h];simp only [hb,if_true];exact Zk hI a (Tq hI a h) (OG h)
omit hI in
theorem Ha{k:Nat}(h:k < (BL s t p al).length):(BL s t p al)[k]? = some (BE s t p al k):=by
 unfold BE;rw [qK,d6 h];rfl
theorem Qf{k:Nat}(h:k+1=(BL s t p al).length):BY s t p=Pn s t p al (BE s t p al k) (k+1):=by
 unfold BY;rw [if_neg (Ux hI),<-hI.hal,<-h]
 have e:(BL s t p al).getLastD Bu=BE s t p al k:=by
  rw [List.getLastD_eq_getLast?,List.getLast?_eq_getElem?,<-h,Nat.add_sub_cancel,Ha (by omega)];rfl
 rw [e]
theorem LZ{k:Nat}(h:k < (BL s t p al).length):Hu s p al (BE s t p al k) (k+1)/\
    ((Gt s t p al (BH s p al (BE s t p al k))=none/\BY s t p=⟨0,BH s p al (BE s t p al k),[],(k:Int)+1⟩/\k+1=(BL s t p al).length)\/
      ∃ w b,Gt s t p al (BH s p al (BE s t p al k))=some (w,b)/\AR (A7 al) w/\w.length<=4000/\
        ((b = false/\LS ⟨s,p,al⟩ w=false/\BY s t p=⟨1,IV,Oa (BV [s,t] p),(k:Int)+1⟩/\k+1=(BL s t p al).length)\/
         ((b=true\/LS ⟨s,p,al⟩ w=true)/\((G0 (LS ⟨s,p,al⟩) (A7 al) (BE s t p al k) w=some (BE s t p al (k+1))/\k+1 < (BL s t p al).length)\/
           (G0 (LS ⟨s,p,al⟩) (A7 al) (BE s t p al k) w=none/\BE s t p al (k+1)=⟨[],[]⟩/\k+1=(BL s t p al).length/\BY s t p=⟨2,IV,[],(k:Int)+1⟩))))):=by
  obtain⟨l,g⟩:=run_get hI (Ha h);refine⟨l,?_⟩
  have f:((k+1:Nat):Int)=(k:Int)+1:=by omega
  have a:HR s t p al (BE s t p al k)=none->k+1=(BL s t p al).length:=λe=>by
    rw [e] at g;have:=qR.1 g;omega
  cases d:Gt s t p al (BH s p al (BE s t p al k)) with
  | none=>
    have e:HR s t p al (BE s t p al k)=none:=by unfold HR;rw [d]
    have c:=Qf hI (a e);unfold Pn at c;rw [d,f] at c;exact .inl ⟨rfl,c,a e⟩
  | some wb=>
    obtain⟨w,b⟩:=wb;refine .inr ⟨w,b,rfl,Tq hI l d,OG d,?_⟩;by_cases hb:(b || LS ⟨s,p,al⟩ w)=true
    · refine .inr ⟨by simpa using hb,?_⟩
      have e:=db hI l d hb
      cases i:G0 (LS ⟨s,p,al⟩) (A7 al) (BE s t p al k) w with
      | some y=>
        rw [i] at e;rw [e] at g;have j:=(ce.1 g).1;refine .inl ⟨?_,j⟩;rw [Ha j] at g;exact g.symm
      | none=>
        rw [i] at e;have hk:=a e;have c:=Qf hI hk;unfold Pn at c;rw [d] at c;simp only [hb,if_true,f] at c;refine .inr ⟨rfl,?_,hk,c⟩;unfold BE;rw [qK,oa (by omega)];rfl
    · have e:HR s t p al (BE s t p al k)=none:=by unfold HR;rw [d];simp only [hb];rfl
      have hk:=a e;have c:=Qf hI hk;unfold Pn at c;rw [d] at c;simp only [hb,f] at c
      have hb:b=false/\LS ⟨s,p,al⟩ w=false:=by simpa using hb
      exact .inl ⟨hb.1,hb.2,c,hk⟩
theorem Vj{a:AX}{w:W}{b:Bool}(h:Gt s t p al a=some (w,b)):(∃u,b=true/\DK s a p=some u/\IU al (Dx u)=w/\Hw u/\(Dx u).length<=2304)\/(∃u,b=false/\DK s a p=none/\BV [t] a=some u/\IU al (Dx u)=w/\Hw u/\(Dx u).length<=192):=by
 unfold Gt at h;split at h
 ·rename_i u d
  injection h with h;injection h with h e
  obtain⟨c,f⟩:=aX d;exact .inl ⟨u,e.symm,d,(PK c).trans h,c,f⟩
 ·rename_i d
  split at h
  ·rename_i v g
   injection h with h;injection h with h e
   obtain⟨c,f⟩:=aW g;exact .inr ⟨v,e.symm,d,g,(PK c).trans h,c,f⟩
  ·cases h
omit hI in
theorem Vk{a:AX}(h:Gt s t p al a=none):DK s a p=none/\BV [t] a=none:=by
 unfold Gt at h;split at h
 ·cases h
 ·rename_i c
  split at h
  ·cases h
  ·rename_i b
   exact⟨c,b⟩
theorem eD:SU (EB s p al)=some (BE s t p al 0):=by
 obtain⟨b,_⟩:=TC (s:=s) (p:=p) (al:=al) (Gq hI);have a:=Ha (s:=s) (t:=t) (p:=p) (al:=al) (k:=0) (by have:=IB hI;omega);rw [b];unfold BL at a;simp only [EJ] at a
 simpa using a
end
end Go.Am
namespace Go.Am
open Go Go.Proofs
set_option maxHeartbeats 1000000
set_option maxRecDepth 4000
attribute [local irreducible] A6 Cz Lex Bv Aj Spec
variable {TB:BF}
theorem Uq{n k:Nat}(h:k < n):(2 ^ n - 1).testBit k=true:=by rw [Nat.testBit_two_pow_sub_one,decide_eq_true h]
theorem KI{n:Nat}:∀ {k:Nat},k<=n->Kh (2 ^ n - 1) k=k
 | 0,_=>rfl
 | k+1,h=>by rw [PD,Uq (by omega),if_pos rfl,KI (by omega)]
theorem WQ{y:Sys}(hs:AW y=true)(X:y.es.length<=1048576):Pure Tryz.prog TB 119 [Bp y,eI .i64 ((2 ^ y.st.toNat - 1:Nat):Int)] (Bp y):=by
 have Z:=AO hs
 obtain⟨a,J,I⟩:∃a:Nat,y.st=a/\a<=16:=⟨y.st.toNat,by omega,by omega⟩
 have V:2 ^ a<=2 ^ 16:=oY (by omega) I
 have B:2 ^ a - 1 < 2 ^ 62:=by omega
 rw [show y.st.toNat=a by omega];have j:=MX (TB:=TB) (2 ^ a - 1) B a (by omega);rw [KI (i8 _)] at j
 obtain⟨m,q⟩:∃m,m=2 ^ a - 1:=⟨_,rfl⟩
 have A:∀k,k < a->AY (m:Nat) k=true:=λk hk=>by rw [Di (by omega) (by omega),q];exact Uq hk
 have b:∀k,k<=a->Kh m k=k:=λk hk=>by rw [q];exact KI hk
 rw [<-q] at j B |-;rw [<-J] at j;refine eG Tryz.func119 rfl (by kernel_rfl) rfl ?_;intro Γ i;(repeat first|refine tA rfl ?_ |refine aU rfl ?_ |apply Aa);refine rG (J6 [(7,1),(8,1)]) (by kernel_rfl) ?_;(repeat first|refine tX rfl ?_ |refine sP rfl (j) rfl ?_|(refine Af rfl ?_;refine gA rfl ?_;first| refine gS (λ_ _=>PA rfl rfl (by rfl) (by rfl)) ?_) |refine aU rfl ?_ |apply Aa);apply aB;refine aL (α:={z:Nat×List Ee // z.1<=y.es.length/\z.2=y.es.take z.1}) [1,2] [] rfl rfl (λs=>[(4,.o (.ptr 0 3 0 0)),(5,.o (.ptr 1 3 0 0)),(6,eI .i64 s.1.1)]) (λs=>fK y.al y.st s.1.2) 3 (λs=>y.es.length - s.1.1) (⟨⟨0,[]⟩,by simp⟩) i rfl (by (simp[cX,zC,i,fK,ND,cN])) ?_;rintro⟨⟨k,l⟩,hk,c⟩;(try dsimp only[cA,cB]);have hk:k<=y.es.length:=hk;have c:l=y.es.take k:=c
 have M:l.length=k:=by rw [c,pH];omega
 by_cases L:k < y.es.length
 ·obtain⟨e,R⟩:=get_some L
  have v:y.es.take (k+1)=l++[e]:=by rw [d8,R,c];rfl
  have Q:=get_map (g:=Dj) R
  have Y:(y.es.map Dj)[((k:Nat):Int).toNat]? = some (Dj e):=by rw [io];exact Q
  have hb:=Df hs (co R);unfold DF at hb;simp only [d4,decide_eq_true_eq] at hb
  obtain⟨S,P⟩:∃S:Nat,e.f=S:=⟨e.f.toNat,by omega⟩
  obtain⟨F,H⟩:∃F:Nat,e.t=F:=⟨e.t.toNat,by omega⟩
  have x:=C4 (TB:=TB) (m:Nat) e.f (by omega) (by omega);have w:=C4 (TB:=TB) (m:Nat) e.t (by omega) (by omega);rw [A _ (by omega)] at x w;have p:=MX (TB:=TB) m B S (by omega);have n:=MX (TB:=TB) m B F (by omega);rw [b _ (by omega),<-P] at p;rw [b _ (by omega),<-H] at n;(repeat first|refine sN rfl ?_ |refine tA rfl ?_ |refine s2 rfl λ_ T=>?_ |refine aU rfl ?_ |apply Aa)
  ((refine aC rfl ?_ ?_<;>rintro⟨⟩);all_goals try(exfalso;(simp only[oZ] at *;omega)))
  apply aK;refine aS (aB ?_)
  (repeat' first|refine tA rfl ?_ |(refine s4 rfl ‹_› rfl ?_ ?_;omega) |refine sP rfl (x) rfl ?_|refine sP rfl (w) rfl ?_ |refine aU rfl ?_ |apply Aa|(refine aC rfl ?_ ?_<;>rintro⟨⟩));all_goals try contradiction
  cases l with
  | nil=>
   refine rG (J6 [(1,11),(4,13),(7,13),(10,13),(14,1),(16,1)]) (by kernel_rfl) ?_;(repeat first|refine tA rfl ?_ |refine sP rfl (p) rfl ?_|refine sP rfl (n) rfl ?_|(refine Af rfl ?_;refine gA rfl ?_;first| refine gS (λ_ _=>AB rfl rfl (by rfl) (by rfl)) ?_));(refine pW rfl ?_ rfl (by rfl);refine YJ 38 rfl ?_;refine EI rfl rfl rfl (by intro r u;simp at u;subst u;rfl) (by rfl) (am rfl) (by simp) (λh=>?_) (λ_=>?_))
   ·exact absurd h (by simp)
   (repeat first|(refine sX rfl ?_ ?_;first|exact tI|omega) |refine aU rfl ?_ |apply Aa);refine⟨⟨⟨k+1,[e]⟩,by dsimp only;omega,by dsimp only;rw [v];rfl⟩,by dsimp only;(omega),[0,1,4],?_⟩;(simp[cX,zC,i,cN,fK,ND,Ae,eC]<;>rfl)
  | cons G l=>
   refine rG (J6 [(1,11),(4,13),(7,13),(10,13),(14,1),(16,1)]) (by kernel_rfl) ?_;(repeat first|refine tA rfl ?_ |refine sP rfl (p) rfl ?_|refine sP rfl (n) rfl ?_|(refine Af rfl ?_;refine gA rfl ?_;first| refine gS (λ_ _=>AB rfl rfl (by rfl) (by rfl)) ?_));(refine pW rfl ?_ rfl (by rfl);refine Al rfl rfl rfl (by first| (simp;done)|(simp;(omega))) rfl (by intro r u;simp at u;subst u;rfl) (by rfl) (am rfl) (by simp at M |-;omega) ?_);(repeat first|(refine sX rfl ?_ ?_;first|exact tI|omega) |refine aU rfl ?_ |apply Aa);refine⟨⟨⟨k+1,G::(l++[e])⟩,by dsimp only;omega,by dsimp only;rw [v];rfl⟩,by dsimp only;(omega),[0,1,4],?_⟩;(simp[cX,zC,i,cN,fK,ND,Ae,eC]<;>rfl)
 ·have N:k=y.es.length:=by omega
  have K:l=y.es:=by rw [c,N,ge]
  have U:y=⟨y.al,y.st,l⟩:=by rw [K]
  (repeat first|refine sN rfl ?_ |refine tA rfl ?_ |refine s2 rfl λ_ T=>?_ |refine aU rfl ?_ |apply Aa)
  ((refine aC rfl ?_ ?_<;>rintro⟨⟩);all_goals try(exfalso;(simp only[oZ] at *;omega)))
  apply aE;rw [U]
  cases l with
  | nil=>
   refine Aj.AF [1] [(4,.o (.ptr 0 3 0 0)),(5,.o (.ip (AL ⟨y.al,y.st,[]⟩)))] ⟨⟨_,rfl,.inl rfl⟩,⟨_,rfl,.inr (.o (.box rfl (.cons .d (.cons .d (.cons .nl .nil)))))⟩,trivial⟩ ?_;(repeat first|refine tA rfl ?_ |refine aU rfl ?_ |apply Aa);(subst_vars;exact aR ⟨_,rfl,rfl⟩)
  | cons G l=>
   refine Aj.AF [1,2] [(4,.o (.ptr 0 3 0 0)),(5,.o (.ip (AL ⟨y.al,y.st,G::l⟩)))] ⟨⟨_,rfl,.inl rfl⟩,⟨_,rfl,.inr (.o (.box rfl (.cons .d (.cons .d (.cons (.full rfl (by simp [d5]) (by simp)) .nil)))))⟩,trivial⟩ ?_;(repeat first|refine tA rfl ?_ |refine aU rfl ?_ |apply Aa);(subst_vars;exact aR ⟨_,rfl,rfl⟩)
abbrev VI(s:Sys)(p:AX)(t:Sys):CM×Bool:=if AP s p t < 0 then (⟨⟨0,0,[]⟩,⟨0,[],[]⟩,0⟩,false) else (⟨s,p,AP s p t⟩,true)
theorem Jq(s:Sys)(p:AX)(t:Sys)(f:s.es.length<=1048576):Pure Tryz.prog TB 68 [Bp s,Bc p,Bp t] (nk (VI s p t)):=by
 have c:=KN (TB:=TB) s p t;unfold VI;by_cases h:AP s p t < 0
 ·rw [if_pos h]
  refine eG Tryz.func68 rfl (by kernel_rfl) rfl ?_;intro Γ a;(repeat first|refine tA rfl ?_ |refine s2 rfl λ_ i=>?_ |refine sP rfl (c) rfl ?_ |refine aU rfl ?_ |apply Aa)
  ((refine aC rfl ?_ ?_<;>rintro⟨⟩);all_goals try(exfalso;(simp only[oZ] at *;omega)))
  (repeat first|refine tA rfl ?_|(refine Af rfl ?_;refine gA rfl ?_;first| refine gS (λ_ _=>AB rfl rfl (by rfl) (by rfl)) ?_) |refine aU rfl ?_ |apply Aa);(subst_vars;exact aR ⟨_,rfl,rfl⟩)
 ·rw [if_neg h]
  have hI:=FO h;have u:=AO hI.hs;have g:=WN (TB:=TB) s.st (by omega) (by omega);have b:=WQ (TB:=TB) hI.hs f;have m:2 ^ s.st.toNat<=2 ^ 16:=oY (by omega) (by omega);have n:0 < 2 ^ s.st.toNat:=qQ _
  have e:((2 ^ s.st.toNat:Nat):Int) - 1=((2 ^ s.st.toNat - 1:Nat):Int):=by omega
  rw [<-e] at b;generalize 2 ^ s.st.toNat=pw at *;generalize AP s p t=ai at *;refine eG Tryz.func68 rfl (by kernel_rfl) rfl ?_;intro Γ a;(repeat first|refine tA rfl ?_ |refine s2 rfl λ_ i=>?_ |refine sP rfl (c) rfl ?_ |refine aU rfl ?_ |apply Aa)
  ((refine aC rfl ?_ ?_<;>rintro⟨⟩);all_goals try(exfalso;(simp only[oZ] at *;omega)))
  apply aK;(repeat first|refine aU rfl ?_);refine rG ⟨Gh [(7,1),(10,1)],bg [0,1,2,3,4,6,8,5,7,9,10,11]⟩ (by kernel_rfl) ?_;(repeat first|(refine sX rfl ?_ ?_;first|exact tI|omega) |refine sP rfl (g) rfl ?_|refine sP rfl (b) rfl ?_);(refine pW rfl ?_ rfl (by rfl);refine Ck [] rfl rfl 0 (JB p (OQ hI.hp)) (by decide) ⟨rfl,by decide,by decide⟩ rfl (by simp[cX,zC,a,cN]) ?_;rintro r j k ⟨l,q,rfl,rfl,rfl⟩ _);(repeat first|refine tX rfl ?_|(refine Af rfl ?_;refine gA rfl ?_;first| refine gS (λ_ _=>AB rfl rfl (by rfl) (by rfl)) ?_) |apply Aa);refine Aj.Ay [] [] rfl rfl [(6,.o (.ptr 0 7 0 0)),(7,eB true)] [(0,.cells 87 7 [[.d (iD s.al),.d (iD s.st),.d (Eu s.es),.d (iD p.al),.arr 1 1 0 l.length,.arr 2 1 0 p.ac.length,.d (iD ai)]]),(1,.cells 64 1 (AA l)),(2,.cells 4 1 (p.ac.map AV)),(3,.sld 3 (sI l))] [0,1,2,3] (rl a rfl) (by (simp[cX,zC,a,cN,BR,Ae,eC])) ?_;(try dsimp only[cA,cB]);refine Aj.AF [0,1,2,3] [(6,.o (.ip (Mn ⟨s,⟨p.al,l.map (·.2),p.ac⟩,ai⟩))),(7,eB true)] ⟨⟨_,rfl,.inr (.o (.box rfl (.cons .d (.cons .d (.cons .d (.cons .d (.cons (.MB (s:=3) rfl rfl) (.cons (.full rfl (by simp [d5]) (by simp)) (.cons .d .nil)))))))))⟩,⟨_,rfl,.inl rfl⟩,trivial⟩ ?_;rw [q];(subst_vars;exact aR ⟨_,rfl,rfl⟩)
theorem NT(w:W)(al:Int)(p:w.length<=1048576):Pure Tryz.prog TB 58 [eT w,eI .i64 al] (eT (IU al w)):=by
 refine eG Tryz.func58 rfl (by kernel_rfl) rfl ?_;intro Γ d;(repeat first|refine tM rfl ?_ |refine aU rfl ?_ |apply Aa);(refine pW rfl ?_ rfl (by rfl);refine Hp 1 5 ?_);(repeat first|refine tM rfl ?_ |refine aU rfl ?_ |apply Aa);apply aB;refine aL (α:={k:Nat // k<=w.length}) [0,1,8] [] rfl rfl (λ⟨k,hk⟩=>[(5,.o (.arr 0 1 0 (IU al (w.take k)).length)),(9,eI .i64 k)]) (λ⟨k,hk⟩=>[(0,.cells 5 1 ((IU al (w.take k)).map FH))]) 1 (λ⟨k,hk⟩=>w.length - k) (⟨0,by omega⟩) d rfl (by (repeat' first|exact tI|rfl|refine And.intro ?_ ?_)) ?_;rintro⟨k,hk⟩;(try dsimp only[cA,cB]);by_cases i:k < w.length
 ·obtain⟨c,n⟩:=get_some i
  have j:w[((k:Nat):Int).toNat]? = some c:=by simpa using n
  have e:=Lx (TB:=TB) w k c j;have a:=Kv (TB:=TB) al (if FJ c then (c.toNat:Int) - 97 else -1);rw [Pb] at a;generalize (if FJ c then (c.toNat:Int) - 97 else -1:Int)=l at e a;have b:=RS (al:=al) n;have h:=Vl al (w.take k);rw [pH] at h;(repeat first|refine s2 rfl λ_ f=>?_ |refine aU rfl ?_ |apply Aa)
  ((refine aC rfl ?_ ?_<;>rintro⟨⟩);all_goals try(exfalso;(simp only[oZ] at *;omega)))
  apply aK;refine aS (aB ?_);cases g:GO al c
  ·rw [g] at a b
   (repeat first|refine tA rfl ?_ |refine sP rfl (e) rfl ?_|refine sP rfl (a) rfl ?_ |refine aU rfl ?_ |apply Aa)
   ((refine aC rfl ?_ ?_<;>rintro⟨⟩);all_goals try (simp at f;done))
   apply aK;(repeat first|(refine sA rfl ?_ ?_;first|exact tI|omega) |refine aU rfl ?_ |apply Aa);refine⟨⟨k+1,by omega⟩,by dsimp only;(omega),[0],?_⟩;simp[cX,zC,d,b,FH,FY]
  ·rw [g] at a b
   (repeat first|refine tA rfl ?_ |refine sP rfl (e) rfl ?_|refine sP rfl (a) rfl ?_ |refine aU rfl ?_ |apply Aa)
   ((refine aC rfl ?_ ?_<;>rintro⟨⟩);all_goals try (simp at f;done))
   (repeat first|refine tA rfl ?_ |(refine s4 rfl ‹_› rfl ?_ ?_;omega) |refine aU rfl ?_);(refine pW rfl ?_ rfl (by rfl);refine Al rfl rfl rfl (by first| (simp;done)|(simp;(omega))) rfl (by intro r m;simp at m;subst m;rfl) (by rfl) (am rfl) (by simp;omega) ?_);(repeat first|(refine sX rfl ?_ ?_;first|exact tI|omega) |refine aU rfl ?_ |apply Aa);refine⟨⟨k+1,by omega⟩,by dsimp only;(omega),[1],?_⟩;simp[cX,zC,d,b,FY,FH,o6]
 ·obtain rfl:k=w.length:=by omega
  rw [ge] at *;(repeat first|refine s2 rfl λ_ f=>?_ |refine aU rfl ?_ |apply Aa)
  ((refine aC rfl ?_ ?_<;>rintro⟨⟩);all_goals try(exfalso;(simp only[oZ] at *;omega)))
  apply aE;(repeat first|refine tM rfl ?_|(refine Af rfl ?_;refine gA rfl ?_;first| refine gQ (OF (IU al w) rfl rfl (by simp) (by first| rw [o5,gc (by simp)]|rw [o5,Ts,gc (by simp)])) (by rfl) ?_) |refine aU rfl ?_ |apply Aa);(subst_vars;exact aR ⟨_,rfl,rfl⟩)
theorem IS[C8 TB](s:Sys)(p:AX):Pure Tryz.prog TB 18 [Bp s,Bc p] (Lm (BV [s] p)):=by
 refine eN Tryz.func18 rfl (by kernel_rfl) rfl ?_;intro Γ a;(repeat' first|refine tA rfl ?_ |refine sP rfl (Dt [s] p) rfl ?_ |refine aU rfl ?_ |apply Aa|(refine aC rfl ?_ ?_<;>rintro⟨⟩)|apply aK|apply aE|apply aB|refine aR ⟨_,rfl,?_⟩)
 all_goals rfl
theorem Fh[C8 TB](s:Sys)(p:AX):Pure Tryz.prog TB 129 [Bp s,Bc p] (Lm (BV [s] p)):=by
 refine eN Tryz.func129 rfl (by kernel_rfl) rfl ?_;intro Γ a;(repeat' first|refine tA rfl ?_ |refine sP rfl (Fi [s] p) rfl ?_ |refine aU rfl ?_ |apply Aa|(refine aC rfl ?_ ?_<;>rintro⟨⟩)|apply aK|apply aE|apply aB|refine aR ⟨_,rfl,?_⟩)
 all_goals rfl
theorem bN(s:Sys)(p:AX)(al:Int):Kj Tryz.prog TB 123 170 (EB s p al) (DU (EB s p al)) (E9 (EB s p al)):=iI (t:=EB s p al) rfl
theorem eK{te:EE}:0<=DU te->A8 (DU te)=true:=λh=>by
 unfold DU at *;split at h
 ·rename_i hk;rw [if_pos hk];exact Hc hk
 ·omega
theorem aI(s:Sys)(p:AX)(al:Int):Pure Tryz.prog TB 69 [EL (EB s p al)] (IK (SU (EB s p al))):=by
 rw [<-jo];exact SY (bN s p al)
theorem aJ(s:Sys)(p:AX)(al:Int)(x:A1)(a:VR x):Pure Tryz.prog TB 70 [EL (EB s p al),Ef x] (Uh (Sr (EB s p al) x)):=by
 rw [<-iK];exact Ht (bN s p al) x a
theorem Xu(s:Sys)(p:AX)(al:Int)(x:A1)(a:VR x)(w:W)(b:w.length<=4000):Pure Tryz.prog TB 74 [EL (EB s p al),Ef x,eT w] (IK (Mi (EB s p al) x w)):=by
 rw [<-gJ];exact QB (bN s p al) (eK (te:=EB s p al)) x a w (by omega)
theorem IM(w:W)(al:Int)(m:EC w=true)(ha:A8 al=true)(x:w.length<=50000):Pure Tryz.prog TB 128 [eT w,eI .i64 al] (eT (IU al w)):=by
 have u:=Mu (TB:=TB) w (by omega);have t:=Dq (TB:=TB) al
 have l:∀c∈w,FJ c=true:=by
  unfold EC at m;rw [d4,f7] at m;exact m.2
 rw [m] at u;rw [ha] at t;refine eG Tryz.func128 rfl (by kernel_rfl) rfl ?_;intro Γ d;(repeat first|refine tA rfl ?_ |refine s2 rfl λ_ b=>?_ |refine sP rfl (u) rfl ?_|refine sP rfl (t) rfl ?_ |refine s3 rfl ?_ ?_<;>rintro rfl |refine aU rfl ?_ |apply Aa)
 (repeat' first|refine tA rfl ?_ |refine s2 rfl λ_ b=>?_ |refine sP rfl (u) rfl ?_|refine sP rfl (t) rfl ?_ |refine aU rfl ?_ |apply Aa|(refine aC rfl ?_ ?_<;>rintro⟨⟩));all_goals try contradiction
 apply aK;(repeat first|refine aU rfl ?_);(refine pW rfl ?_ rfl (by rfl);refine Bk rfl rfl rfl rfl (by simp) (by rfl) (by rfl) (by rfl) (by rfl) ?_);(repeat first|refine tX rfl ?_ |refine aU rfl ?_ |apply Aa);apply aB;refine aL (α:={k:Nat // k<=w.length}) [0,1] [] rfl rfl (λ⟨k,hk⟩=>[(5,.o (.arr 0 1 0 (IU al (w.take k)).length)),(6,eI .i64 k)]) (λ⟨k,hk⟩=>[(0,.cells 5 1 ((IU al (w.take k)).map FH))]) 1 (λ⟨k,hk⟩=>w.length - k) (⟨0,by omega⟩) d rfl (by (simp[cX,zC,d,IU])) ?_;rintro⟨k,hk⟩;(try dsimp only[cA,cB]);by_cases p:k < w.length
 ·obtain⟨c,s⟩:=get_some p
  have q:w[((k:Nat):Int).toNat]? = some c:=by simpa using s
  have i:=l c (co s);have h:=i;rw [FK,decide_eq_true_eq] at h;have g:=Ir (TB:=TB) w k c q;have a:=C4 (TB:=TB) al ((c.toNat:Int) - 97) (by omega) (by omega)
  have e:AY al ((c.toNat:Int) - 97).toNat=GO al c:=by
   unfold GO;rw [i,oM];congr 1;omega
  rw [e] at a;have f:=RS (al:=al) s;have n:=Vl al (w.take k);rw [pH] at n;(repeat first|refine tA rfl ?_ |refine s2 rfl λ_ b=>?_ |refine aU rfl ?_ |apply Aa)
  ((refine aC rfl ?_ ?_<;>rintro⟨⟩);all_goals try(exfalso;(simp only[oZ] at *;omega)))
  apply aK;refine aS (aB ?_);cases j:GO al c
  ·rw [j] at a f
   (repeat first|refine tA rfl ?_ |refine sP rfl (g) rfl ?_|refine sP rfl (a) rfl ?_ |refine aU rfl ?_ |apply Aa)
   ((refine aC rfl ?_ ?_<;>rintro⟨⟩);all_goals try (simp at b;done))
   apply aK;(repeat first|(refine sA rfl ?_ ?_;first|exact tI|omega) |refine aU rfl ?_ |apply Aa);refine⟨⟨k+1,by omega⟩,by dsimp only;(omega),[0],?_⟩;simp[cX,zC,d,f,FH,FY]
  ·rw [j] at a f
   (repeat first|refine tA rfl ?_ |refine sP rfl (g) rfl ?_|refine sP rfl (a) rfl ?_ |refine aU rfl ?_ |apply Aa)
   ((refine aC rfl ?_ ?_<;>rintro⟨⟩);all_goals try (simp at b;done))
   (repeat first|refine tA rfl ?_ |(refine s4 rfl ‹_› rfl ?_ ?_;omega) |refine aU rfl ?_);(refine pW rfl ?_ rfl (by rfl);refine Al rfl rfl rfl (by first| (simp;done)|(simp;(omega))) rfl (by intro r v;simp at v;subst v;rfl) (by rfl) (am rfl) (by simp;omega) ?_);(repeat first|(refine sX rfl ?_ ?_;first|exact tI|omega) |refine aU rfl ?_ |apply Aa);refine⟨⟨k+1,by omega⟩,by dsimp only;(omega),[1],?_⟩;simp[cX,zC,d,f,FY,FH,o6,Nh]
 ·obtain rfl:k=w.length:=by omega
  rw [ge] at *;(repeat first|refine tA rfl ?_ |refine s2 rfl λ_ b=>?_ |refine aU rfl ?_ |apply Aa)
  ((refine aC rfl ?_ ?_<;>rintro⟨⟩);all_goals try(exfalso;(simp only[oZ] at *;omega)))
  apply aE;(repeat first|refine tM rfl ?_|(refine Af rfl ?_;refine gA rfl ?_;first| refine gQ (OF (IU al w) rfl rfl (by simp) (by first| rw [o5,gc (by simp)]|rw [o5,Ts,gc (by simp)])) (by rfl) ?_) |refine aU rfl ?_ |apply Aa);(subst_vars;exact aR ⟨_,rfl,rfl⟩)
abbrev kF(w:W)(c:Int):E:=.t [(false,[.d (tD w)]),(false,[.d (iD c)])]
section
variable [C8 TB]{s t:Sys}{p:AX}{al:Int}(hI:Fb s p t al)
include hI
theorem UA{a:AX}(h:Gt s t p al a=none):Pure Tryz.prog TB 71 [Bp t,Qu ⟨s,p,al⟩,Bc a] (kF [] 0):=by
 obtain⟨f,e⟩:=Vk h;have c:=Fj (TB:=TB) s a p;have b:=Fh (TB:=TB) t a;rw [f] at c;rw [e] at b;refine eG Tryz.func71 rfl (by kernel_rfl) rfl ?_;intro Γ d;(repeat first|refine tA rfl ?_ |refine sP rfl (c) rfl ?_|refine sP rfl (b) rfl ?_ |refine aU rfl ?_ |apply Aa)
 (repeat' first|refine sP rfl (c) rfl ?_|refine sP rfl (b) rfl ?_|(refine aC rfl ?_ ?_<;>rintro⟨⟩));all_goals try contradiction
 apply aK;(repeat first|refine tA rfl ?_ |refine s2 rfl λ_ g=>?_ |refine sP rfl (b) rfl ?_ |refine aU rfl ?_ |apply Aa)
 (repeat' first|refine tA rfl ?_ |refine sP rfl (b) rfl ?_ |refine aU rfl ?_ |apply Aa|(refine aC rfl ?_ ?_<;>rintro⟨⟩));all_goals try contradiction
 (subst_vars;exact aR ⟨_,rfl,rfl⟩)
theorem UB{a:AX}{w:W}{b:Bool}(h:Gt s t p al a=some (w,b))(m:AR (A7 al) w)(r:w.length<=4000):Pure Tryz.prog TB 71 [Bp t,Qu ⟨s,p,al⟩,Bc a] (kF w (if (b || LS ⟨s,p,al⟩ w)=true then -1 else 1)):=by
 have hal:=Rs hI;have d:=Fj (TB:=TB) s a p;have i:=Fh (TB:=TB) t a
 rcases Vj hI h with ⟨u,rfl,l,k,j,n⟩|⟨u,rfl,o,l,k,j,n⟩
 ·rw [l] at d
  have e:=IM (TB:=TB) (Dx u) al (Qi j (by omega)) hal (by omega);rw [k] at e;rw [Bool.true_or,if_pos rfl];refine eG Tryz.func71 rfl (by kernel_rfl) rfl ?_;intro Γ f;(repeat first|refine tA rfl ?_ |refine sP rfl (d) rfl ?_ |refine aU rfl ?_ |apply Aa)
  (repeat' first|refine tA rfl ?_ |refine sP rfl (d) rfl ?_|refine sP rfl (e) rfl ?_ |refine aU rfl ?_ |apply Aa|(refine aC rfl ?_ ?_<;>rintro⟨⟩));all_goals try contradiction
  (subst_vars;exact aR ⟨_,rfl,rfl⟩)
 ·rw [o] at d
  rw [l] at i;have e:=IM (TB:=TB) (Dx u) al (Qi j (by omega)) hal (by omega);rw [k] at e;have g:=NV (TB:=TB) ⟨s,p,al⟩ w (by omega);rw [RX (Gq hI) w m (by omega)] at g;rw [qJ];generalize LS ⟨s,p,al⟩ w=q at *;refine eG Tryz.func71 rfl (by kernel_rfl) rfl ?_;intro Γ f;(repeat first|refine tA rfl ?_ |refine sP rfl (d) rfl ?_ |refine aU rfl ?_ |apply Aa)
  (repeat' first|refine sP rfl (d) rfl ?_|(refine aC rfl ?_ ?_<;>rintro⟨⟩));all_goals try contradiction
  apply aK;(repeat first|refine tA rfl ?_ |refine s2 rfl λ_ c=>?_ |refine sP rfl (i) rfl ?_ |refine aU rfl ?_ |apply Aa)
  (repeat' first|refine tA rfl ?_ |refine sP rfl (i) rfl ?_ |refine aU rfl ?_ |apply Aa|(refine aC rfl ?_ ?_<;>rintro⟨⟩));all_goals try contradiction
  apply aK;(repeat first|refine tA rfl ?_ |refine sP rfl (e) rfl ?_ |refine aU rfl ?_ |apply Aa);cases q
  ·(repeat first|refine s2 rfl λ_ c=>?_ |refine sP rfl (g) rfl ?_ |apply Aa)
   ((refine aC rfl ?_ ?_<;>rintro⟨⟩);all_goals try (simp at c;done))
   (repeat first|refine tA rfl ?_ |refine aU rfl ?_ |apply Aa);(subst_vars;exact aR ⟨_,rfl,rfl⟩)
  ·(repeat first|refine s2 rfl λ_ c=>?_ |refine sP rfl (g) rfl ?_ |apply Aa)
   ((refine aC rfl ?_ ?_<;>rintro⟨⟩);all_goals try (simp at c;done))
   apply aK;(repeat first|refine tA rfl ?_ |refine aU rfl ?_ |apply Aa);(subst_vars;exact aR ⟨_,rfl,rfl⟩)
end
theorem ZC(l:List Ee)(h:l.length<=1048576):Spec Tryz.prog TB 107 [] 0 [.o (.d (Eu l))] (λx σ nx=>x=.o (.arr 0 3 0 l.length)/\nx=1/\σ=[(0,.cells 116 3 (l.map Be))]):=by
 refine eN Tryz.func107 rfl (by kernel_rfl) rfl ?_;intro Γ a;(repeat first|refine aU rfl ?_);(refine Af rfl ?_;refine CE (λ_ _=>CJ rfl) rfl ?_);(repeat first|refine tM rfl ?_ |refine aU rfl ?_ |apply Aa);(refine pW rfl ?_ rfl (by rfl);refine LK rfl ?_;intro e b);(repeat first|apply Aa);(refine aC rfl ?_ ?_<;>rintro⟨⟩)
 ·obtain rfl:l=[]:=by simpa using b rfl
  (repeat first|refine aU rfl ?_);(refine pW rfl ?_ rfl (by rfl);refine Hp 3 116 ?_);(repeat first|apply Aa);refine aR ⟨_,rfl,rfl,rfl,rfl⟩
 ·apply aK
  (repeat first|refine aU rfl ?_);(refine pW rfl ?_ rfl (by rfl);refine Bk rfl rfl rfl rfl (by simp) (by rfl) (by rfl) (by rfl) (by rfl) ?_);(repeat first|refine tM rfl ?_);(refine pW rfl ?_ rfl (by rfl);refine Al rfl rfl rfl (by first| (simp;done)|(simp;(omega))) rfl (by intro r c;simp only [o9,d9] at c;obtain⟨_,_,rfl⟩:=c;rfl) (by rfl) (am rfl) (by simp;omega) ?_);(repeat first|refine tM rfl ?_ |apply Aa);refine Aj.names [1] [(2,.o (.arr 0 3 0 l.length))] [(0,.cells 116 3 (l.map Be))] (by intro i hi;rw [a] at hi;omega) (by simp) (by simp[cX,zC,a]) (by simp[cX,zC,a]) ?_;refine aR ⟨_,rfl,rfl,rfl,rfl⟩
theorem J8(s:Sys)(p:AX)(t:Sys)(f:s.es.length<=1048576):Pure Tryz.prog TB 63 [Bp s,Bc p,Bp t] (nk (VI s p t)):=by
 have b:=GN (TB:=TB) s p t;unfold VI;by_cases i:AP s p t < 0
 ·rw [if_pos i]
  refine eG Tryz.func63 rfl (by kernel_rfl) rfl ?_;intro Γ a;(repeat first|refine tA rfl ?_ |refine s2 rfl λ_ j=>?_ |refine sP rfl (b) rfl ?_ |refine aU rfl ?_ |apply Aa)
  ((refine aC rfl ?_ ?_<;>rintro⟨⟩);all_goals try(exfalso;(simp only[oZ] at *;omega)))
  (repeat first|refine tA rfl ?_|(refine Af rfl ?_;refine gA rfl ?_;first| refine gS (λ_ _=>AB rfl rfl (by rfl) (by rfl)) ?_) |refine aU rfl ?_ |apply Aa);(subst_vars;exact aR ⟨_,rfl,rfl⟩)
 ·rw [if_neg i]
  have hI:=FO i;have h:=ZC (TB:=TB) s.es f;have g:=MJ (TB:=TB) p ((OQ hI.hp).upto (by omega));generalize AP s p t=ai at *;refine eG Tryz.func63 rfl (by kernel_rfl) rfl ?_;intro Γ a;(repeat first|refine aU rfl ?_);(refine pW rfl ?_ rfl (by rfl);refine C9 rfl rfl ?_);(repeat first|refine tA rfl ?_ |refine s2 rfl λ_ j=>?_ |refine sP rfl (b) rfl ?_ |refine aU rfl ?_ |apply Aa)
  ((refine aC rfl ?_ ?_<;>rintro⟨⟩);all_goals try(exfalso;(simp only[oZ] at *;omega)))
  apply aK;(repeat first|refine tA rfl ?_ |refine aU rfl ?_);(refine pW rfl ?_ rfl (by rfl);refine Ai [] rfl rfl (h) ⟨rfl,by decide,by decide⟩ rfl (by simp[cX,zC,a,cN]) ?_;rintro k c e ⟨rfl,rfl,rfl⟩ _);(repeat first|refine tA rfl ?_ |refine aU rfl ?_ |apply Aa);refine rG ⟨Gh [(0,10),(2,1001),(5,1)],bg [0,1,3,2,4,5,6]⟩ (by kernel_rfl) ?_;(repeat first|refine tA rfl ?_);(refine Af rfl ?_;refine C6 ?_ rfl ⟨rfl,rfl⟩;refine Ck [] rfl rfl 0 g (by decide) ⟨rfl,by decide,by decide⟩ rfl (by simp[cX,zC,a,cN]) ?_;rintro k c e ⟨l,m,rfl,rfl,rfl⟩ _;refine⟨Fg 0 rfl rfl,?_⟩);(repeat first|refine tA rfl ?_|(refine Af rfl ?_;refine gA rfl ?_;first| refine gS (λ_ _=>AB rfl rfl (by rfl) (by rfl)) ?_) |apply Aa);refine Aj.Ay [] [] rfl rfl [(6,.o (.ptr 0 7 0 0)),(7,eB true)] [(0,.cells 87 7 [[.d (iD s.al),.d (iD s.st),.arr 1 3 0 s.es.length,.d (iD p.al),.arr 2 1 0 l.length,.arr 3 1 0 p.ac.length,.d (iD ai)]]),(1,.cells 116 3 (s.es.map Be)),(2,.cells 64 1 (AA l)),(3,.cells 4 1 (p.ac.map AV)),(4,.sld 3 (sI l))] [1,2,3,4,5] (rl a rfl) (by (simp[cX,zC,a,cN,BR,Ae,eC])) ?_;(try dsimp only[cA,cB]);refine Aj.AF [0,1,2,3,4] [(6,.o (.ip (Mn ⟨s,⟨p.al,l.map (·.2),p.ac⟩,ai⟩))),(7,eB true)] ⟨⟨_,rfl,.inr (.o (.box rfl (.cons .d (.cons .d (.cons (.full rfl (by simp [d5]) (by simp)) (.cons .d (.cons (.MB (s:=4) rfl rfl) (.cons (.full rfl (by simp [d5]) (by simp)) (.cons .d .nil)))))))))⟩,⟨_,rfl,.inl rfl⟩,trivial⟩ ?_;rw [m];(subst_vars;exact aR ⟨_,rfl,rfl⟩)
end Go.Am
namespace Go.Am
open Go
section
variable {P:Program}{TB:BF}{Γ:Ctx}{σ:Ab}
theorem Inv.freeze{V:View}(hi:Inv TB Γ V σ)(ids:List Nat):Inv TB Γ (Gf V (GW σ ids)) (BZ ids σ):=by
 have g:∀id o,look (GW σ ids) id=some o->look σ id=some o:=λid o h=>(Ew h).2;have e:Ext V (Gf V (GW σ ids)):=Lc;refine⟨hi.os,hi.tape,hi.output,hi.old,?_,?_,hi.ext.trans e,⟨?_,?_,?_,?_⟩,?_,λx n=>⟨.inl (hi.tabs x n).1,(hi.tabs x n).2⟩,hi.hid.same rfl (λ_ h=>.inl h) (λb hb=>hb.elim .inl λ⟨id,o,a,c,m⟩=>.inr ⟨id,o,g _ _ a,c,m⟩) λb ⟨id,o,a,c,hb⟩=>have f:=(Bb ids σ id o a).2;⟨id,o,f,c,(AD e (hi.st.lt id o f)).1 hb⟩⟩
 ·rintro b (hb|⟨id,o,a,c,hb⟩)
  ·exact hi.iLt b hb
  ·exact(hi.st.obj id o (g _ _ a)).blt c hb
 ·rintro b (hb|⟨id,o,a,c,hb⟩)
  ·exact hi.iNew b hb
  ·exact .inr (hi.live id o (g _ _ a) c b hb)
 ·intro id o a
  have:=(Bb ids σ id o a).2;exact(hi.st.obj id o this).AQ e (hi.st.lt id o this) λ_ _ _=>rfl
 ·intro id o a;exact hi.st.lt id o (Bb ids σ id o a).2
 ·intro id o a c b d hb
  obtain⟨q,f⟩:=Bb ids σ id o a;have d:=(AD e (hi.st.lt id o f)).1 d
  rcases hb with hb|⟨id',o',j,i,m⟩
  ·exact hi.st.free id o f c b d hb
  ·have p:=Ew j
   exact hi.st.inj id id' o o' f p.2 (λe=>q (e ▸ p.1)) c i b d m
 ·intro id id' o o' a j l c i b hb d
  have f:=(Bb ids σ id o a).2;have k:=(Bb ids σ id' o' j).2;exact hi.st.inj id id' o o' f k l c i b ((AD e (hi.st.lt id o f)).1 hb) ((AD e (hi.st.lt id' o' k)).1 d)
 ·intro id o a c b hb
  have f:=(Bb ids σ id o a).2;exact hi.live id o f c b ((AD e (hi.st.lt id o f)).1 hb)
theorem dh{V:View}{e:E}{x:Bool×List C}{v:Value}(h:Nb e=some x)(ht:ME V x v):Bm V e v:=by
 cases e with
 | o c=>injection h with h;subst h;obtain⟨c',b,d⟩:=ht;injection b with b;subst b;exact d
 | a cs=>injection h with h;subst h;exact ht
 | t=>cases h
 | e=>cases h
inductive FT (σ:Ab):List (Bool×List C)->List (Bool×List C)->Prop
 | nil:FT σ [] []
 | cons {e e':E} {x x':Bool×List C} {xs xs':List (Bool×List C)}:Nb e=some x->Nb e'=some x'->EZ σ e e'->FT σ xs xs'->FT σ (x::xs) (x'::xs')
theorem FT.get{xs xs':List (Bool×List C)}(h:FT σ xs xs'):xs'.length=xs.length/\∀(j:Nat) x',xs'[j]? = some x'->∃x e e',xs[j]? = some x/\Nb e=some x/\Nb e'=some x'/\EZ σ e e':=by
 induction h with
 | nil=>exact⟨rfl,λj x h=>by simp at h⟩
 | @cons e e' x x' xs xs' f d c _ b=>
  refine⟨by simp [b.1],λj y a=>?_⟩
  cases j with
  | zero=>simp at a;subst a;exact⟨x,e,e',rfl,f,d,c⟩
  | succ j=>exact b.2 j y (by simpa using a)
theorem FT.rel{V:View}{xs xs':List (Bool×List C)}(hi:Inv TB Γ V σ)(h:FT σ xs xs'){v:Value}(c:Bm V (.t xs) v):Bm (Gf V σ) (.t xs') v:=by
 obtain⟨vs,i,g,f⟩:=c;obtain⟨d,hg⟩:=h.get;refine⟨vs,i,by rw [g,d],λj x' v' a b=>?_⟩;obtain⟨x,e,e',n,m,l,k⟩:=hg j x' a;exact FW l (k.rel hi (dh m (f j x v' n b)))
theorem AS.toPure{g:FuncId}{args:List E}{post:E->Ab->Nat->Prop}{r:E}(h:AS P TB g 0 [] 0 args post)
 (d:∀x σ nx,post x σ nx->∃ids,EZ (GW σ ids) x r\/∃xs xs',x=.t xs/\r=.t xs'/\FT (GW σ ids) xs xs'):Pure P TB g args r:=
 ⟨h.1,λV vs S hg ha=>(h.2 V vs S hg ha).mono λ_ _ ⟨V',v,x,σ',j,i,b,c,f⟩=>by
  obtain⟨ids,a⟩:=d _ _ _ f
  have e:KC V 0=V:=by have:=hg.nx;unfold KC;rw [<-this]
  rw [e] at b;have hi:=b.sub λid o h=>(Ew (σ:=σ') (ids:=ids) h).2;refine⟨Gf V' (GW σ' ids),v,r,BZ ids σ',j,i,b.freeze ids,?_,rfl⟩
  rcases a with a|⟨xs,xs',rfl,rfl,a⟩
  ·exact a.rel hi c
  ·exact a.rel hi c⟩
end
section
variable {P:Program}{TB:BF}
theorem bm.pure{g:FuncId}{args:List E}{o:Option AX}(h:AS P TB g 0 [] 0 args (bm o)):Pure P TB g args (Uh o):=by
 refine h.toPure λx σ nx c=>?_
 cases o with
 | none=>
  obtain⟨rfl,rfl,rfl⟩:=c;exact⟨[],.inl (.AQ rfl)⟩
 | some a=>
  obtain⟨al,anx,aac⟩:=a;obtain⟨l,b,rfl,rfl,rfl⟩:=c;have b:l.map (·.2)=anx:=b;subst b;exact⟨[0,1,2],.inr ⟨_,_,rfl,rfl,.cons (e:=.a _) (e':=Bc ⟨al,l.map (·.2),aac⟩) rfl rfl (.a (.cons .d (.cons (.MB (s:=2) rfl rfl) (.cons (.full rfl (by simp [d5]) (by simp)) .nil)))) (.cons (e:=.o _) rfl rfl (.AQ rfl) .nil)⟩⟩
end
end Go.Am
