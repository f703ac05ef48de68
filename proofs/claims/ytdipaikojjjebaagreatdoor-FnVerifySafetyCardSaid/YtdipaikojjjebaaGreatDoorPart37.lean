/-
  What verdicts say, plainly.
-/
import Derived.Test.YtdipaikojjjebaaGreatDoorPart35
set_option linter.all false
namespace Go.Am
open Go Go.Proofs
set_option maxHeartbeats 1000000
set_option maxRecDepth 4000
attribute [local irreducible] A6 CC Lex Bz Ak Spec
theorem QA{s t:Sys}{p:AY}{al:Int}:∀(k:Nat) {x:A0} {r:Nat},EF s p al x r->12<=k+r->∀(i:Nat) (y:A0),(DZ s t p al k x)[i]?=some y->(DZ s t p al k x)[i+1]?=GB s t p al y
 | 0, x,r,b,hk,i,y,h=>by
  cases i with
  | zero=>
   simp[DZ]at h;subst h
   cases a:GB s t p al x with
   | none=>simp[DZ]
   | some z=>
    have:=Wt (TF b a).1;omega
  | succ i=>simp[DZ]at h
 | k + 1,x,r,b,hk,i,y,h=>by
  simp only[DZ]at h |-
  cases a:GB s t p al x with
  | none=>
   rw[a]at h
   cases i with
   | zero=>simp at h;subst h;simp[a]
   | succ i=>simp at h
  | some z=>
   rw[a]at h
   cases i with
   | zero=>
    simp at h;subst h;rw[a];cases k<;>simp[DZ]
   | succ i=>
    simp only[rS]at h |-;exact QA k (TF b a).1 (by omega) i y h
section
variable {s t:Sys}{p:AY}{al:Int}(hI:Da s p t al)
include hI
theorem run_get{i:Nat}{x:A0}(h:(BX s t p al)[i]?=some x):EF s p al x (i+1)/\(BX s t p al)[i+1]?=GB s t p al x:=by
 obtain⟨_,b⟩:=Pf (Ck hI);have a:=QB 11 b i x h;rw[rP]at a;exact⟨a,QA 11 b (by omega) i x h⟩
theorem Km:1<=(BX s t p al).length/\(BX s t p al).length<=12:=by
 have a:BX s t p al≠[]:=fj 11 _;have c:1<=(BX s t p al).length:=sq.2 a;obtain⟨x,b⟩:=get_some (l:=BX s t p al) (k:=(BX s t p al).length-1) (by omega);have:=(Wt (run_get hI b).1).2;omega
theorem VN:∃x,(BX s t p al).getLastD Bx=x/\EF s p al x (BX s t p al).length/\GB s t p al x=none:=by
 have d:=Km hI;obtain⟨x,a⟩:=get_some (l:=BX s t p al) (k:=(BX s t p al).length-1) (by omega);obtain⟨c,b⟩:=run_get hI a;rw[show (BX s t p al).length-1+1=(BX s t p al).length by omega]at c b;refine⟨x,?_,c,?_⟩
 ·rw[List.getLastD_eq_getLast?,List.getLast?_eq_getElem?,a];rfl
 ·rw[<-b];simp
theorem Oc:¬AT s p t<0:=by
 have:=RY hI;rw[hI.hal]at this;unfold Bb at this;simp only[decide_eq_true_eq]at this;omega
theorem It{x:A0}{r:Nat}(c:EF s p al x r):AE (Bq s p al x)=true/\(Bq s p al x).al=al/\(Bq s p al x).nx.length=x.rows.length/\BV (LS ⟨s,p,al⟩) (A7 al) x:=by
 obtain⟨_,_,d,b,_⟩:=Dc c.v;have hk:=IU d;rw[Gi,CE]at hk
 have a:BV (LS ⟨s,p,al⟩) (A7 al) x:=⟨hk,Hc c.o⟩
 exact⟨LK (RY hI) a b.rl,rfl,by simp[Bq,A1],a⟩
theorem NS{x:A0}{r:Nat}(b:EF s p al x r):BI s (Bq s p al x) p=true/\(AV [t] && AE (Bq s p al x))=true:=by
 obtain⟨a,_⟩:=It hI b;exact⟨by unfold BI;rw[hI.hs,a,hI.hp];rfl,by rw[Ec,hI.ht,a];rfl⟩
theorem aj{x:A0}{r:Nat}(a:EF s p al x r):(EX s t p al (Bq s p al x)=none↔DU s t p (Bq s p al x)=0)/\(DU s t p (Bq s p al x)=0\/DU s t p (Bq s p al x)=3\/DU s t p (Bq s p al x)=4):=by
 obtain⟨f,e,_⟩:=It hI a;obtain⟨c,b⟩:=NS hI a;have d:=Oc hI
 have hal:(Bq s p al x).al=AT s p t:=by rw[e,hI.hal]
 unfold DU;rw[if_neg (not_or.2 ⟨d,by rw[f];simp⟩),if_neg (λh=>h hal)];unfold EX HD C8;rw[c,b,ph,ph]
 cases C4 s (Bq s p al x) p with
 | some u=>simp
 | none=>
  cases BE [t] (Bq s p al x) with
  | some v=>simp
  | none=>simp
theorem kr:∃x,EF s p al x (BX s t p al).length/\GB s t p al x=none/\BD s t p=Og s t p al x (BX s t p al).length:=by
 obtain⟨x,c,b,a⟩:=VN hI;refine⟨x,b,a,?_⟩;unfold BD;rw[if_neg (Oc hI),<-hI.hal,c]
theorem Ks:∃x,EF s p al x (BX s t p al).length/\GB s t p al x=none/\
    ((BD s t p=⟨0,Bq s p al x,[],(BX s t p al).length⟩/\DU s t p (Bq s p al x)=0)\/
     (BD s t p=⟨2,Je,[],(BX s t p al).length⟩/\∃w b,EX s t p al (Bq s p al x)=some (w,b)/\(b || LS ⟨s,p,al⟩ w)=true/\I7 (Db s p al) x w=none)\/
     (BD s t p=⟨1,Je,OC (BE [s,t] p),(BX s t p al).length⟩/\C8 [s,t] p=false/\(BE [s,t] p).isSome=true)):=by
  obtain⟨x,e,c,i⟩:=kr hI;refine⟨x,e,c,?_⟩;rw[i];unfold Og;have h:=aj hI e;unfold GB at c
  cases a:EX s t p al (Bq s p al x) with
  | none=>exact .inl ⟨rfl,h.1.1 a⟩
  | some wb=>
    obtain⟨w,b⟩:=wb;rw[a]at c;simp only at c |-;by_cases hb:(b || LS ⟨s,p,al⟩ w)=true
    · rw[if_pos hb]at c |-
      exact .inr (.inl ⟨rfl,w,b,rfl,hb,c⟩)
    · rw [if_neg hb]
      refine .inr (.inr ⟨rfl,?_⟩)
      have hb:b=false/\LS ⟨s,p,al⟩ w=false:=by simpa using hb
      unfold EX at a;split at a
      · injection a with a;injection a with _ a;rw[hb.1]at a;cases a
      · split at a
        · rename_i v f
          injection a with a;injection a with a _
          subst a;obtain⟨n,m,k,j,l⟩:=Hq f;have hk:=Uf hI k j hb.2;refine⟨hk,?_⟩;unfold C8 at hk
          have d:(AV [s,t] && AE p)=true:=by rw[DG,hI.hs,hI.ht,hI.hp];rfl
          rw[d,ph]at hk
          cases g:BE [s,t] p with
          | none=>rw[g]at hk;cases hk
          | some _=>rfl
        · cases a
end
theorem SG{s:Sys}{a p:AY}{w:List Int}(h:C4 s a p=some w):w.length<=2304:=by
 obtain⟨b,_⟩:=Lq h;unfold C4 at h;rw[if_pos b]at h;obtain⟨c,hk,d⟩:=O3 b;have hi:=De (DN (Dz s a p));rw[h]at hi;have e:=hi.short (PF c d);have f:(DN (Dz s a p)).N=(s.st*((a.nx.length:Int)*((p.nx.length:Int)*1))).toNat:=rfl;unfold BI at b;simp only[d4]at b;have l:=AN b.1.1;have k:=AJ b.1.2;have j:=AJ b.2;have i:(a.nx.length:Int)*((p.nx.length:Int)*1)<=12*12:=pE (by omega) (by omega) (by omega) (by omega)
 have g:s.st*((a.nx.length:Int)*((p.nx.length:Int)*1))<=16*144:=pE (by omega) (by omega) (by
  have:0<=(a.nx.length:Int)*((p.nx.length:Int)*1):=pG (by omega) (by omega)
  exact this) (by omega)
 omega
theorem SF{t:Sys}{a:AY}{w:List Int}(h:BE [t] a=some w):w.length<=192:=by
 obtain⟨d,c,_⟩:=Hq h
 have b:(AV [t] && AE a)=true:=by rw[Ec,d,c];rfl
 unfold BE at h;rw[if_pos b]at h;obtain⟨e,hk,f⟩:=O2 b;have hi:=De (DN (CL [t] a));rw[h]at hi;have g:=hi.short (PF e f);have i:(DN (CL [t] a)).N=(t.st*((a.nx.length:Int)*1)).toNat:=rfl;have l:=AN d;have k:=AJ c;have j:t.st*((a.nx.length:Int)*1)<=16*12:=pE (by omega) (by omega) (by omega) (by omega);omega
theorem WD(al:Int)(u:List Int):(C5 (BB al u)).length<=u.length:=by
 unfold C5 BB;rw[gt];exact qv _ _
theorem Kl{s t:Sys}{p a:AY}{al:Int}{w:W}{b:Bool}(h:EX s t p al a=some (w,b)):w.length<=4000:=by
 unfold EX at h;split at h
 ·rename_i u d
  injection h with h;injection h with h e
  have:=SG d;have:=WD al u;rw[<-h];omega
 ·split at h
  ·rename_i v c
   injection h with h;injection h with h e
   have:=SF c;have:=WD al v;rw[<-h];omega
  ·cases h
section
variable {s t:Sys}{p:AY}{al:Int}(hI:Da s p t al)
include hI
theorem QF:CK (Db s p al)=true:=by unfold CK;rw[if_neg pQ];exact Ck hI
end
theorem RK{g g':Gr}(c:g.ls=g'.ls)(d:∀w,over g w->(OH g w↔OH g' w)):CY g=CY g':=by
 have b:∀w,over g w↔over g' w:=λw=>by unfold over;rw[c]
 refine LI ?_;have hi:=De g'
 cases f:CY g' with
 | none=>
  rw[f]at hi;exact λu a h=>hi u ((b u).1 a) ((d u a).1 h)
 | some w=>
  rw[f]at hi;obtain⟨k,j,i⟩:=hi;have e:=(b w).2 k;exact⟨e,(d w e).2 j,λu a h=>i u ((b u).1 a) ((d u a).1 h)⟩
theorem HE{a b:Int}(h:∀n,n<6->AZ a n=AZ b n):Ac a=Ac b:=by
 unfold Ac AI;congr 1;exact qR λn c=>h n (o5.1 c)
theorem WC{s s':Sys}{a p p':AY}(m:BI s a p=BI s' a p')(hal:s.al=s'.al)(h:BI s a p=true->∀w,C9 w->Cq a w=true->((Dw s w/\Cq p w=false)↔(Dw s' w/\Cq p' w=false))):C4 s a p=C4 s' a p':=by
 unfold C4;rw[<-m];by_cases b:BI s a p=true
 ·rw [if_pos b,if_pos b]
  have c:(DN (Dz s a p)).ls=(DN (Dz s' a p')).ls:=by
   show Ac (Gq .i64 s.al a.al)=Ac (Gq .i64 s'.al a.al)
   rw[hal]
  refine RK c λw f=>?_;have e:over (DN (Dz s' a p')) w:=λl o=>c▸f l o;rw[Tn b f,Tn (m▸b) e];have n:C9 w:=Dt (al:=Gq .i64 s.al a.al) f;constructor
  ·rintro⟨i,d,g⟩
   obtain⟨k,j⟩:=(h b w n d).1 ⟨i,g⟩;exact⟨k,d,j⟩
  ·rintro⟨i,d,g⟩
   obtain⟨k,j⟩:=(h b w n d).2 ⟨i,g⟩;exact⟨k,d,j⟩
 ·rw[if_neg b,if_neg b]
theorem JM{l l':List Sys}{p p':AY}(f:(AV l && AE p)=(AV l' && AE p'))(e:(AV l && AE p)=true->Ac (Bw l)=Ac (Bw l'))(h:(AV l && AE p)=true->∀w,C9 w->((∀s∈l,Dw s w)/\Cq p w=false↔(∀s∈l',Dw s w)/\Cq p' w=false)):BE l p=BE l' p':=by
 unfold BE;rw[<-f];by_cases a:(AV l && AE p)=true
 ·rw[if_pos a,if_pos a]
  have b:(DN (CL l p)).ls=(DN (CL l' p')).ls:=e a;refine RK b λw d=>?_;have c:over (DN (CL l' p')) w:=λm g=>b▸d m g;rw[Tm a d,Tm (f▸a) c];exact h a w (Dt (al:=Bw l) d)
 ·rw[if_neg a,if_neg a]
theorem Es{s t:Sys}{p:AY}(h:¬AT s p t<0):Da s p t (AT s p t):=by
 have a:(AX s && AE p && AX t)=true:=by
  unfold AT at h;split at h
  ·assumption
  ·omega
 simp only[d4]at a;exact⟨a.1.1,a.1.2,a.2,rfl⟩
theorem bP{s t:Sys}{p:AY}(h:¬AT s p t<0):((BD s t p).code=0/\C8 [s,t] p=true/\(BD s t p).tr=[])\/((BD s t p).code=2/\(BD s t p).tr=[])\/((BD s t p).code=1/\C8 [s,t] p=false/\(BD s t p).tr=OC (BE [s,t] p)):=by
 obtain⟨x,c,_,b⟩:=Ks (Es h)
 rcases b with ⟨e,a⟩|⟨e,_⟩|⟨e,hk,_⟩
 ·rw[e];exact .inl ⟨rfl,(N7 a).1,rfl⟩
 ·rw[e];exact .inr (.inl ⟨rfl,rfl⟩)
 ·rw[e];exact .inr (.inr ⟨rfl,hk,rfl⟩)
theorem GD{s t:Sys}{p:AY}(h:AT s p t<0):BD s t p=⟨3,Je,[],0⟩:=by unfold BD;rw[if_pos h]
abbrev oS:Sys:=⟨0,1,[]⟩
theorem Ef{t:CP}(ht:Bc t=true){w:List Int}(b:∀l∈w,l∈Ac t.al):LS t (C5 w)=true↔∀u,MG t u->BB t.al u <+: w->Dw t.s u->Cq t.q u=true:=by
 constructor
 ·intro h u a f e
  cases d:Cq t.q u
  ·rw[(IT ht b).2 ⟨u,a,f,e,d⟩]at h;cases h
  ·rfl
 ·intro h
  cases a:LS t (C5 w)
  ·obtain⟨u,j,i,g,c⟩:=(IT ht b).1 a
   rw[h u j i g]at c;cases c
  ·rfl
section
variable {t:Sys}{p:AY}{al:Int}(hI:Da oS p t al)
include hI
end
theorem Xb{s t:Sys}{p:AY}(h:(BD s t p).code=0):¬AT s p t<0:=λa=>by rw[GD a]at h;cases h
theorem YY{s t:Sys}{p:AY}(h:(BD s t p).code=0):Da s p t (BD s t p).a.al/\AE (BD s t p).a=true/\DU s t p (BD s t p).a=0:=by
 have hI:=Es (Xb h);obtain⟨x,b,_,d⟩:=Ks hI;obtain⟨g,f,_⟩:=It hI b
 rcases d with ⟨e,c⟩|⟨e,_⟩|⟨e,_⟩
 ·rw[e]
  refine⟨⟨hI.hs,hI.hp,hI.ht,?_⟩,g,c⟩
  show (Bq s p (AT s p t) x).al=_
  rw[f]
 ·rw[e]at h;cases h
 ·rw[e]at h;cases h
theorem Iy{s t:Sys}{p a:AY}(hI:Da s p t a.al)(ha:AE a=true):DU s t p a=0↔HD s a p=true/\C8 [t] a=true:=by
 have b:=Oc hI;unfold DU;rw[if_neg (not_or.2 ⟨b,by rw[ha];simp⟩),if_neg (λh=>h hI.hal)];cases HD s a p<;>cases C8 [t] a<;>simp
theorem iW{s x t:Sys}{p:AY}(b:AX s=true)(hal:s.al=x.al)(j:∀w,C9 w->Dw s w->Dw x w)(h:(BD x t p).code=0):DU s t p (BD x t p).a=0:=by
 obtain⟨hI,ha,l⟩:=YY h;generalize (BD x t p).a=a at *
 have c:Da s p t a.al:=⟨b,hI.hp,hI.ht,by rw[hI.hal];unfold AT;rw[b,hI.hs,hal]⟩
 obtain⟨d,i⟩:=(Iy hI ha).1 l;refine(Iy c ha).2 ⟨?_,i⟩
 have g:BI x a p=true:=by unfold BI;rw[hI.hs,ha,hI.hp];rfl
 have f:BI s a p=true:=by unfold BI;rw[b,ha,hI.hp];rfl
 rw[KY g,<-hal]at d;exact(KY f).2 λw e k m=>d w e (j w (Dt e) k) m
theorem kL{s x t:Sys}{p:AY}(ht:AX t=true)(hal:t.al=x.al)(j:∀w,C9 w->Dw t w->Dw x w)(h:(BD s x p).code=0):DU s t p (BD s x p).a=0/\C8 [s,t] p=true:=by
 obtain⟨hI,ha,l⟩:=YY h;generalize (BD s x p).a=a at *
 have c:Da s p t a.al:=⟨hI.hs,hI.hp,ht,by rw[hI.hal];unfold AT;rw[ht,hI.ht,hal]⟩
 obtain⟨i,d⟩:=(Iy hI ha).1 l
 have g:(AV [x] && AE a)=true:=by rw[Ec,hI.ht,ha];rfl
 have f:(AV [t] && AE a)=true:=by rw[Ec,ht,ha];rfl
 have b:DU s t p a=0:=(Iy c ha).2 ⟨i,by
  rw[GZ g]at d;refine(GZ f).2 λw e k=>d w ?_ (J5.2 (j w (Dt e) (J5.1 k)));have:=(TJ ht).1 e
  exact(TJ hI.ht).2 (by rw[<-hal];exact this)⟩
 exact⟨b,(N7 b).1⟩
def Jd(al:Int)(w:W):W:=w.filter (IB al)
theorem de{al l:Int}(h:0<=l/\l<6):IB al (UInt8.ofNat (97+l.toNat))=AZ al l.toNat:=by
 have a:(UInt8.ofNat (97+l.toNat)).toNat=97+l.toNat:=by simp;omega
 have c:=UR al (UInt8.ofNat (97+l.toNat))
 have b:Gz (UInt8.ofNat (97+l.toNat))=true:=by rw[FU,a,decide_eq_true_eq];omega
 rw[<-c,if_pos b,a];unfold hasB;rw[show ((97+l.toNat:Nat):Int)-97=l by omega,decide_eq_true h.1];rfl
theorem Qj{al:Int}:∀ {u:List Int},C9 u->Jd al (C5 u)=C5 (BB al u)
 | [],_=>rfl
 | l::u,b=>by
  have a:=Qj (al:=al) (u:=u) (λx c=>b x (by simp[c]));have d:=de (al:=al) (b l (by simp));unfold Jd C5 BB at *;rw[qj,rF,rF,d];cases AZ al l.toNat
  ·simpa using a
  ·simpa using a
theorem VG(al:Int)(w:W):(Jd al w).length<=w.length:=qv _ _
theorem Sy{al:Int}{w:W}{k:Nat}{c:UInt8}(a:w[k]?=some c):Jd al (w.take (k+1))=if IB al c then Jd al (w.take k)++[c] else Jd al (w.take k):=by
 unfold Jd;rw[d8,a,Option.toList_some,pV];cases h:IB al c<;>simp[h]
theorem bR{s:Sys}{a p:AY}{u:List Int}(h:C4 s a p=some u):C9 u/\(C5 u).length<=2304:=by
 obtain⟨_,b,_⟩:=Lq h;exact⟨Dt b,by unfold C5;rw[gt];exact SG h⟩
theorem bQ{t:Sys}{a:AY}{u:List Int}(h:BE [t] a=some u):C9 u/\(C5 u).length<=192:=by
 obtain⟨_,_,b,_⟩:=Hq h;exact⟨Dt b,by unfold C5;rw[gt];exact SF h⟩
theorem QO{u:List Int}(d:C9 u)(a:(C5 u).length<=50000):EO (C5 u)=true:=by
 unfold EO;rw[decide_eq_true a,ph,f7];intro c b;unfold C5 at b;obtain⟨l,a,rfl⟩:=d9.1 b;have:=d l a;rw[FU,decide_eq_true_eq]
 have e:(UInt8.ofNat (97+l.toNat)).toNat=97+l.toNat:=by simp;omega
 rw[e];omega
end Go.Am
namespace Go.Am
open Go Go.Proofs
set_option maxHeartbeats 1000000
set_option maxRecDepth 4000
attribute [local irreducible] A6 CC Lex Bz Ak Spec
variable {TB:BJ}
theorem QW{c:C}{L:W->Bool}{ok:W->Prop}(H:Ku Tryz.prog TB c L ok)(al:Int)(t:A0)(V:Jf ok (A7 al) t)(ht:Hl al 20012 t)(ho:Bg L (A7 al) t=none) :
 AR Tryz.prog TB 68 0 [] 0 [Jn al c,Er t] (Lt (A1 L al t)):=by
 have b:=Fh c H.Cp;have hrl:=ht.rl;have hcl:=ht.cl;have hla:(Ac al).length<=6:=AM al 6;have h:=ht.jg V (by omega)
 have K:(A1 L al t).nx.length=t.rows.length:=by simp[A1]
 have hal:(A1 L al t).ac.length=t.rows.length:=by simp[A1]
 refine AR.Bi (AR.Sq (m:=0) (am rfl) Tryz.func68 rfl (by kernel_rfl) (am rfl) ?_);intro Γ a;(repeat first|refine aU rfl ?_);(refine pW rfl ?_ rfl (by rfl);refine Dm rfl rfl ?_);(refine Ag rfl ?_;refine CM (λ_ _=>Dj rfl rfl rfl) rfl ?_);(repeat first|refine tA rfl ?_|refine aU rfl ?_|apply Aa);(refine pW rfl ?_ rfl (by rfl);refine Ai [] rfl rfl (HG H al t h.1) ⟨rfl,by simp,by simp⟩ (by simp[Ff,E.Bi,C.CB,C.Bi,b,eC]) trivial ?_;rintro x0 X Y ⟨rfl,rfl,rfl⟩ _);(repeat first|refine tA rfl ?_|refine aU rfl ?_|apply Aa);(refine pW rfl ?_ rfl (by rfl);refine JY 1 1 63 2 1 4 rfl rfl (by decide) rfl rfl (by rfl) (by rfl) ?_);(repeat first|refine sN rfl ?_|refine tA rfl ?_|refine aU rfl ?_|apply Aa);apply aB;refine Ak.fb 3 ?_;refine aL (α:={s:Nat×IY // s.1<=t.rows.length/\s.2.map (·.2)=(A1 L al t).nx.take s.1}) [2,3,4,5,6,19,20] [0,1,2] rfl rfl (λs=>[(21,eI .i64 s.1.1)]) (λs=>[(5,.cells 29 3 [[.d (iD al),.arr 3 1 0 s.1.2.length,.arr 4 1 0 s.1.1]]),(3,.cells 63 1 (AA s.1.2)),(4,.cells 4 1 (((A1 L al t).ac.take s.1.1).map AU)),(6,.sld 3 (sI s.1.2))]) 7 (λs=>t.rows.length-s.1.1) (⟨⟨0,[]⟩,by simp,by simp⟩) a rfl (by (simp[cX,zC,a,cN,b,eC,BU,Ae]<;>rfl)) ?_;rintro⟨⟨k,l⟩,B,A⟩;(try dsimp only[cA,cB]);have B:k<=t.rows.length:=B;have A:l.map (·.2)=(A1 L al t).nx.take k:=A
 have hll:l.length=k:=by have:=congrArg List.length A;simp at this;omega
 by_cases R:k<t.rows.length
 ·obtain⟨r,u⟩:=get_some (l:=t.rows) (k:=k) R
  have hx':=get_map (g:=CX) u;have e:=co u;(repeat first|refine s2 rfl λ_ q=>?_|refine aU rfl ?_|apply Aa)
  ((refine aC rfl ?_ ?_<;>rintro⟨⟩);all_goals try(exfalso;(simp only[oZ] at *;omega)))
  apply aK;refine aS (aB ?_);(repeat first|refine tM rfl ?_|(refine s4 rfl ‹_› rfl ?_ ?_;omega)|refine aU rfl ?_|apply Aa);(refine pW rfl ?_ rfl (by rfl);refine Hv 1 3 ?_);(repeat first|refine sN rfl ?_|refine tM rfl ?_|refine sP rfl (C1 al) rfl ?_|refine aU rfl ?_|apply Aa);apply aB;refine aL (α:={j:Nat // j<=(Ac al).length}) [2,3,4,5,6,8,19,20,21,27,28] [0,1,2,3,4,5,6] rfl rfl (λs=>[(9,.o (.arr 7 1 0 s.1)),(29,eI .i64 s.1)]) (λs=>[(7,.cells 3 1 (((Ac al).take s.1).map λl=>[.d (iD ((Df L t (r++[lb l]):Nat):Int))]))]) 8 (λs=>(Ac al).length-s.1) (⟨0,by omega⟩) a rfl (by (simp[cX,zC,a,cN,b,eC])) ?_;rintro⟨j,G⟩;(try dsimp only[cA,cB]);have G:j<=(Ac al).length:=G;by_cases F:j<(Ac al).length
  ·obtain⟨m,P⟩:=get_some F
   have hm':=get_map (g:=Bs) P;have n:=co P;have z:=Aj n;have hrb:=ht.onR r e;have N:=Mg (TB:=TB) H al t (r++[lb m]) (by omega) (λx u=>h.2 r e _ (d9.2 ⟨m,n,rfl⟩) x u) (λy Z=>by have:=(ht.onC y Z).2;simp;omega);have S:=Vj ho e n;(repeat first|refine s2 rfl λ_ q=>?_|refine aU rfl ?_|apply Aa)
   ((refine aC rfl ?_ ?_<;>rintro⟨⟩);all_goals try(exfalso;(simp only[oZ] at *;omega)))
   apply aK;refine aS (aB ?_);(repeat first|refine tA rfl ?_|(refine s4 rfl ‹_› rfl ?_ ?_;omega)|refine aU rfl ?_|apply Aa);refine rG (Hm [13]) (by kernel_rfl) ?_;(repeat first|(refine sA rfl ?_ ?_;first|exact tI|omega|simp only[oZ] at *;omega)|refine sP rfl (FN m z.1 (by omega)) rfl ?_|(refine Ag rfl ?_;refine gA rfl ?_;first|refine gS (λ_ _=>XN rfl (by omega) (by omega)) ?_));rw[dn z.1];(repeat first|(refine Ag rfl ?_;refine gA rfl ?_;first|refine gS (λ_ _=>Bv rfl rfl (by simp[E.Cp,C.DB,C.Cp,H.Cp,eC]) N rfl) ?_|refine gQ (Zr rfl rfl rfl) (by rfl) ?_));(repeat first|refine tA rfl ?_);(refine pW rfl ?_ rfl (by rfl);refine Au rfl rfl rfl (by first|(simp;done)|(simp;(omega))) rfl (by intro r b;simp at b;subst b;rfl) (by rfl) (am rfl) (by simp;omega) ?_);(repeat first|(refine sA rfl ?_ ?_;first|exact tI|omega)|refine aU rfl ?_|apply Aa);rw[S];refine⟨⟨j+1,by omega⟩,by dsimp only;(omega),[0,1,2,3,4,5,6,8],?_⟩;simp[cX,zC,a,cN,b,d8,P]
  ·obtain rfl:j=(Ac al).length:=by omega
   have I:=V r ⟨r,e,[],.inl rfl,[],.inl rfl,by simp⟩
   have J:(A1 L al t).nx.take (k+1)=(A1 L al t).nx.take k++[(Ac al).map λl=>((Df L t (r++[lb l]):Nat):Int)]:=by
    rw[d8];simp[A1,u]
   have p:(A1 L al t).ac.take (k+1)=(A1 L al t).ac.take k++[L r]:=by
    rw[d8];simp[A1,u]
   rw[io];generalize f:(Ac al).map (λl=>((Df L t (r++[lb l]):Nat):Int))=row at *
   have w:(Ac al).length=row.length:=by rw[<-f];simp
   have M:(Ac al).map (λl=>[C.d (iD ((Df L t (r++[lb l]):Nat):Int))])=row.map AD:=by rw[<-f,pR];rfl
   (repeat first|refine s2 rfl λ_ q=>?_|refine aU rfl ?_|apply Aa)
   ((refine aC rfl ?_ ?_<;>rintro⟨⟩);all_goals try(exfalso;(simp only[oZ] at *;omega)))
   apply aE;(repeat first|refine tX rfl ?_|refine aU rfl ?_);(refine pW rfl ?_ rfl (by rfl);refine Bj rfl rfl rfl rfl (by simp[eC]) (by rfl) (by rfl) (by rfl) (by rfl) ?_);(refine pW rfl ?_ rfl (by rfl);refine Au rfl rfl rfl (CR _) rfl (by intro r b;simp at b;subst b;rfl) (by rfl) (am rfl) (by simp;omega) ?_);(repeat first|refine tX rfl ?_|apply Aa);refine Ak.Ay [2,3,4,5,6,8,19,20,21] [0,1,2,4] rfl rfl [] [(3,.cells 63 1 (AA l++[[.arr 7 1 0 row.length]])),(5,.cells 29 3 [[.d (iD al),.arr 3 1 0 (l.length+1),.arr 4 1 0 k]]),(6,.sld 3 (sI l)),(7,.cells 3 1 (row.map AD))] [0,1,2,9,4,5,6,7] (rl a rfl) (by (simp[cX,zC,a,cN,b,BU,Ae,eC,w,M])) ?_;(try dsimp only[cA,cB]);refine Ak.TQ 3 7 6 l row rfl rfl rfl λv=>?_;refine rG (Hm [7,9]) (by kernel_rfl) ?_;(repeat first|refine tA rfl ?_|(refine Ag rfl ?_;refine gA rfl ?_;first|refine gS (λ_ _=>H.ask rfl rfl I) ?_));(refine pW rfl ?_ rfl (by rfl);refine Au rfl rfl rfl (by first|(simp;done)|(simp;(omega))) rfl (by intro r b;simp at b;subst b;rfl) (by rfl) (am rfl) (by simp;omega) ?_);(repeat first|(refine sA rfl ?_ ?_;first|exact tI|omega)|refine aU rfl ?_|apply Aa);refine⟨⟨⟨k+1,l++[(v,row)]⟩,by dsimp only;omega,by dsimp only;rw[pO,A,J];rfl⟩,by dsimp only;(omega),[0,1,2,3,8,5,6],?_⟩;simp[cX,zC,a,cN,b,eC,BU,Ae,p]
 ·have T:k=t.rows.length:=by omega
  (repeat first|refine s2 rfl λ_ q=>?_|refine aU rfl ?_|apply Aa)
  ((refine aC rfl ?_ ?_<;>rintro⟨⟩);all_goals try(exfalso;(simp only[oZ] at *;omega)))
  apply aE;(repeat first|refine tA rfl ?_|refine aU rfl ?_|apply Aa)
  have Q:l.map (·.2)=(A1 L al t).nx:=by rw[A,T,<-K,io]
  have U:l.length=t.rows.length:=by omega
  have p:(A1 L al t).ac.take k=(A1 L al t).ac:=ge (by rw[hal];omega);rw[p]
  obtain rfl:k=(A1 L al t).ac.length:=by omega
  refine aR ⟨_,rfl,[3,4,6],Xf al 0 1 l.length (A1 L al t).ac.length,[(0,.cells 63 1 (AA l)),(1,.cells 4 1 ((A1 L al t).ac.map AU)),(2,.sld 3 (sI l))],⟨by intro i hi;omega,by decide⟩,rfl,by (simp[cX,zC,a,cN]),l,Q,rfl,rfl,rfl⟩
theorem On(w:W)(al:Int)(p:w.length<=1048576):Pure Tryz.prog TB 71 [eT w,eI .i64 al] (eT (Jd al w)):=by
 refine eG Tryz.func71 rfl (by kernel_rfl) rfl ?_;intro Γ d;(repeat first|refine tM rfl ?_|refine aU rfl ?_|apply Aa);(refine pW rfl ?_ rfl (by rfl);refine Hv 1 5 ?_);(repeat first|refine tM rfl ?_|refine aU rfl ?_|apply Aa);apply aB;refine aL (α:={k:Nat // k<=w.length}) [0,1,8] [] rfl rfl (λ⟨k,hk⟩=>[(5,.o (.arr 0 1 0 (Jd al (w.take k)).length)),(9,eI .i64 k)]) (λ⟨k,hk⟩=>[(0,.cells 5 1 ((Jd al (w.take k)).map FR))]) 1 (λ⟨k,hk⟩=>w.length-k) (⟨0,by omega⟩) d rfl (by (repeat' first|exact tI|rfl|refine And.intro ?_ ?_)) ?_;rintro⟨k,hk⟩;(try dsimp only[cA,cB]);by_cases i:k<w.length
 ·obtain⟨c,n⟩:=get_some i
  have j:w[((k:Nat):Int).toNat]?=some c:=by simpa using n
  have e:=Ts (TB:=TB) w k c j;have a:=Np (TB:=TB) al (if Gz c then (c.toNat:Int)-97 else -1);rw[UR]at a;generalize (if Gz c then (c.toNat:Int)-97 else -1:Int)=l at e a;have b:=Sy (al:=al) n;have h:=VG al (w.take k);rw[qu]at h;(repeat first|refine s2 rfl λ_ f=>?_|refine aU rfl ?_|apply Aa)
  ((refine aC rfl ?_ ?_<;>rintro⟨⟩);all_goals try(exfalso;(simp only[oZ] at *;omega)))
  apply aK;refine aS (aB ?_);cases g:IB al c
  ·rw[g]at a b
   (repeat first|refine tA rfl ?_|refine sP rfl (e) rfl ?_|refine sP rfl (a) rfl ?_|refine aU rfl ?_|apply Aa)
   ((refine aC rfl ?_ ?_<;>rintro⟨⟩);all_goals try (simp at f;done))
   apply aK;(repeat first|(refine sA rfl ?_ ?_;first|exact tI|omega)|refine aU rfl ?_|apply Aa);refine⟨⟨k+1,by omega⟩,by dsimp only;(omega),[0],?_⟩;simp[cX,zC,d,b,FR,Ge]
  ·rw[g]at a b
   (repeat first|refine tA rfl ?_|refine sP rfl (e) rfl ?_|refine sP rfl (a) rfl ?_|refine aU rfl ?_|apply Aa)
   ((refine aC rfl ?_ ?_<;>rintro⟨⟩);all_goals try (simp at f;done))
   (repeat first|refine tA rfl ?_|(refine s4 rfl ‹_› rfl ?_ ?_;omega)|refine aU rfl ?_);(refine pW rfl ?_ rfl (by rfl);refine Au rfl rfl rfl (by first|(simp;done)|(simp;(omega))) rfl (by intro r m;simp at m;subst m;rfl) (by rfl) (am rfl) (by simp;omega) ?_);(repeat first|(refine sX rfl ?_ ?_;first|exact tI|omega)|refine aU rfl ?_|apply Aa);refine⟨⟨k+1,by omega⟩,by dsimp only;(omega),[1],?_⟩;simp[cX,zC,d,b,Ge,FR,pO]
 ·obtain rfl:k=w.length:=by omega
  rw[io] at *;(repeat first|refine s2 rfl λ_ f=>?_|refine aU rfl ?_|apply Aa)
  ((refine aC rfl ?_ ?_<;>rintro⟨⟩);all_goals try(exfalso;(simp only[oZ] at *;omega)))
  apply aE;(repeat first|refine tM rfl ?_|(refine Ag rfl ?_;refine gA rfl ?_;first|refine gQ (Pa (Jd al w) rfl rfl (by simp) (by first|rw[pN,ge (by simp)]|rw[pN,TX,ge (by simp)])) (by rfl) ?_)|refine aU rfl ?_|apply Aa);(subst_vars;exact aR ⟨_,rfl,rfl⟩)
theorem Jb[Dl TB](s:Sys)(p:AY):Pure Tryz.prog TB 70 [Br s,Bk p] (LR (BE [s] p)):=by
 refine eN Tryz.func70 rfl (by kernel_rfl) rfl ?_;intro Γ a;(repeat' first|refine tA rfl ?_|refine sP rfl (DJ [s] p) rfl ?_|refine aU rfl ?_|apply Aa|(refine aC rfl ?_ ?_<;>rintro⟨⟩)|apply aK|apply aE|apply aB|refine aR ⟨_,rfl,?_⟩)
 all_goals rfl
theorem Fu[Dl TB](s:Sys)(p:AY):Pure Tryz.prog TB 145 [Br s,Bk p] (LR (BE [s] p)):=by
 refine eN Tryz.func145 rfl (by kernel_rfl) rfl ?_;intro Γ a;(repeat' first|refine tA rfl ?_|refine sP rfl (Fv [s] p) rfl ?_|refine aU rfl ?_|apply Aa|(refine aC rfl ?_ ?_<;>rintro⟨⟩)|apply aK|apply aE|apply aB|refine aR ⟨_,rfl,?_⟩)
 all_goals rfl
section
variable {tabs:List (Nat×Obj)}[hTb:Dl ⟨tabs,none⟩]{te:EP}
include hTb
end
end Go.Am
namespace Go.Am
open Go Go.Proofs
set_option maxHeartbeats 1000000
set_option maxRecDepth 4000
attribute [local irreducible] A6 CC Lex Bz Ak Spec
variable {tabs:List (Nat×Obj)}
theorem SD{t:CP}:∀(u v:W) (F:PS),Gg t F u=false->Gg t F (u++v)=false
 | [],v,F,h=>by
  have h:(!Fy t F)=false:=h
  cases v with
  | nil=>exact h
  | cons c v=>show (!Fy t F && _)=false;rw[h];rfl
 | c :: u,v,F,h=>by
  have h:(!Fy t F && Gg t (DA t ((c.toNat:Int)-97) F) u)=false:=h
  show (!Fy t F && Gg t (DA t ((c.toNat:Int)-97) F) (u++v))=false
  cases hb:(!Fy t F)
  ·rfl
  ·rw[hb]at h
   exact SD u v _ h
theorem Uq{L:W->Bool}{ls:List UInt8}{t:A0}(h:BV L ls t)(g:∀u v,L u=false->L (u++v)=false):∀(w:W) (i:Nat) (r:W),t.rows[i]?=some r->AP ls w->L r=false->L (t.rows.getD (runM L t i w) [])=false
 | [],i,r,hi,_,a=>by show L (t.rows.getD i [])=false;rw[OX hi];exact a
 | c :: w,i,r,hi,f,a=>by
  obtain⟨s,k,b⟩:=h.idx hi (f c (by simp));have j:=Vl.1 b [] (co h.c0);rw[pA,pA]at j
  have e:runM L t i (c::w)=runM L t (Df L t (r++[c])) w:=by
   show runM L t (Df L t (t.rows.getD i []++[c])) w=_
   rw[OX hi]
  rw[e];exact Uq h g w _ s k (λd l=>f d (by simp[l])) (by rw[j];exact g r [c] a)
theorem eZ{te:EP}{x:A0}{a:AY}(ha:Pn te x=some a)(hk:te.kn=false):∀u v,AP (A7 a.al) u->AP (A7 a.al) v->LA a u=false->LA a (u++v)=false:=by
 obtain⟨c,i,b,rfl,f,l,k,j⟩:=kY ha
 have hL:∀u v,BY te u=false->BY te (u++v)=false:=λu v h=>by
  unfold BY at *;rw[if_neg (by rw[hk];exact pQ)] at *;exact SD u v _ h
 intro u v d c h;have g:=(ce.1 b.r0).1;rw[Lx b d]at h;rw[Lx b (TH d c)];unfold Na at *;rw[Qn];obtain⟨r,e⟩:=get_some (b.run u 0 d g);rw[OX e]at h;exact Uq b hL v _ r e c h
end Go.Am
namespace Go.Am
open Go Go.Proofs
set_option maxHeartbeats 1000000
set_option maxRecDepth 4000
attribute [local irreducible] A6 CC Lex Bz Ak Spec
section
variable {s t s' t':Sys}{p p':AY}{al:Int}(hI:Da s p t al)(hI':Da s' p' t' al)(hL:Ui (LS ⟨s',p',al⟩) (LS ⟨s,p,al⟩) al)
include hI hI' hL
theorem IS{x:A0}{r:Nat}(a:EF s p al x r):EF s' p' al x r/\Bq s' p' al x=Bq s p al x:=by
 obtain⟨_,_,c,b,_⟩:=Dc a.v;rw[Gi,CE]at c;have hb:=b.bd;rw[CE]at hb;refine⟨⟨?_,?_,a.rows,a.cols⟩,Pm hL hb (by omega)⟩
 ·rw[<-Dk,QF hI',Gi,CE,ph,QK hL];exact c
 ·rw[J6 hL hb (by omega)];exact a.o
theorem X0{x:A0}{r:Nat}(b:EF s p al x r){w:W}(f:AP (A7 al) w)(j:w.length<=4000):I7 (Db s' p' al) x w=I7 (Db s p al) x w:=by
 obtain⟨a,_⟩:=IS hI hI' hL b;obtain⟨_,_,n,d,_⟩:=Dc b.v;have hb:=d.bd;rw[CE]at hb;obtain⟨_,_,_,e⟩:=It hI b
 have m:(CK (Db s p al) && BA (BY (Db s p al)) (A3 (Db s p al)) x)=true:=by rw[HS b.v,Gi,CE,b.o];rfl
 have l:(CK (Db s' p' al) && BA (BY (Db s' p' al)) (A3 (Db s' p' al)) x)=true:=by rw[HS a.v,Gi,CE,a.o];rfl
 unfold I7;rw[m,l,CE,CE,Gi,Gi,ph];by_cases h:Gs al w=true
 ·rw [if_pos h,if_pos h]
  unfold Gy;rw[Qu hL hb (by omega) e f (by omega)]
  cases i:CD (LS ⟨s,p,al⟩) x w with
  | none=>rw[r5,r5]
  | some v=>
   rw[qe,qe]
   cases ha:Fx x v with
   | none=>rw[r5,r5]
   | some u=>
    rw[qe,qe];obtain⟨z,_,rfl⟩:=Hh i;have g:=OP hb (λc k=>f c (by simp[k])) (by simp at j;omega) ha;exact Iv hL 13 g (by omega)
 ·rw[if_neg h,if_neg h]
theorem aZ:X6 s' p' al=X6 s p al:=by
 have e:OL (Db s' p' al)=OL (Db s p al):=by
  unfold OL;rw[QF hI',QF hI,if_pos rfl,if_pos rfl,Gi,Gi,CE,CE];exact Iv hL 13 (Ii al) (by omega)
 unfold X6;rw[e]
end
theorem NC{s t:Sys}{p:AY}{al:Int}(hI:Da s p t al){x:A0}{r:Nat}(c:EF s p al x r){w:W}{b:Bool}(h:EX s t p al (Bq s p al x)=some (w,b)):AP (A7 al) w:=by
 obtain⟨g,a,_⟩:=It hI c;unfold EX at h;split at h
 ·rename_i u e
  injection h with h;injection h with h f
  subst h;exact Ue (Yw hI g a e).1
 ·split at h
  ·rename_i v d
   injection h with h;injection h with h f
   subst h;have:=(WZ d).1;rw[a]at this;exact Ue this
  ·cases h
theorem NT{s t s' t':Sys}{p p':AY}{al:Int}(hI:Da s p t al)(hI':Da s' p' t' al)(hL:Ui (LS ⟨s',p',al⟩) (LS ⟨s,p,al⟩) al)
 (l:∀(x:A0) (r:Nat),EF s p al x r->C4 s' (Bq s p al x) p'=C4 s (Bq s p al x) p) (m:∀(x:A0) (r:Nat),EF s p al x r->BE [t'] (Bq s p al x)=BE [t] (Bq s p al x)) (n:BE [s',t'] p'=BE [s,t] p):BD s' t' p'=BD s t p:=by
 have c:∀ {x:A0} {r:Nat},EF s p al x r->EX s' t' p' al (Bq s p al x)=EX s t p al (Bq s p al x):=λ{x r} a=>by
  unfold EX;rw[l x r a,m x r a]
 have e:∀ {x:A0} {r:Nat},EF s p al x r->∀ {w b},EX s t p al (Bq s p al x)=some (w,b)->LS ⟨s',p',al⟩ w=LS ⟨s,p,al⟩ w:=λ{x r} a {w b} h=>
  hL w (NC hI a h) (by have:=Kl h;omega)
 have g:∀ {x:A0} {r:Nat},EF s p al x r->GB s' t' p' al x=GB s t p al x:=λ{x r} a=>by
  unfold GB;rw[(IS hI hI' hL a).2,c a]
  cases h:EX s t p al (Bq s p al x) with
  | none=>rfl
  | some wb=>
   obtain⟨w,b⟩:=wb;simp only;rw[e a h,X0 hI hI' hL a (NC hI a h) (Kl h)]
 have f:∀(k:Nat) {x:A0} {r:Nat},EF s p al x r->DZ s' t' p' al k x=DZ s t p al k x:=λk=>by
  induction k with
  | zero=>exact λ_=>rfl
  | succ k i=>
   intro x r a;simp only[DZ];rw[g a]
   cases j:GB s t p al x with
   | none=>rfl
   | some y=>
    simp only;rw[i (TF a j).1]
 have d:BX s' t' p' al=BX s t p al:=by
  unfold BX;rw[aZ hI hI' hL];exact f 11 (Pf (Ck hI)).2
 obtain⟨x,o,a,_⟩:=VN hI;unfold BD;rw[if_neg (Oc hI),if_neg (Oc hI'),<-hI.hal,<-hI'.hal,d,o];unfold Og;rw[(IS hI hI' hL a).2,c a,n]
 cases h:EX s t p al (Bq s p al x) with
 | none=>rfl
 | some wb=>
  obtain⟨w,b⟩:=wb;simp only;rw[e a h]
theorem fM{s t:Sys}{p:AY}{al:Int}(hI:Da s p t al){x:A0}{r:Nat}(d:EF s p al x r){u v:List Int}(b:C9 v)(m:u <+: v)(h:Cq (Bq s p al x) v=true):Cq (Bq s p al x) u=true:=by
 obtain⟨j,a,_,n⟩:=It hI d;obtain⟨z,rfl⟩:=m;have f:C9 u:=λl i=>b l (by simp[i]);have k:C9 z:=λl i=>b l (by simp[i]);have c:=Lr (al:=al) f;have g:=Lr (al:=al) k
 have y:Cq (Bq s p al x) (u++z)=LA (Bq s p al x) (C5 (BB al u)++C5 (BB al z)):=by
  have e:C5 (BB al u)++C5 (BB al z)=C5 (BB al (u++z)):=by
   have:BB al (u++z)=BB al u++BB al z:=pV ..;rw[this];simp[C5]
  rw[e,SQ (by rw[a];exact Lr b)];exact Iq j b (MO b) (by rw[a,IV λ_ _ h=>h])
 have w:Cq (Bq s p al x) u=LA (Bq s p al x) (C5 (BB al u)):=by
  rw[SQ (by rw[a];exact c)];exact Iq j f (MO f) (by rw[a,IV λ_ _ h=>h])
 rw[y]at h;rw[w]
 have ha:Pn (Db s p al) x=some (Bq s p al x):=by
  unfold Pn;rw[HS d.v,Gi,CE,d.o,if_pos (by rfl:(none:Option W).isNone=true)];rfl
 cases q:LA (Bq s p al x) (C5 (BB al u))
 ·have:=eZ ha rfl (C5 (BB al u)) (C5 (BB al z)) (by rw[a];exact Ue c) (by rw[a];exact Ue g) q
  rw[this]at h;cases h
 ·rfl
end Go.Am
namespace Go.Am
open Go Go.Proofs
theorem Wv{s t:Sys}{p:AY}{al:Int}:∀(k:Nat) (x:A0),(DZ s t p al k x).length<=k+1
 | 0,x=>by simp[DZ]
 | k+1,x=>by
  simp only[DZ]
  cases GB s t p al x with
  | none=>simp
  | some y=>have:=Wv (s:=s) (t:=t) (p:=p) (al:=al) k y;simp only[pD];omega
def Uv(s t:Sys)(p:AY)(al:Int)(x:A0)(v:W):Prop:=NY (A7 al) x v\/∃w b,EX s t p al (Bq s p al x)=some (w,b)/\(v=w\/YO (LS ⟨s,p,al⟩) (A7 al) x w v)
theorem ZC{s t:Sys}{p:AY}{al:Int}(h:Bc ⟨s,p,al⟩=true){x:A0}(a:x∈BX s t p al):∃r,EF s p al x r:=by
 obtain⟨i,hi⟩:=rB.1 a;exact⟨_,QB 11 (Pf h).2 i x hi⟩
theorem Uc{s:Sys}{p:AY}{al:Int}{x:A0}{r:Nat}(b:EF s p al x r):Hl al 20000 x:=by
 obtain⟨_,_,_,a,_⟩:=Dc b.v;have:=a.bd;rwa[CE]at this
section
variable {s t:Sys}{p:AY}{al:Int}(hI:Da s p t al)(h:Bc ⟨s,p,al⟩=true)
include hI h
theorem ZW{x:A0}(g:x∈BX s t p al):EU 288238 (Uv s t p al x):=by
 obtain⟨r,e⟩:=ZC h g;have hb:=Uc e;refine((Nj hb).or (b:=286474) ?_).sub (b:=288238) (λv c=>c) (by omega)
 cases f:EX s t p al (Bq s p al x) with
 | none=>exact .none λv ⟨w,b,a,_⟩=>by cases a
 | some wb=>
  obtain⟨w,b⟩:=wb;have d:=NC hI e f;have i:=Kl f;refine((EU.map (n:=1) (p:=λv=>v=w) (λ_:Unit=>w) [()] (by simp) λv c=>⟨(),by simp,c⟩).or (ak (L:=LS ⟨s,p,al⟩) hb d (by omega))).sub (b:=286474) (λv ⟨w',b',a,c⟩=>?_) (by omega)
  injection a with a
  injection a with a _
  subst a;exact c
theorem fL{x:A0}(k:x∈BX s t p al)(v:W)(a:Uv s t p al x v):okB al v:=by
 obtain⟨r,f⟩:=ZC h k;have hb:=Uc f
 rcases a with a|⟨w,b,g,a⟩
 ·exact hb.on (Jx al) (by omega) v a
 ·have d:=NC hI f g
  have e:=Kl g
  rcases a with rfl|a
  ·exact⟨d,by omega⟩
  ·rcases a with a|a|⟨z,i,u,l,y,j,a⟩
   ·exact hb.on (Jx al) (by omega) v a
   ·exact(hb.mono (by omega)).oP (Jx al) d (by omega) v a
   ·obtain⟨q,_,rfl⟩:=Hh i
    exact(OP hb (λc m=>d c (by simp[m])) (by simp at e;omega) l).oc (Jx al) (by omega) y j v a
theorem fK:∃ok:W->Prop,(∀w,ok w->kI al w)/\Ud (Db s p al) ok/\(∀y∈E9 (LS ⟨s,p,al⟩) (A7 al) 13 Bx,Jf ok (A7 al) y)/\
 ∀x∈BX s t p al,Jf ok (A7 al) x/\∀w b,EX s t p al (Bq s p al x)=some (w,b)->ok w/\∀v,YO (LS ⟨s,p,al⟩) (A7 al) x w v->ok v:=by
 have i:=RR (L:=LS ⟨s,p,al⟩) (Ii al);have g:EU (12*288238) (λv=>∃x∈BX s t p al,Uv s t p al x v):=EU.ex (n:=12) (b:=288238) (q:=λx v=>Uv s t p al x v) (BX s t p al) (Wv 11 _) (λx c=>ZW hI h c) λw d=>d;have l:=i.or g
 have e:∀w,((∃y∈E9 (LS ⟨s,p,al⟩) (A7 al) 13 Bx,NY (A7 al) y w)\/∃x∈BX s t p al,Uv s t p al x w)->okB al w:=λw d=>by
  rcases d with ⟨y,f,a⟩|⟨x,c,a⟩
  ·exact(Ii al).oc (Jx al) (by omega) y f w a
  ·exact fL hI h c w a
 obtain⟨k,m⟩:=iu (te:=Db s p al) l (by omega) (λw d=>by rw[CE];exact e w d);rw[CE]at k;exact⟨_,k,m,λy f v a=>.inl ⟨y,f,a⟩,λx c=>⟨λv a=>.inr ⟨x,c,.inl a⟩,λw b j=>⟨.inr ⟨x,c,.inr ⟨w,b,j,.inl rfl⟩⟩,λv a=>.inr ⟨x,c,.inr ⟨w,b,j,.inr a⟩⟩⟩⟩⟩
end
theorem KB{σ:Ab}{T U S:TypeId}{i j k n m:Nat}{al:Int}{l:IY}{nx:List (List Int)}{ac:List Bool}(h:look σ i=some (.cells T 1 (AA l)))(g:look σ j=some (.cells U 1 (ac.map AU)))(f:look σ k=some (.sld S (sI l)))(e:l.map (·.2)=nx)(b:l.length=n)(c:ac.length=m):EZ σ (.a [.d (iD al),.arr i 1 0 n,.arr j 1 0 m]) (.a [.d (iD al),.d (C7 nx),.d (Fo ac)]):=by
 subst b c e;exact .a (ds:=[iD al,C7 (l.map (·.2)),Fo ac]) (.cons .d (.cons (.Nx h f) (.cons (.full g (by simp[d5]) (gt _)) .nil)))
end Go.Am
namespace Go.Am
open Go Go.Proofs
set_option maxHeartbeats 1000000
set_option maxRecDepth 4000
attribute [local irreducible] A6 CC Lex Bz Ak Spec
noncomputable def BT(s t:Sys)(p:AY)(al:Int)(k:Nat):A0:=(BX s t p al).getD k ⟨[],[]⟩
abbrev MN(v:Vd):List D:=[iD v.code,iD v.a.al,C7 v.a.nx,Fo v.a.ac,tD v.tr,iD v.rd]
abbrev iK(v:Vd):E:=.a [.d (iD v.code),.d (iD v.a.al),.d (C7 v.a.nx),.d (Fo v.a.ac),.d (tD v.tr),.d (iD v.rd)]
section
variable {s t:Sys}{p:AY}{al:Int}(hI:Da s p t al)
include hI
theorem ZK{x:A0}{r:Nat}(b:EF s p al x r){w:W}(c:AP (A7 al) w)(d:w.length<=4000):I7 (Db s p al) x w=Gy (LS ⟨s,p,al⟩) (A7 al) x w:=by
 have e:(CK (Db s p al) && BA (BY (Db s p al)) (A3 (Db s p al)) x)=true:=by
  rw[HS b.v,Gi,CE,b.o];rfl
 have a:Gs (A3 (Db s p al)) w=true:=by rw[CE];exact Y9 (RY hI) c d
 unfold I7;rw[e,a,sB,if_pos rfl,Gi,CE]
theorem dK{x:A0}{r:Nat}(a:EF s p al x r){w:W}{b:Bool}(h:EX s t p al (Bq s p al x)=some (w,b))(hb:(b || LS ⟨s,p,al⟩ w)=true):GB s t p al x=Gy (LS ⟨s,p,al⟩) (A7 al) x w:=by
 unfold GB;rw[h];simp only[hb,if_true];exact ZK hI a (NC hI a h) (Kl h)
omit hI in
theorem JL{k:Nat}(h:k<(BX s t p al).length):(BX s t p al)[k]?=some (BT s t p al k):=by
 unfold BT;rw[pU,d6 h];rfl
theorem QL{k:Nat}(h:k+1=(BX s t p al).length):BD s t p=Og s t p al (BT s t p al k) (k+1):=by
 unfold BD;rw[if_neg (Oc hI),<-hI.hal,<-h]
 have e:(BX s t p al).getLastD Bx=BT s t p al k:=by
  rw[List.getLastD_eq_getLast?,List.getLast?_eq_getElem?,<-h,Nat.add_sub_cancel,JL (by omega)];rfl
 rw[e]
theorem VI{k:Nat}(h:k<(BX s t p al).length):EF s p al (BT s t p al k) (k+1)/\
    ((EX s t p al (Bq s p al (BT s t p al k))=none/\BD s t p=⟨0,Bq s p al (BT s t p al k),[],(k:Int)+1⟩/\k+1=(BX s t p al).length)\/
      ∃ w b,EX s t p al (Bq s p al (BT s t p al k))=some (w,b)/\AP (A7 al) w/\w.length<=4000/\
        ((b = false/\LS ⟨s,p,al⟩ w=false/\BD s t p=⟨1,Je,OC (BE [s,t] p),(k:Int)+1⟩/\k+1=(BX s t p al).length)\/
         ((b=true\/LS ⟨s,p,al⟩ w=true)/\((Gy (LS ⟨s,p,al⟩) (A7 al) (BT s t p al k) w=some (BT s t p al (k+1))/\k+1<(BX s t p al).length)\/
           (Gy (LS ⟨s,p,al⟩) (A7 al) (BT s t p al k) w=none/\BT s t p al (k+1)=⟨[],[]⟩/\k+1=(BX s t p al).length/\BD s t p=⟨2,Je,[],(k:Int)+1⟩))))):=by
  obtain⟨l,g⟩:=run_get hI (JL h);refine⟨l,?_⟩
  have f:((k+1:Nat):Int)=(k:Int)+1:=by omega
  have a:GB s t p al (BT s t p al k)=none->k+1=(BX s t p al).length:=λe=>by
    rw[e]at g;have:=qV.1 g;omega
  cases d:EX s t p al (Bq s p al (BT s t p al k)) with
  | none=>
    have e:GB s t p al (BT s t p al k)=none:=by unfold GB;rw[d]
    have c:=QL hI (a e);unfold Og at c;rw[d,f]at c;exact .inl ⟨rfl,c,a e⟩
  | some wb=>
    obtain⟨w,b⟩:=wb;refine .inr ⟨w,b,rfl,NC hI l d,Kl d,?_⟩;by_cases hb:(b || LS ⟨s,p,al⟩ w)=true
    · refine .inr ⟨by simpa using hb,?_⟩
      have e:=dK hI l d hb
      cases i:Gy (LS ⟨s,p,al⟩) (A7 al) (BT s t p al k) w with
      | some y=>
        rw[i]at e;rw[e]at g;have j:=(ce.1 g).1;refine .inl ⟨?_,j⟩;rw[JL j]at g;exact g.symm
      | none=>
        rw[i]at e;have hk:=a e;have c:=QL hI hk;unfold Og at c;rw[d]at c;simp only[hb,if_true,f]at c;refine .inr ⟨rfl,?_,hk,c⟩;unfold BT;rw[pU,o4 (by omega)];rfl
    · have e:GB s t p al (BT s t p al k)=none:=by unfold GB;rw[d];simp only[hb];rfl
      have hk:=a e;have c:=QL hI hk;unfold Og at c;rw[d]at c;simp only[hb,f]at c
      have hb:b=false/\LS ⟨s,p,al⟩ w=false:=by simpa using hb
      exact .inl ⟨hb.1,hb.2,c,hk⟩
theorem VE{a:AY}{w:W}{b:Bool}(h:EX s t p al a=some (w,b)):(∃u,b=true/\C4 s a p=some u/\Jd al (C5 u)=w/\C9 u/\(C5 u).length<=2304)\/(∃u,b=false/\C4 s a p=none/\BE [t] a=some u/\Jd al (C5 u)=w/\C9 u/\(C5 u).length<=192):=by
 unfold EX at h;split at h
 ·rename_i u d
  injection h with h;injection h with h e
  obtain⟨c,f⟩:=bR d;exact .inl ⟨u,e.symm,d,(Qj c).trans h,c,f⟩
 ·rename_i d
  split at h
  ·rename_i v g
   injection h with h;injection h with h e
   obtain⟨c,f⟩:=bQ g;exact .inr ⟨v,e.symm,d,g,(Qj c).trans h,c,f⟩
  ·cases h
omit hI in
theorem VF{a:AY}(h:EX s t p al a=none):C4 s a p=none/\BE [t] a=none:=by
 unfold EX at h;split at h
 ·cases h
 ·rename_i c
  split at h
  ·cases h
  ·rename_i b
   exact⟨c,b⟩
theorem fi:OL (Db s p al)=some (BT s t p al 0):=by
 obtain⟨b,_⟩:=Pf (s:=s) (p:=p) (al:=al) (Ck hI);have a:=JL (s:=s) (t:=t) (p:=p) (al:=al) (k:=0) (by have:=Km hI;omega);rw[b];unfold BX at a;simp only[DZ]at a
 simpa using a
end
end Go.Am
namespace Go.Am
open Go Go.Proofs
set_option maxHeartbeats 1000000
set_option maxRecDepth 4000
attribute [local irreducible] A6 CC Lex Bz Ak Spec
variable {TB:BJ}
theorem UK{n k:Nat}(h:k<n):(2 ^ n-1).testBit k=true:=by rw[Nat.testBit_two_pow_sub_one,decide_eq_true h]
theorem Lj{n:Nat}:∀ {k:Nat},k<=n->KH (2 ^ n-1) k=k
 | 0,_=>rfl
 | k+1,h=>by rw[Qc,UK (by omega),if_pos rfl,Lj (by omega)]
theorem Xq{y:Sys}(U:AX y=true)(Y:y.es.length<=1048576):Pure Tryz.prog TB 136 [Br y,eI .i64 ((2 ^ y.st.toNat-1:Nat):Int)] (Br y):=by
 have hh:=AN U
 obtain⟨a,J,I⟩:∃a:Nat,y.st=a/\a<=16:=⟨y.st.toNat,by omega,by omega⟩
 have X:2 ^ a<=2 ^ 16:=pK (by omega) I
 have B:2 ^ a-1<2 ^ 62:=by omega
 rw[show y.st.toNat=a by omega];have j:=Nu (TB:=TB) (2 ^ a-1) B a (by omega);rw[Lj (jp _)]at j
 obtain⟨m,q⟩:∃m,m=2 ^ a-1:=⟨_,rfl⟩
 have A:∀k,k<a->AZ (m:Nat) k=true:=λk hk=>by rw[Dx (by omega) (by omega),q];exact UK hk
 have b:∀k,k<=a->KH m k=k:=λk hk=>by rw[q];exact Lj hk
 rw[<-q]at j B |-;rw[<-J]at j;refine eG Tryz.func136 rfl (by kernel_rfl) rfl ?_;intro Γ i;(repeat first|refine tA rfl ?_|refine aU rfl ?_|apply Aa);refine rG (KC [(7,1),(8,1)]) (by kernel_rfl) ?_;(repeat first|refine tX rfl ?_|refine sP rfl (j) rfl ?_|(refine Ag rfl ?_;refine gA rfl ?_;first|refine gS (λ_ _=>P8 rfl rfl (by rfl) (by rfl)) ?_)|refine aU rfl ?_|apply Aa);apply aB;refine aL (α:={z:Nat×List Eo // z.1<=y.es.length/\z.2=y.es.take z.1}) [1,2] [] rfl rfl (λs=>[(4,.o (.ptr 0 3 0 0)),(5,.o (.ptr 1 3 0 0)),(6,eI .i64 s.1.1)]) (λs=>gj y.al y.st s.1.2) 3 (λs=>y.es.length-s.1.1) (⟨⟨0,[]⟩,by simp⟩) i rfl (by (simp[cX,zC,i,gj,N6,cN])) ?_;rintro⟨⟨k,l⟩,hk,c⟩;(try dsimp only[cA,cB]);have hk:k<=y.es.length:=hk;have c:l=y.es.take k:=c
 have M:l.length=k:=by rw[c,qu];omega
 by_cases L:k<y.es.length
 ·obtain⟨e,R⟩:=get_some L
  have v:y.es.take (k+1)=l++[e]:=by rw[d8,R,c];rfl
  have Q:=get_map (g:=Dy) R
  have Z:(y.es.map Dy)[((k:Nat):Int).toNat]?=some (Dy e):=by rw[i7];exact Q
  have hb:=Du U (co R);unfold DT at hb;simp only[d4,decide_eq_true_eq]at hb
  obtain⟨S,P⟩:∃S:Nat,e.f=S:=⟨e.f.toNat,by omega⟩
  obtain⟨F,H⟩:∃F:Nat,e.t=F:=⟨e.t.toNat,by omega⟩
  have x:=Dg (TB:=TB) (m:Nat) e.f (by omega) (by omega);have w:=Dg (TB:=TB) (m:Nat) e.t (by omega) (by omega);rw[A _ (by omega)]at x w;have p:=Nu (TB:=TB) m B S (by omega);have n:=Nu (TB:=TB) m B F (by omega);rw[b _ (by omega),<-P]at p;rw[b _ (by omega),<-H]at n;(repeat first|refine sN rfl ?_|refine tA rfl ?_|refine s2 rfl λ_ T=>?_|refine aU rfl ?_|apply Aa)
  ((refine aC rfl ?_ ?_<;>rintro⟨⟩);all_goals try(exfalso;(simp only[oZ] at *;omega)))
  apply aK;refine aS (aB ?_)
  (repeat' first|refine tA rfl ?_|(refine s4 rfl ‹_› rfl ?_ ?_;omega)|refine sP rfl (x) rfl ?_|refine sP rfl (w) rfl ?_|refine aU rfl ?_|apply Aa|(refine aC rfl ?_ ?_<;>rintro⟨⟩));all_goals try contradiction
  cases l with
  | nil=>
   refine rG (KC [(1,11),(4,13),(7,13),(10,13),(14,1),(16,1)]) (by kernel_rfl) ?_;(repeat first|refine tA rfl ?_|refine sP rfl (p) rfl ?_|refine sP rfl (n) rfl ?_|(refine Ag rfl ?_;refine gA rfl ?_;first|refine gS (λ_ _=>AG rfl rfl (by rfl) (by rfl)) ?_));(refine pW rfl ?_ rfl (by rfl);refine Zg 38 rfl ?_;refine ES rfl rfl rfl (by intro r u;simp at u;subst u;rfl) (by rfl) (am rfl) (by simp) (λh=>?_) (λ_=>?_))
   ·exact absurd h (by simp)
   (repeat first|(refine sX rfl ?_ ?_;first|exact tI|omega)|refine aU rfl ?_|apply Aa);refine⟨⟨⟨k+1,[e]⟩,by dsimp only;omega,by dsimp only;rw[v];rfl⟩,by dsimp only;(omega),[0,1,4],?_⟩;(simp[cX,zC,i,cN,gj,N6,Ae,eC]<;>rfl)
  | cons G l=>
   refine rG (KC [(1,11),(4,13),(7,13),(10,13),(14,1),(16,1)]) (by kernel_rfl) ?_;(repeat first|refine tA rfl ?_|refine sP rfl (p) rfl ?_|refine sP rfl (n) rfl ?_|(refine Ag rfl ?_;refine gA rfl ?_;first|refine gS (λ_ _=>AG rfl rfl (by rfl) (by rfl)) ?_));(refine pW rfl ?_ rfl (by rfl);refine Au rfl rfl rfl (by first|(simp;done)|(simp;(omega))) rfl (by intro r u;simp at u;subst u;rfl) (by rfl) (am rfl) (by simp at M |-;omega) ?_);(repeat first|(refine sX rfl ?_ ?_;first|exact tI|omega)|refine aU rfl ?_|apply Aa);refine⟨⟨⟨k+1,G::(l++[e])⟩,by dsimp only;omega,by dsimp only;rw[v];rfl⟩,by dsimp only;(omega),[0,1,4],?_⟩;(simp[cX,zC,i,cN,gj,N6,Ae,eC]<;>rfl)
 ·have N:k=y.es.length:=by omega
  have K:l=y.es:=by rw[c,N,io]
  have V:y=⟨y.al,y.st,l⟩:=by rw[K]
  (repeat first|refine sN rfl ?_|refine tA rfl ?_|refine s2 rfl λ_ T=>?_|refine aU rfl ?_|apply Aa)
  ((refine aC rfl ?_ ?_<;>rintro⟨⟩);all_goals try(exfalso;(simp only[oZ] at *;omega)))
  apply aE;rw[V]
  cases l with
  | nil=>
   refine Ak.AF [1] [(4,.o (.ptr 0 3 0 0)),(5,.o (.ip (AL ⟨y.al,y.st,[]⟩)))] ⟨⟨_,rfl,.inl rfl⟩,⟨_,rfl,.inr (.o (.box rfl (.cons .d (.cons .d (.cons .nl .nil)))))⟩,trivial⟩ ?_;(repeat first|refine tA rfl ?_|refine aU rfl ?_|apply Aa);(subst_vars;exact aR ⟨_,rfl,rfl⟩)
  | cons G l=>
   refine Ak.AF [1,2] [(4,.o (.ptr 0 3 0 0)),(5,.o (.ip (AL ⟨y.al,y.st,G::l⟩)))] ⟨⟨_,rfl,.inl rfl⟩,⟨_,rfl,.inr (.o (.box rfl (.cons .d (.cons .d (.cons (.full rfl (by simp[d5]) (by simp)) .nil)))))⟩,trivial⟩ ?_;(repeat first|refine tA rfl ?_|refine aU rfl ?_|apply Aa);(subst_vars;exact aR ⟨_,rfl,rfl⟩)
abbrev Wx(s:Sys)(p:AY)(t:Sys):CP×Bool:=if AT s p t<0 then (⟨⟨0,0,[]⟩,⟨0,[],[]⟩,0⟩,false) else (⟨s,p,AT s p t⟩,true)
theorem JF(s:Sys)(p:AY)(t:Sys)(f:s.es.length<=1048576):Pure Tryz.prog TB 75 [Br s,Bk p,Br t] (nY (Wx s p t)):=by
 have c:=Lp (TB:=TB) s p t;unfold Wx;by_cases h:AT s p t<0
 ·rw[if_pos h]
  refine eG Tryz.func75 rfl (by kernel_rfl) rfl ?_;intro Γ a;(repeat first|refine tA rfl ?_|refine s2 rfl λ_ i=>?_|refine sP rfl (c) rfl ?_|refine aU rfl ?_|apply Aa)
  ((refine aC rfl ?_ ?_<;>rintro⟨⟩);all_goals try(exfalso;(simp only[oZ] at *;omega)))
  (repeat first|refine tA rfl ?_|(refine Ag rfl ?_;refine gA rfl ?_;first|refine gS (λ_ _=>AG rfl rfl (by rfl) (by rfl)) ?_)|refine aU rfl ?_|apply Aa);(subst_vars;exact aR ⟨_,rfl,rfl⟩)
 ·rw[if_neg h]
  have hI:=Es h;have u:=AN hI.hs;have g:=Xo (TB:=TB) s.st (by omega) (by omega);have b:=Xq (TB:=TB) hI.hs f;have m:2 ^ s.st.toNat<=2 ^ 16:=pK (by omega) (by omega);have n:0<2 ^ s.st.toNat:=rO _
  have e:((2 ^ s.st.toNat:Nat):Int)-1=((2 ^ s.st.toNat-1:Nat):Int):=by omega
  rw[<-e]at b;generalize 2 ^ s.st.toNat=pw at *;generalize AT s p t=ai at *;refine eG Tryz.func75 rfl (by kernel_rfl) rfl ?_;intro Γ a;(repeat first|refine tA rfl ?_|refine s2 rfl λ_ i=>?_|refine sP rfl (c) rfl ?_|refine aU rfl ?_|apply Aa)
  ((refine aC rfl ?_ ?_<;>rintro⟨⟩);all_goals try(exfalso;(simp only[oZ] at *;omega)))
  apply aK;(repeat first|refine aU rfl ?_);refine rG ⟨Gn [(7,1),(10,1)],bU [0,1,2,3,4,6,8,5,7,9,10,11]⟩ (by kernel_rfl) ?_;(repeat first|(refine sX rfl ?_ ?_;first|exact tI|omega)|refine sP rfl (g) rfl ?_|refine sP rfl (b) rfl ?_);(refine pW rfl ?_ rfl (by rfl);refine Cn [] rfl rfl 0 (JU p (Po hI.hp)) (by decide) ⟨rfl,by decide,by decide⟩ rfl (by simp[cX,zC,a,cN]) ?_;rintro r j k ⟨l,q,rfl,rfl,rfl⟩ _);(repeat first|refine tX rfl ?_|(refine Ag rfl ?_;refine gA rfl ?_;first|refine gS (λ_ _=>AG rfl rfl (by rfl) (by rfl)) ?_)|apply Aa);refine Ak.Ay [] [] rfl rfl [(6,.o (.ptr 0 7 0 0)),(7,eB true)] [(0,.cells 49 7 [[.d (iD s.al),.d (iD s.st),.d (EG s.es),.d (iD p.al),.arr 1 1 0 l.length,.arr 2 1 0 p.ac.length,.d (iD ai)]]),(1,.cells 63 1 (AA l)),(2,.cells 4 1 (p.ac.map AU)),(3,.sld 3 (sI l))] [0,1,2,3] (rl a rfl) (by (simp[cX,zC,a,cN,BU,Ae,eC])) ?_;(try dsimp only[cA,cB]);refine Ak.AF [0,1,2,3] [(6,.o (.ip (MK ⟨s,⟨p.al,l.map (·.2),p.ac⟩,ai⟩))),(7,eB true)] ⟨⟨_,rfl,.inr (.o (.box rfl (.cons .d (.cons .d (.cons .d (.cons .d (.cons (.Nx (s:=3) rfl rfl) (.cons (.full rfl (by simp[d5]) (by simp)) (.cons .d .nil)))))))))⟩,⟨_,rfl,.inl rfl⟩,trivial⟩ ?_;rw[q];(subst_vars;exact aR ⟨_,rfl,rfl⟩)
theorem aa(l:List Eo)(h:l.length<=1048576):Spec Tryz.prog TB 50 [] 0 [.o (.d (EG l))] (λx σ nx=>x=.o (.arr 0 3 0 l.length)/\nx=1/\σ=[(0,.cells 78 3 (l.map Be))]):=by
 refine eN Tryz.func50 rfl (by kernel_rfl) rfl ?_;intro Γ a;(repeat first|refine aU rfl ?_);(refine Ag rfl ?_;refine CM (λ_ _=>CQ rfl) rfl ?_);(repeat first|refine tM rfl ?_|refine aU rfl ?_|apply Aa);(refine pW rfl ?_ rfl (by rfl);refine Mm rfl ?_;intro e b);(repeat first|apply Aa);(refine aC rfl ?_ ?_<;>rintro⟨⟩)
 ·obtain rfl:l=[]:=by simpa using b rfl
  (repeat first|refine aU rfl ?_);(refine pW rfl ?_ rfl (by rfl);refine Hv 3 78 ?_);(repeat first|apply Aa);refine aR ⟨_,rfl,rfl,rfl,rfl⟩
 ·apply aK
  (repeat first|refine aU rfl ?_);(refine pW rfl ?_ rfl (by rfl);refine Bj rfl rfl rfl rfl (by simp) (by rfl) (by rfl) (by rfl) (by rfl) ?_);(repeat first|refine tM rfl ?_);(refine pW rfl ?_ rfl (by rfl);refine Au rfl rfl rfl (by first|(simp;done)|(simp;(omega))) rfl (by intro r c;simp only[pR,d9]at c;obtain⟨_,_,rfl⟩:=c;rfl) (by rfl) (am rfl) (by simp;omega) ?_);(repeat first|refine tM rfl ?_|apply Aa);refine Ak.names [1] [(2,.o (.arr 0 3 0 l.length))] [(0,.cells 78 3 (l.map Be))] (by intro i hi;rw[a]at hi;omega) (by simp) (by simp[cX,zC,a]) (by simp[cX,zC,a]) ?_;refine aR ⟨_,rfl,rfl,rfl,rfl⟩
theorem KE(s:Sys)(p:AY)(t:Sys)(f:s.es.length<=1048576):Pure Tryz.prog TB 23 [Br s,Bk p,Br t] (nY (Wx s p t)):=by
 have b:=GY (TB:=TB) s p t;unfold Wx;by_cases i:AT s p t<0
 ·rw[if_pos i]
  refine eG Tryz.func23 rfl (by kernel_rfl) rfl ?_;intro Γ a;(repeat first|refine tA rfl ?_|refine s2 rfl λ_ j=>?_|refine sP rfl (b) rfl ?_|refine aU rfl ?_|apply Aa)
  ((refine aC rfl ?_ ?_<;>rintro⟨⟩);all_goals try(exfalso;(simp only[oZ] at *;omega)))
  (repeat first|refine tA rfl ?_|(refine Ag rfl ?_;refine gA rfl ?_;first|refine gS (λ_ _=>AG rfl rfl (by rfl) (by rfl)) ?_)|refine aU rfl ?_|apply Aa);(subst_vars;exact aR ⟨_,rfl,rfl⟩)
 ·rw[if_neg i]
  have hI:=Es i;have h:=aa (TB:=TB) s.es f;have g:=Nf (TB:=TB) p ((Po hI.hp).upto (by omega));generalize AT s p t=ai at *;refine eG Tryz.func23 rfl (by kernel_rfl) rfl ?_;intro Γ a;(repeat first|refine aU rfl ?_);(refine pW rfl ?_ rfl (by rfl);refine Dm rfl rfl ?_);(repeat first|refine tA rfl ?_|refine s2 rfl λ_ j=>?_|refine sP rfl (b) rfl ?_|refine aU rfl ?_|apply Aa)
  ((refine aC rfl ?_ ?_<;>rintro⟨⟩);all_goals try(exfalso;(simp only[oZ] at *;omega)))
  apply aK;(repeat first|refine tA rfl ?_|refine aU rfl ?_);(refine pW rfl ?_ rfl (by rfl);refine Ai [] rfl rfl (h) ⟨rfl,by decide,by decide⟩ rfl (by simp[cX,zC,a,cN]) ?_;rintro k c e ⟨rfl,rfl,rfl⟩ _);(repeat first|refine tA rfl ?_|refine aU rfl ?_|apply Aa);refine rG ⟨Gn [(0,10),(2,1001),(5,1)],bU [0,1,3,2,4,5,6]⟩ (by kernel_rfl) ?_;(repeat first|refine tA rfl ?_);(refine Ag rfl ?_;refine Di ?_ rfl ⟨rfl,rfl⟩;refine Cn [] rfl rfl 0 g (by decide) ⟨rfl,by decide,by decide⟩ rfl (by simp[cX,zC,a,cN]) ?_;rintro k c e ⟨l,m,rfl,rfl,rfl⟩ _;refine⟨Fs 0 rfl rfl,?_⟩);(repeat first|refine tA rfl ?_|(refine Ag rfl ?_;refine gA rfl ?_;first|refine gS (λ_ _=>AG rfl rfl (by rfl) (by rfl)) ?_)|apply Aa);refine Ak.Ay [] [] rfl rfl [(6,.o (.ptr 0 7 0 0)),(7,eB true)] [(0,.cells 49 7 [[.d (iD s.al),.d (iD s.st),.arr 1 3 0 s.es.length,.d (iD p.al),.arr 2 1 0 l.length,.arr 3 1 0 p.ac.length,.d (iD ai)]]),(1,.cells 78 3 (s.es.map Be)),(2,.cells 63 1 (AA l)),(3,.cells 4 1 (p.ac.map AU)),(4,.sld 3 (sI l))] [1,2,3,4,5] (rl a rfl) (by (simp[cX,zC,a,cN,BU,Ae,eC])) ?_;(try dsimp only[cA,cB]);refine Ak.AF [0,1,2,3,4] [(6,.o (.ip (MK ⟨s,⟨p.al,l.map (·.2),p.ac⟩,ai⟩))),(7,eB true)] ⟨⟨_,rfl,.inr (.o (.box rfl (.cons .d (.cons .d (.cons (.full rfl (by simp[d5]) (by simp)) (.cons .d (.cons (.Nx (s:=4) rfl rfl) (.cons (.full rfl (by simp[d5]) (by simp)) (.cons .d .nil)))))))))⟩,⟨_,rfl,.inl rfl⟩,trivial⟩ ?_;rw[m];(subst_vars;exact aR ⟨_,rfl,rfl⟩)
end Go.Am
