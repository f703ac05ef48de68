/-
  Verification part by part, plainly: the tables of its rounds, and its verdict.
-/
import Derived.Test.YtdipaikojjjebaaGreatDoorPart34
import Derived.Test.YtdipaikojjjebaaGreatDoorPart36
import Derived.Test.YtdipaikojjjebaaGreatDoorPart35
set_option linter.all false
namespace Go.Am
open Go Go.Proofs
set_option maxHeartbeats 1000000
set_option maxRecDepth 4000
attribute [local irreducible] A5 Ck Lex Br Aj Spec
abbrev LZ:AK:=⟨0,[],[]⟩
abbrev FD(s:Sys)(p:AK)(al:Int):FF:=⟨false,LZ,s,p,al⟩
noncomputable def HE(s t:Sys)(p:AK)(al:Int)(a:AK):Option (W×Bool):=match DK s a p with
 | some u=>some (C0 (Bz al u),true)
 | none=>match BV [t] a with
  | some v=>some (C0 (Bz al v),false)
  | none=>none
noncomputable def Dc(s:Sys)(p:AK)(al:Int)(x:Bl):AK:=Cj (LS ⟨s,p,al⟩) al x
noncomputable def IM(s t:Sys)(p:AK)(al:Int)(x:Bl):Option Bl:=match HE s t p al (Dc s p al x) with
 | some (w,b)=>if (b || LS ⟨s,p,al⟩ w)=true then Mw (FD s p al) x w else none
 | none=>none
noncomputable def Gh(s t:Sys)(p:AK)(al:Int):Nat->Bl->List Bl
 | 0,x=>[x]
 | k+1,x=>x::match IM s t p al x with
  | some y=>Gh s t p al k y
  | none=>[]
structure Vd where
 code:Int
 a:AK
 tr:W
 rd:Int
noncomputable def PM(s t:Sys)(p:AK)(al:Int)(x:Bl)(r:Nat):Vd:=match HE s t p al (Dc s p al x) with
 | none=>⟨0,Dc s p al x,[],r⟩
 | some (w,b)=>if (b || LS ⟨s,p,al⟩ w)=true then ⟨2,LZ,[],r⟩ else ⟨1,LZ,QY (BV [s,t] p),r⟩
noncomputable def ka(s:Sys)(p:AK)(al:Int):Bl:=(VA (FD s p al)).getD BL
noncomputable def CY(s t:Sys)(p:AK)(al:Int):List Bl:=Gh s t p al 11 (ka s p al)
noncomputable def DJ(s t:Sys)(p:AK):Vd:=if Bm s p t<0 then ⟨3,LZ,[],0⟩ else
 PM s t p (Bm s p t) ((CY s t p (Bm s p t)).getLastD BL) (CY s t p (Bm s p t)).length
structure Ix (s:Sys) (p:AK) (al:Int) (x:Bl) (r:Nat):Prop where
 v:AZ (FA (FD s p al)) (Ef (FD s p al)) x=true
 o:Bp (LS ⟨s,p,al⟩) (BA al) x=none
 rows:r<=x.rows.length
 cols:x.cols.length=r
theorem Sx(s:Sys)(p:AK)(al:Int):CA (FD s p al)=LS ⟨s,p,al⟩:=by
 funext w;unfold CA;rw[if_neg sk]
theorem Lj(s:Sys)(p:AK)(al:Int):Bi (FD s p al)=al:=by
 unfold Bi;rw[if_neg sk]
theorem aF{s:Sys}{p:AK}{al:Int}(h:A9 ⟨s,p,al⟩=true):VA (FD s p al)=some (ka s p al)/\Ix s p al (ka s p al) 1:=by
 have hk:Dg (FD s p al)=true:=by unfold Dg;rw[if_neg sk];exact h
 obtain⟨u,e,d,a,c,g,b,f⟩:=lW hk;unfold ka;rw[e];refine⟨rfl,d,?_,?_,by show u.cols.length=1;rw[c];rfl⟩
 ·rw[Sx,Lj]at a;exact a
 ·show 1<=u.rows.length
  have:=(am.1 b.r0).1;omega
theorem XY{s t:Sys}{p:AK}{al:Int}{x y:Bl}{r:Nat}(a:Ix s p al x r)(h:IM s t p al x=some y):Ix s p al y (r+1)/\x.rows.length<y.rows.length:=by
 unfold IM at h;split at h
 ·split at h
  ·obtain⟨_,_,e,b,_,d,v,c⟩:=mD h
   have f:=a.rows;have g:=a.cols;rw[Sx,Lj]at b;exact⟨⟨e,b,by omega,by rw[c];simp;omega⟩,d⟩
  ·cases h
 ·cases h
theorem WC{s:Sys}{p:AK}{al:Int}{x:Bl}{r:Nat}(b:Ix s p al x r):x.rows.length<=12/\r<=12:=by
 obtain⟨_,_,_,a,_⟩:=DQ b.v;have:=a.rl;have:=b.rows;omega
theorem WD{s t:Sys}{p:AK}{al:Int}:∀(k:Nat) {x:Bl} {r:Nat},Ix s p al x r->∀(i:Nat) (y:Bl),(Gh s t p al k x)[i]?=some y->Ix s p al y (r+i)
 | 0,x,r,a,i,y,h=>by
  cases i with
  | zero=>simp[Gh]at h;subst h;exact a
  | succ i=>simp[Gh]at h
 | k + 1,x,r,a,i,y,h=>by
  cases i with
  | zero=>simp[Gh]at h;subst h;exact a
  | succ i=>
   simp only[Gh,ur]at h
   cases b:IM s t p al x with
   | none=>rw[b]at h;simp at h
   | some z=>
    rw[b]at h;have:=WD k (XY a b).1 i y h;rwa[show r+1+i=r+(i+1) by omega]at this
theorem hO{s t:Sys}{p:AK}{al:Int}(k:Nat)(x:Bl):Gh s t p al k x≠[]:=by cases k<;>simp[Gh]
theorem Qw{s t:Sys}{p:AK}{al:Int}:∀(k:Nat) {x:Bl} {r:Nat},Ix s p al x r->12<=k+r->∀(i:Nat) (y:Bl),(Gh s t p al k x)[i]?=some y->(Gh s t p al k x)[i+1]?=IM s t p al y
 | 0, x,r,b,hk,i,y,h=>by
  cases i with
  | zero=>
   simp[Gh]at h;subst h
   cases a:IM s t p al x with
   | none=>simp[Gh]
   | some z=>
    have:=WC (XY b a).1;omega
  | succ i=>simp[Gh]at h
 | k + 1,x,r,b,hk,i,y,h=>by
  simp only[Gh]at h |-
  cases a:IM s t p al x with
  | none=>
   rw[a]at h
   cases i with
   | zero=>simp at h;subst h;simp[a]
   | succ i=>simp at h
  | some z=>
   rw[a]at h
   cases i with
   | zero=>
    simp at h;subst h;rw[a];cases k<;>simp[Gh]
   | succ i=>
    simp only[ur]at h |-;exact Qw k (XY b a).1 (by omega) i y h
section
variable {s t:Sys}{p:AK}{al:Int}(hI:Ec s p t al)
include hI
theorem run_get{i:Nat}{x:Bl}(h:(CY s t p al)[i]?=some x):Ix s p al x (i+1)/\(CY s t p al)[i+1]?=IM s t p al x:=by
 obtain⟨_,b⟩:=aF (Hq hI);have a:=WD 11 b i x h;rw[uh]at a;exact⟨a,Qw 11 b (by omega) i x h⟩
theorem Mp:1<=(CY s t p al).length/\(CY s t p al).length<=12:=by
 have a:CY s t p al≠[]:=hO 11 _;have c:1<=(CY s t p al).length:=uM.2 a;obtain⟨x,b⟩:=get_some (l:=CY s t p al) (k:=(CY s t p al).length-1) (by omega);have:=(WC (run_get hI b).1).2;omega
theorem gP:∃x,(CY s t p al).getLastD BL=x/\Ix s p al x (CY s t p al).length/\IM s t p al x=none:=by
 have d:=Mp hI;obtain⟨x,a⟩:=get_some (l:=CY s t p al) (k:=(CY s t p al).length-1) (by omega);obtain⟨c,b⟩:=run_get hI a;rw[show (CY s t p al).length-1+1=(CY s t p al).length by omega]at c b;refine⟨x,?_,c,?_⟩
 ·rw[List.getLastD_eq_getLast?,List.getLast?_eq_getElem?,a];rfl
 ·rw[<-b];simp
theorem U8:¬Bm s p t<0:=by
 have:=U0 hI;rw[hI.hal]at this;unfold A1 at this;simp only[decide_eq_true_eq]at this;omega
theorem Pc{x:Bl}{r:Nat}(c:Ix s p al x r):AD (Dc s p al x)=true/\(Dc s p al x).al=al/\(Dc s p al x).nx.length=x.rows.length/\Ci (LS ⟨s,p,al⟩) (BA al) x:=by
 obtain⟨_,_,d,b,_⟩:=DQ c.v;have hk:=I0 d;rw[Sx,Lj]at hk
 have a:Ci (LS ⟨s,p,al⟩) (BA al) x:=⟨hk,Ha c.o⟩
 exact⟨SP (U0 hI) a b.rl,rfl,by simp[Dc,Cj],a⟩
theorem dh{x:Bl}{r:Nat}(b:Ix s p al x r):BT s (Dc s p al x) p=true/\(AX [t] && AD (Dc s p al x))=true:=by
 obtain⟨a,_⟩:=Pc hI b;exact⟨by unfold BT;rw[hI.hs,a,hI.hp];rfl,by rw[Ft,hI.ht,a];rfl⟩
theorem bB{x:Bl}{r:Nat}(a:Ix s p al x r):(HE s t p al (Dc s p al x)=none↔Cm s t p (Dc s p al x)=0)/\(Cm s t p (Dc s p al x)=0\/Cm s t p (Dc s p al x)=3\/Cm s t p (Dc s p al x)=4):=by
 obtain⟨f,e,_⟩:=Pc hI a;obtain⟨c,b⟩:=dh hI a;have d:=U8 hI
 have hal:(Dc s p al x).al=Bm s p t:=by rw[e,hI.hal]
 unfold Cm;rw[if_neg (not_or.2 ⟨d,by rw[f];simp⟩),if_neg (λh=>h hal)];unfold HE Gl Cy;rw[c,b,ro,ro]
 cases DK s (Dc s p al x) p with
 | some u=>simp
 | none=>
  cases BV [t] (Dc s p al x) with
  | some v=>simp
  | none=>simp
theorem mL:∃x,Ix s p al x (CY s t p al).length/\IM s t p al x=none/\DJ s t p=PM s t p al x (CY s t p al).length:=by
 obtain⟨x,c,b,a⟩:=gP hI;refine⟨x,b,a,?_⟩;unfold DJ;rw[if_neg (U8 hI),<-hI.hal,c]
theorem NI:∃x,Ix s p al x (CY s t p al).length/\IM s t p al x=none/\
    ((DJ s t p=⟨0,Dc s p al x,[],(CY s t p al).length⟩/\Cm s t p (Dc s p al x)=0)\/
     (DJ s t p=⟨2,LZ,[],(CY s t p al).length⟩/\∃w b,HE s t p al (Dc s p al x)=some (w,b)/\(b || LS ⟨s,p,al⟩ w)=true/\Mw (FD s p al) x w=none)\/
     (DJ s t p=⟨1,LZ,QY (BV [s,t] p),(CY s t p al).length⟩/\Cy [s,t] p=false/\(BV [s,t] p).isSome=true)):=by
  obtain⟨x,e,c,i⟩:=mL hI;refine⟨x,e,c,?_⟩;rw[i];unfold PM;have h:=bB hI e;unfold IM at c
  cases a:HE s t p al (Dc s p al x) with
  | none=>exact .inl ⟨rfl,h.1.1 a⟩
  | some wb=>
    obtain⟨w,b⟩:=wb;rw[a]at c;simp only at c |-;by_cases hb:(b || LS ⟨s,p,al⟩ w)=true
    · rw[if_pos hb]at c |-
      exact .inr (.inl ⟨rfl,w,b,rfl,hb,c⟩)
    · rw [if_neg hb]
      refine .inr (.inr ⟨rfl,?_⟩)
      have hb:b=false/\LS ⟨s,p,al⟩ w=false:=by simpa using hb
      unfold HE at a;split at a
      · injection a with a;injection a with _ a;rw[hb.1]at a;cases a
      · split at a
        · rename_i v f
          injection a with a;injection a with a _
          subst a;obtain⟨n,m,k,j,l⟩:=Hl f;have hk:=Ud hI k j hb.2;refine⟨hk,?_⟩;unfold Cy at hk
          have d:(AX [s,t] && AD p)=true:=by rw[J9,hI.hs,hI.ht,hI.hp];rfl
          rw[d,ro]at hk
          cases g:BV [s,t] p with
          | none=>rw[g]at hk;cases hk
          | some _=>rfl
        · cases a
end
theorem Sz{s:Sys}{a p:AK}{w:List Int}(h:DK s a p=some w):w.length<=2304:=by
 obtain⟨b,_⟩:=Ll h;unfold DK at h;rw[if_pos b]at h;obtain⟨c,hk,d⟩:=OP b;have hi:=Dz (Ei (DW s a p));rw[h]at hi;have e:=hi.short (Pz c d);have f:(Ei (DW s a p)).N=(s.st*((a.nx.length:Int)*((p.nx.length:Int)*1))).toNat:=rfl;unfold BT at b;simp only[d4]at b;have l:=AN b.1.1;have k:=AB b.1.2;have j:=AB b.2;have i:(a.nx.length:Int)*((p.nx.length:Int)*1)<=12*12:=rf (by omega) (by omega) (by omega) (by omega)
 have g:s.st*((a.nx.length:Int)*((p.nx.length:Int)*1))<=16*144:=rf (by omega) (by omega) (by
  have:0<=(a.nx.length:Int)*((p.nx.length:Int)*1):=rH (by omega) (by omega)
  exact this) (by omega)
 omega
theorem Sy{t:Sys}{a:AK}{w:List Int}(h:BV [t] a=some w):w.length<=192:=by
 obtain⟨d,c,_⟩:=Hl h
 have b:(AX [t] && AD a)=true:=by rw[Ft,d,c];rfl
 unfold BV at h;rw[if_pos b]at h;obtain⟨e,hk,f⟩:=OO b;have hi:=Dz (Ei (CO [t] a));rw[h]at hi;have g:=hi.short (Pz e f);have i:(Ei (CO [t] a)).N=(t.st*((a.nx.length:Int)*1)).toNat:=rfl;have l:=AN d;have k:=AB c;have j:t.st*((a.nx.length:Int)*1)<=16*12:=rf (by omega) (by omega) (by omega) (by omega);omega
theorem WN(al:Int)(u:List Int):(C0 (Bz al u)).length<=u.length:=by
 unfold C0 Bz;rw[gt];exact tl _ _
theorem ab{s t:Sys}{p a:AK}{al:Int}{w:W}{b:Bool}(h:HE s t p al a=some (w,b)):w.length<=4000:=by
 unfold HE at h;split at h
 ·rename_i u d
  injection h with h;injection h with h e
  have:=Sz d;have:=WN al u;rw[<-h];omega
 ·split at h
  ·rename_i v c
   injection h with h;injection h with h e
   have:=Sy c;have:=WN al v;rw[<-h];omega
  ·cases h
section
variable {s t:Sys}{p:AK}{al:Int}(hI:Ec s p t al)
include hI
end
theorem HU{s t:Sys}{p:AK}(h:¬Bm s p t<0):Ec s p t (Bm s p t):=by
 have a:(AU s && AD p && AU t)=true:=by
  unfold Bm at h;split at h
  ·assumption
  ·omega
 simp only[d4]at a;exact⟨a.1.1,a.1.2,a.2,rfl⟩
theorem dj{s t:Sys}{p:AK}(h:¬Bm s p t<0):((DJ s t p).code=0/\Cy [s,t] p=true/\(DJ s t p).tr=[])\/((DJ s t p).code=2/\(DJ s t p).tr=[])\/((DJ s t p).code=1/\Cy [s,t] p=false/\(DJ s t p).tr=QY (BV [s,t] p)):=by
 obtain⟨x,c,_,b⟩:=NI (HU h)
 rcases b with ⟨e,a⟩|⟨e,_⟩|⟨e,hk,_⟩
 ·rw[e];exact .inl ⟨rfl,(UL a).1,rfl⟩
 ·rw[e];exact .inr (.inl ⟨rfl,rfl⟩)
 ·rw[e];exact .inr (.inr ⟨rfl,hk,rfl⟩)
abbrev qN:Sys:=⟨0,1,[]⟩
theorem Uc{t:Ch}(ht:A9 t=true){w:List Int}(b:∀l∈w,l∈Ab t.al):LS t (C0 w)=true↔∀u,WE t u->Bz t.al u <+: w->E4 t.s u->CQ t.q u=true:=by
 constructor
 ·intro h u a f e
  cases d:CQ t.q u
  ·rw[(IZ ht b).2 ⟨u,a,f,e,d⟩]at h;cases h
  ·rfl
 ·intro h
  cases a:LS t (C0 w)
  ·obtain⟨u,j,i,g,c⟩:=(IZ ht b).1 a
   rw[h u j i g]at c;cases c
  ·rfl
section
variable {t:Sys}{p:AK}{al:Int}(hI:Ec qN p t al)
include hI
end
theorem Pt{s t:Sys}{p a:AK}(hI:Ec s p t a.al)(ha:AD a=true):Cm s t p a=0↔Gl s a p=true/\Cy [t] a=true:=by
 have b:=U8 hI;unfold Cm;rw[if_neg (not_or.2 ⟨b,by rw[ha];simp⟩),if_neg (λh=>h hI.hal)];cases Gl s a p<;>cases Cy [t] a<;>simp
theorem Rp{s t:Sys}{p a w b:AK}(hI:Ec s p t a.al)(ha:AD a=true)(h:Cm s t p a=0)(q:AD w=true)(f:w.al=a.al)(K:∀v,(∀l∈v,l∈Ab a.al)->LA w (C0 v)=LS ⟨s,p,a.al⟩ (C0 v))(hb:AD b=true)(j:b.al=a.al)(k:∀u,Gx u->CQ b u=(CQ a u || CQ w u)):Cm s t p b=0:=by
 obtain⟨A,z⟩:=(Pt hI ha).1 h;have y:Ec s p t b.al:=j▸hI
 have J:BT s a p=true:=by unfold BT;rw[hI.hs,ha,hI.hp];rfl
 have I:BT s b p=true:=by unfold BT;rw[hI.hs,hb,hI.hp];rfl
 have H:(AX [t] && AD a)=true:=by rw[Ft,hI.ht,ha];rfl
 have G:(AX [t] && AD b)=true:=by rw[Ft,hI.ht,hb];rfl
 refine(Pt y hb).2 ⟨?_,?_⟩
 ·rw [KV J]at A
  refine(KV I).2 λu c n e=>?_;rw[j]at c;have g:=Fs c;rw[k u g,qW]at e
  rcases e with e|e
  ·exact A u c n e
  ·have d:=QG (al:=a.al) g
   have L:CQ w (Bz a.al u)=true:=by
    rw[<-e];exact Gs q (O5 g) g (by rw[f,Ku λ_ _ h=>h])
   have F:=K _ d;rw[WZ (by rw[f];exact d),L]at F;have x:=((fK (AN hI.hs).1 (AB ha).1).1 c).2;refine(Uc (Hq hI) d).1 F.symm u (λl B=>?_) (td _) n;have i:=g l B;by_cases o:AV a.al l.toNat=true
   ·exact .inr (Hs (u:=[l]) (by intro m c;simp at c;subst c;exact i) (by intro m c;simp at c;subst c;exact o) l (by simp))
   ·refine .inl ?_
    unfold Cg;refine qX.2 ⟨?_,by simpa using o⟩;have r:AV s.al l.toNat=true:=(x l B).resolve_right o;exact Hs (u:=[l]) (by intro m c;simp at c;subst c;exact i) (by intro m c;simp at c;subst c;exact r) l (by simp)
 ·rw[GW H]at z
  exact(GW G).2 λu c n=>by rw[k u (Fs c),z u c n];rfl
def Mn(al:Int)(w:W):W:=w.filter (Je al)
theorem eK{al l:Int}(h:0<=l/\l<6):Je al (UInt8.ofNat (97+l.toNat))=AV al l.toNat:=by
 have a:(UInt8.ofNat (97+l.toNat)).toNat=97+l.toNat:=by simp;omega
 have c:=eJ al (UInt8.ofNat (97+l.toNat))
 have b:HO (UInt8.ofNat (97+l.toNat))=true:=by rw[HP,a,decide_eq_true_eq];omega
 rw[<-c,if_pos b,a];unfold hasB;rw[show ((97+l.toNat:Nat):Int)-97=l by omega,decide_eq_true h.1];rfl
theorem Qh{al:Int}:∀ {u:List Int},Gx u->Mn al (C0 u)=C0 (Bz al u)
 | [],_=>rfl
 | l::u,b=>by
  have a:=Qh (al:=al) (u:=u) (λx c=>b x (by simp[c]));have d:=eK (al:=al) (b l (by simp));unfold Mn C0 Bz at *;rw[rX,t8,t8,d];cases AV al l.toNat
  ·simpa using a
  ·simpa using a
theorem gC(al:Int)(w:W):(Mn al w).length<=w.length:=tl _ _
theorem cL{al:Int}{w:W}{k:Nat}{c:UInt8}(a:w[k]?=some c):Mn al (w.take (k+1))=if Je al c then Mn al (w.take k)++[c] else Mn al (w.take k):=by
 unfold Mn;rw[i7,a,Option.toList_some,sj];cases h:Je al c<;>simp[h]
theorem dm{s:Sys}{a p:AK}{u:List Int}(h:DK s a p=some u):Gx u/\(C0 u).length<=2304:=by
 obtain⟨_,b,_⟩:=Ll h;exact⟨Fs b,by unfold C0;rw[gt];exact Sz h⟩
theorem dk{t:Sys}{a:AK}{u:List Int}(h:BV [t] a=some u):Gx u/\(C0 u).length<=192:=by
 obtain⟨_,_,b,_⟩:=Hl h;exact⟨Fs b,by unfold C0;rw[gt];exact Sy h⟩
theorem QM{u:List Int}(d:Gx u)(a:(C0 u).length<=50000):Ex (C0 u)=true:=by
 unfold Ex;rw[decide_eq_true a,ro,ge];intro c b;unfold C0 at b;obtain⟨l,a,rfl⟩:=d9.1 b;have:=d l a;rw[HP,decide_eq_true_eq]
 have e:(UInt8.ofNat (97+l.toNat)).toNat=97+l.toNat:=by simp;omega
 rw[e];omega
end Go.Am
namespace Go.Am
open Go Go.Proofs
set_option maxHeartbeats 1000000
set_option maxRecDepth 4000
attribute [local irreducible] A5 Ck Lex Br Aj Spec
variable {TB:BJ}
theorem nH{C X:Int->Bool->Ea->Prop}{Y:Prop}(h:∀q m l,C q m l->X q m l)(hk:(∀q m l,C q m l->X q m l)->Y):Y:=hk h
theorem NY(b:List UInt8)(hb:b.length<=2000)(p:Int)(h0:0<=p/\p<800000000)(y:Sys)(hy:y.es.length<=100000):Spec Tryz.prog TB 86 [(0,Bb b p)] 1 [.o (.ptr 0 2 0 0),BK y] (Lr b p 5 (λs=>s.es.length<=y.es.length+1)):=by
 obtain⟨g,g0,g1,T⟩:=A4 (TB:=TB) b hb p (y.es.length+2) (by omega);obtain⟨f,f0,f1,V⟩:=A4 (TB:=TB) b hb (p+1) y.st (by omega);obtain⟨t,t0,t1,ht⟩:=A4 (TB:=TB) b hb (p+1+1) y.st (by omega);obtain⟨c,c0,c1,hc⟩:=A4 (TB:=TB) b hb (p+1+1+1) 2 (by omega);have H:=BX (TB:=TB) y.al;have S:(Ab y.al).length<=6:=AJ y.al 6;generalize Ab y.al=ls at *;refine eR Tryz.func86 rfl (by kernel_rfl) rfl ?_;intro U a;(repeat first|refine tA rfl ?_|refine aU rfl ?_|apply Aa);(refine pW rfl ?_ rfl (by rfl);refine Gd 2 3 78 rfl rfl rfl (by rfl) (by rfl) ?_);(repeat first|refine sN rfl ?_|(refine sA rfl ?_ ?_;first|exact tI|omega)|refine aU rfl ?_|apply Aa);(refine pW rfl ?_ rfl (by rfl);refine Ag [0] rfl rfl (T) ⟨rfl,by decide,by decide⟩ rfl (by simp[cX,zC,a,cN]) ?_;rintro K w z ⟨rfl,rfl,rfl⟩ _);(repeat first|refine tA rfl ?_|refine aU rfl ?_|apply Aa);refine R.RD [(0,2),(1,2),(2,2),(4,2),(5,2),(6,2),(9,3),(3,1),(7,1),(8,0),(10,5)] mixed (by kernel_rfl) rfl (by kernel_rfl) ?_;(repeat ((refine R.Al rfl ?_;first|(refine R.yQ (md:=false) rfl rfl rfl ?_ ?_;exact tI)|refine R.yP rfl rfl rfl rfl ?_ )));(refine R.Al rfl ?_;refine R.Mi (λ_=>?_) rfl rfl;refine Ag [0] rfl rfl V ⟨rfl,by decide,by decide⟩ rfl (by simp[cX,zC,a,cN]) ?_;rintro K w z ⟨rfl,rfl,rfl⟩ _);(refine R.Al rfl ?_;refine R.Mi (λ_=>?_) rfl rfl;refine Ag [0] rfl rfl ht ⟨rfl,by decide,by decide⟩ rfl (by simp[cX,zC,a,cN]) ?_;rintro K w z ⟨rfl,rfl,rfl⟩ _);(repeat ((refine R.Al rfl ?_;first|refine R.yA rfl rfl rfl rfl ?_|refine R.CX (λ_ _ _=>AS rfl rfl (by rfl) (by rfl)) rfl rfl ?_ )));refine R.Rz ?_;refine Aj.Ay [0,3,6] [] rfl rfl [(4,.o (.ptr 1 3 0 0)),(5,.o (.ptr 2 3 0 0)),(7,.o (.ptr 4 3 0 0))] [(0,Bb b (p+1+1+1)),(1,.cells 25 3 [[.d (iD 0),.d (iD 0),.d (.l [])]]),(2,.cells 25 3 [[.d (iD y.al),.d (iD y.st),.arr 3 3 0 0]]),(3,.cells 78 3 []),(4,.cells 78 3 [A3 ⟨f,0,t⟩])] [0,1,3,2,4] (rl a rfl) (by (simp[cX,zC,a,cN,Ae,eC,BM])) ?_;(try dsimp only[cA,cB]);apply nH (C:=λq m e=>p<=q/\q<=p+5)
 case hk =>
  intro hk;by_cases hz:0<ls.length
  ·(repeat' first|refine sN rfl ?_|refine tA rfl ?_|refine s2 rfl λ_ j=>?_|refine sP rfl (H) rfl ?_|refine s3 rfl ?_ ?_<;>rintro rfl|refine aU rfl ?_|apply Aa|(refine aC rfl ?_ ?_<;>rintro⟨⟩));all_goals try contradiction
   all_goals first
    | (exfalso;(simp only[oZ] at *;omega);done)
    | skip
   (refine pW rfl ?_ rfl (by rfl);refine Ag [0] rfl rfl (hc) ⟨rfl,by decide,by decide⟩ rfl (by simp[cX,zC,a,cN]) ?_;rintro K w z ⟨rfl,rfl,rfl⟩ _);by_cases Z:c=0
   ·obtain⟨k,k0,k1,L⟩:=A4 (TB:=TB) b hb (p+1+1+1+1) ls.length (by omega)
    obtain⟨x,Q⟩:=get_some (l:=ls) (k:=k.toNat) (by omega)
    have P:(ls.map Bc)[k.toNat]?=some (Bc x):=by simp[Q]
    (repeat' first|refine sN rfl ?_|refine tA rfl ?_|refine s2 rfl λ_ j=>?_|refine aU rfl ?_|apply Aa|(refine aC rfl ?_ ?_<;>rintro⟨⟩));all_goals try contradiction
    all_goals first
     | (exfalso;(simp only[oZ] at *;omega);done)
     | skip
    (refine pW rfl ?_ rfl (by rfl);refine Ag [0] rfl rfl (L) ⟨rfl,by decide,by decide⟩ rfl (by simp[cX,zC,a,cN]) ?_;rintro K w z ⟨rfl,rfl,rfl⟩ _);(repeat first|refine tA rfl ?_|(refine s4 rfl ‹_› rfl ?_ ?_;omega)|refine aU rfl ?_|apply Aa)
    obtain⟨q,F⟩:∃q,q=p+1+1+1+1+1:=⟨_,rfl⟩
    obtain⟨m,G⟩:∃m,m=true:=⟨_,rfl⟩
    obtain⟨e,I⟩:∃e:Ea,e=⟨f,x,t⟩:=⟨_,rfl⟩
    refine Aj.Ay [0,3,6] [1,2,3] rfl rfl [(4,.o (.ptr 1 3 0 0)),(5,.o (.ptr 2 3 0 0)),(7,.o (.ptr 4 3 0 0)),(9,eB m),(10,eI .i64 0)] [(0,Bb b q),(4,.cells 78 3 [A3 e])] [0,1,2,3,4] (rl a rfl) (by (simp[cX,zC,a,cN,F,G,I,Ae,eC])) ?_;(try dsimp only[cA,cB]);exact hk q m e ⟨by omega,by omega⟩
   ·(repeat' first|refine sN rfl ?_|refine tA rfl ?_|refine s2 rfl λ_ j=>?_|refine aU rfl ?_|apply Aa|(refine aC rfl ?_ ?_<;>rintro⟨⟩));all_goals try contradiction
    all_goals first
     | (exfalso;(simp only[oZ] at *;omega);done)
     | skip
    apply aK;(repeat first|refine tA rfl ?_|refine aU rfl ?_|apply Aa)
    obtain⟨q,F⟩:∃q,q=p+1+1+1+1:=⟨_,rfl⟩
    obtain⟨m,G⟩:∃m,m=false:=⟨_,rfl⟩
    obtain⟨e,I⟩:∃e:Ea,e=⟨f,0,t⟩:=⟨_,rfl⟩
    refine Aj.Ay [0,3,6] [1,2,3] rfl rfl [(4,.o (.ptr 1 3 0 0)),(5,.o (.ptr 2 3 0 0)),(7,.o (.ptr 4 3 0 0)),(9,eB m),(10,eI .i64 0)] [(0,Bb b q),(4,.cells 78 3 [A3 e])] [0,1,2,3,4] (rl a rfl) (by (simp[cX,zC,a,cN,F,G,I,Ae,eC])) ?_;(try dsimp only[cA,cB]);exact hk q m e ⟨by omega,by omega⟩
  ·(repeat' first|refine sN rfl ?_|refine tA rfl ?_|refine s2 rfl λ_ j=>?_|refine sP rfl (H) rfl ?_|refine s3 rfl ?_ ?_<;>rintro rfl|refine aU rfl ?_|apply Aa|(refine aC rfl ?_ ?_<;>rintro⟨⟩));all_goals try contradiction
   all_goals first
    | (exfalso;(simp only[oZ] at *;omega);done)
    | skip
   apply aK;(repeat first|refine tA rfl ?_|refine aU rfl ?_|apply Aa)
   obtain⟨q,F⟩:∃q,q=p+1+1+1:=⟨_,rfl⟩
   obtain⟨m,G⟩:∃m,m=false:=⟨_,rfl⟩
   obtain⟨e,I⟩:∃e:Ea,e=⟨f,0,t⟩:=⟨_,rfl⟩
   refine Aj.Ay [0,3,6] [1,2,3] rfl rfl [(4,.o (.ptr 1 3 0 0)),(5,.o (.ptr 2 3 0 0)),(7,.o (.ptr 4 3 0 0)),(9,eB m),(10,eI .i64 0)] [(0,Bb b q),(4,.cells 78 3 [A3 e])] [0,1,2,3,4] (rl a rfl) (by (simp[cX,zC,a,cN,F,G,I,Ae,eC])) ?_;(try dsimp only[cA,cB]);exact hk q m e ⟨by omega,by omega⟩
 case h =>
  intro q m0 e F;apply aB;refine aL (α:={s:Nat×Bool×List Ea // s.1<=y.es.length/\s.2.2.length+(bif s.2.1 then 1 else 0)<=s.1+1}) [0,3,4,5,6,7] [0,1,4] rfl rfl (λs=>[(9,eB s.1.2.1),(10,eI .i64 s.1.1)]) (λs=>[(2,.cells 25 3 [[.d (iD y.al),.d (iD y.st),.arr 3 3 0 s.1.2.2.length]]),(3,.cells 78 3 (s.1.2.2.map A3))]) 5 (λs=>y.es.length-s.1.1) (⟨⟨0,m0,[]⟩,by simp,by cases m0<;>simp⟩) a rfl (by (simp[cX,zC,a,cN])) ?_;rintro⟨⟨k,m,l⟩,hk,v⟩;(try dsimp only[cA,cB]);have hk:k<=y.es.length:=hk;have v:l.length+(bif m then 1 else 0)<=k+1:=v;by_cases M:k<y.es.length
  ·obtain⟨d, Y⟩:=get_some M
   have N:=get_map (g:=De) Y
   have X:(y.es.map De)[((k:Nat):Int).toNat]?=some (De d):=by rw[d8];exact N
   have u:=Jv (TB:=TB) e d;(repeat first|refine sN rfl ?_|refine tA rfl ?_|refine s2 rfl λ_ j=>?_|refine aU rfl ?_|apply Aa)
   ((refine aC rfl ?_ ?_<;>rintro⟨⟩);all_goals try(exfalso;(simp only[oZ] at *;omega)))
   apply aK;refine aS (aB ?_);cases m
   ·have v:l.length<=k+1:=by simpa using v
    (repeat first|refine aU rfl ?_);refine rG (Hz []) (by kernel_rfl) ?_
    (repeat' first|refine tA rfl ?_|apply Aa|(refine aC rfl ?_ ?_<;>rintro⟨⟩));all_goals try contradiction
    apply aK;(repeat first|refine aU rfl ?_);refine rG (Hz []) (by kernel_rfl) ?_
    (repeat' first|refine tA rfl ?_|apply Aa|(refine aC rfl ?_ ?_<;>rintro⟨⟩));all_goals try contradiction
    apply aK;by_cases A:(k:Int)=g
    ·(repeat first|refine tA rfl ?_|refine s2 rfl λ_ j=>?_|refine aU rfl ?_|apply Aa)
     ((refine aC rfl ?_ ?_<;>rintro⟨⟩);all_goals try(exfalso;(simp only[oZ] at *;omega)))
     apply aK;(repeat first|(refine sA rfl ?_ ?_;first|exact tI|omega)|refine aU rfl ?_|apply Aa);refine⟨⟨⟨k+1,false,l⟩,by dsimp only;omega,by (simp;omega)⟩,by dsimp only;(omega),[0,1,2,3,4],?_⟩;simp[cX,zC,a,cN,Ae,eC]
    ·(repeat first|refine tA rfl ?_|refine s2 rfl λ_ j=>?_|refine aU rfl ?_|apply Aa)
     ((refine aC rfl ?_ ?_<;>rintro⟨⟩);all_goals try(exfalso;(simp only[oZ] at *;omega)))
     refine rG (Jp [(1,12),(8,1),(10,1)]) (by kernel_rfl) ?_;(repeat first|refine tA rfl ?_|(refine s4 rfl ‹_› rfl ?_ ?_;omega));(refine pW rfl ?_ rfl (by rfl);refine Au rfl rfl rfl (by first|(simp;done)|(simp;(omega))) rfl (by intro r n;simp at n;subst n;rfl) (by rfl) (ce rfl) (by simp;omega) ?_);(repeat first|(refine sA rfl ?_ ?_;first|exact tI|omega)|refine aU rfl ?_|apply Aa);refine⟨⟨⟨k+1,false,l++[d]⟩,by dsimp only;omega,by (simp;omega)⟩,by dsimp only;(omega),[0,1,2,5,4],?_⟩;simp[cX,zC,a,cN,Ae,eC]
   ·have v : l.length<=k:=by simpa using v
    cases J:Kz e d
    ·rw [J]at u
     cases B:lB e d
     ·(repeat first|refine aU rfl ?_)
      refine rG (Hz []) (by kernel_rfl) ?_
      (repeat' first|refine tA rfl ?_|(refine s4 rfl ‹_› rfl ?_ ?_;omega)|refine sP rfl (u) rfl ?_|apply Aa|(refine aC rfl ?_ ?_<;>rintro⟨⟩));all_goals try contradiction
      apply aK;(repeat first|refine aU rfl ?_);refine rG (Hz []) (by kernel_rfl) ?_
      (repeat' first|refine tA rfl ?_|(refine s4 rfl ‹_› rfl ?_ ?_;omega)|(refine Al rfl ?_;refine gA rfl ?_;first|refine gS (λ_ _=>B▸Ys rfl rfl) ?_)|apply Aa|(refine aC rfl ?_ ?_<;>rintro⟨⟩));all_goals try contradiction
      apply aK;by_cases A:(k:Int)=g
      ·(repeat first|refine tA rfl ?_|refine s2 rfl λ_ j=>?_|refine aU rfl ?_|apply Aa)
       ((refine aC rfl ?_ ?_<;>rintro⟨⟩);all_goals try(exfalso;(simp only[oZ] at *;omega)))
       apply aK;(repeat first|(refine sA rfl ?_ ?_;first|exact tI|omega)|refine aU rfl ?_|apply Aa);refine⟨⟨⟨k+1,true,l⟩,by dsimp only;omega,by (simp;omega)⟩,by dsimp only;(omega),[0,1,2,3,4],?_⟩;simp[cX,zC,a,cN,Ae,eC]
      ·(repeat first|refine tA rfl ?_|refine s2 rfl λ_ j=>?_|refine aU rfl ?_|apply Aa)
       ((refine aC rfl ?_ ?_<;>rintro⟨⟩);all_goals try(exfalso;(simp only[oZ] at *;omega)))
       refine rG (Jp [(1,12),(8,1),(10,1)]) (by kernel_rfl) ?_;(repeat first|refine tA rfl ?_|(refine s4 rfl ‹_› rfl ?_ ?_;omega));(refine pW rfl ?_ rfl (by rfl);refine Au rfl rfl rfl (by first|(simp;done)|(simp;(omega))) rfl (by intro r n;simp at n;subst n;rfl) (by rfl) (ce rfl) (by simp;omega) ?_);(repeat first|(refine sA rfl ?_ ?_;first|exact tI|omega)|refine aU rfl ?_|apply Aa);refine⟨⟨⟨k+1,true,l++[d]⟩,by dsimp only;omega,by (simp;omega)⟩,by dsimp only;(omega),[0,1,2,5,4],?_⟩;simp[cX,zC,a,cN,Ae,eC]
     ·(repeat first|refine aU rfl ?_)
      refine rG (Hz []) (by kernel_rfl) ?_
      (repeat' first|refine tA rfl ?_|(refine s4 rfl ‹_› rfl ?_ ?_;omega)|refine sP rfl (u) rfl ?_|apply Aa|(refine aC rfl ?_ ?_<;>rintro⟨⟩));all_goals try contradiction
      apply aK;by_cases A:(k:Int)=g
      ·(repeat first|refine aU rfl ?_)
       refine rG (Hz []) (by kernel_rfl) ?_
       (repeat' first|refine tA rfl ?_|(refine s4 rfl ‹_› rfl ?_ ?_;omega)|refine s2 rfl λ_ j=>?_|(refine Al rfl ?_;refine gA rfl ?_;first|refine gS (λ_ _=>B▸Ys rfl rfl) ?_)|refine aU rfl ?_|apply Aa|(refine aC rfl ?_ ?_<;>rintro⟨⟩));all_goals try contradiction
       all_goals first
        | (exfalso;(simp only[oZ] at *;omega);done)
        | skip
       apply aK;(repeat first|(refine sA rfl ?_ ?_;first|exact tI|omega)|refine aU rfl ?_|apply Aa);refine⟨⟨⟨k+1,false,l⟩,by dsimp only;omega,by (simp;omega)⟩,by dsimp only;(omega),[0,1,2,3,4],?_⟩;simp[cX,zC,a,cN,Ae,eC]
      ·(repeat first|refine aU rfl ?_)
       refine rG (Hz []) (by kernel_rfl) ?_
       (repeat' first|refine tA rfl ?_|(refine s4 rfl ‹_› rfl ?_ ?_;omega)|refine s2 rfl λ_ j=>?_|(refine Al rfl ?_;refine gA rfl ?_;first|refine gS (λ_ _=>B▸Ys rfl rfl) ?_)|refine aU rfl ?_|apply Aa|(refine aC rfl ?_ ?_<;>rintro⟨⟩));all_goals try contradiction
       all_goals first
        | (exfalso;(simp only[oZ] at *;omega);done)
        | skip
       refine rG (Jp [(1,12),(8,1),(10,1)]) (by kernel_rfl) ?_;(repeat first|refine tA rfl ?_|(refine s4 rfl ‹_› rfl ?_ ?_;omega));(refine pW rfl ?_ rfl (by rfl);refine Au rfl rfl rfl (by first|(simp;done)|(simp;(omega))) rfl (by intro r n;simp at n;subst n;rfl) (by rfl) (ce rfl) (by simp;omega) ?_);(repeat first|(refine sA rfl ?_ ?_;first|exact tI|omega)|refine aU rfl ?_|apply Aa);refine⟨⟨⟨k+1,false,l++[d]⟩,by dsimp only;omega,by (simp;omega)⟩,by dsimp only;(omega),[0,1,2,5,4],?_⟩;simp[cX,zC,a,cN,Ae,eC]
    ·rw [J]at u
     (repeat first|refine aU rfl ?_);refine rG (Hz []) (by kernel_rfl) ?_
     (repeat' first|refine tA rfl ?_|(refine s4 rfl ‹_› rfl ?_ ?_;omega)|refine sP rfl (u) rfl ?_|refine aU rfl ?_|apply Aa|(refine aC rfl ?_ ?_<;>rintro⟨⟩));all_goals try contradiction
     (refine pW rfl ?_ rfl (by rfl);refine Au rfl rfl rfl (by first|(simp;done)|(simp;(omega))) rfl (by intro r n;simp at n;subst n;rfl) (by rfl) (ce rfl) (by simp;omega) ?_);(repeat first|refine tA rfl ?_|refine aU rfl ?_|apply Aa);refine rG (Hz []) (by kernel_rfl) ?_
     (repeat' first|refine tA rfl ?_|apply Aa|(refine aC rfl ?_ ?_<;>rintro⟨⟩));all_goals try contradiction
     apply aK;by_cases A:(k:Int)=g
     ·(repeat first|refine tA rfl ?_|refine s2 rfl λ_ j=>?_|refine aU rfl ?_|apply Aa)
      ((refine aC rfl ?_ ?_<;>rintro⟨⟩);all_goals try(exfalso;(simp only[oZ] at *;omega)))
      apply aK;(repeat first|(refine sA rfl ?_ ?_;first|exact tI|omega)|refine aU rfl ?_|apply Aa);refine⟨⟨⟨k+1,false,(l++[e])⟩,by dsimp only;omega,by (simp;omega)⟩,by dsimp only;(omega),[0,1,2,5,4],?_⟩;simp[cX,zC,a,cN,Ae,eC]
     ·(repeat first|refine tA rfl ?_|refine s2 rfl λ_ j=>?_|refine aU rfl ?_|apply Aa)
      ((refine aC rfl ?_ ?_<;>rintro⟨⟩);all_goals try(exfalso;(simp only[oZ] at *;omega)))
      refine rG (Jp [(1,12),(8,1),(10,1)]) (by kernel_rfl) ?_;(repeat first|refine tA rfl ?_|(refine s4 rfl ‹_› rfl ?_ ?_;omega));(refine pW rfl ?_ rfl (by rfl);refine Au rfl rfl rfl (by first|(simp;done)|(simp;(omega))) rfl (by intro r n;simp at n;subst n;rfl) (by rfl) (ce rfl) (by simp;omega) ?_);(repeat first|(refine sA rfl ?_ ?_;first|exact tI|omega)|refine aU rfl ?_|apply Aa);refine⟨⟨⟨k+1,false,(l++[e])++[d]⟩,by dsimp only;omega,by (simp;omega)⟩,by dsimp only;(omega),[0,1,2,6,4],?_⟩;simp[cX,zC,a,cN,Ae,eC]
  ·obtain rfl:k=y.es.length:=by omega
   (repeat first|refine sN rfl ?_|refine tA rfl ?_|refine s2 rfl λ_ j=>?_|refine aU rfl ?_|apply Aa)
   ((refine aC rfl ?_ ?_<;>rintro⟨⟩);all_goals try(exfalso;(simp only[oZ] at *;omega)))
   apply aE;cases m
   ·have v:l.length<=y.es.length+1:=by simpa using v
    (repeat first|refine tA rfl ?_|refine aU rfl ?_|apply Aa)
    ((refine aC rfl ?_ ?_<;>rintro⟨⟩);all_goals try (simp at j;done))
    apply aK;(repeat first|refine tA rfl ?_|refine aU rfl ?_|apply Aa);refine Aj.Ay [] [] rfl rfl [(4,.o (.ptr 1 3 0 0))] [(0,Bb b (q)),(1,.cells 25 3 [[.d (iD (y.al)),.d (iD (y.st)),.arr 2 3 0 (l).length]]),(2,.cells 78 3 ((l).map A3))] [0,1,3] (rl a rfl) (by (simp[cX,zC,a,cN,Ae,eC])) ?_;(try dsimp only[cA,cB]);refine Aj.AA [1,2] [(4,.o (.ip (AF ⟨y.al,y.st,l⟩)))] ⟨⟨_,rfl,.inr (.o (.box rfl (.cons .d (.cons .d (.cons (.full rfl (by simp[d5]) (by simp)) .nil)))))⟩,trivial⟩ ?_;refine aR ⟨_,rfl,[0],BK ⟨y.al,y.st,l⟩,[(0,Bb b (q))],⟨by intro i hi;match i with|0=>rfl,by decide⟩,rfl,by (simp[cX,zC,a,cN]),q,⟨y.al,y.st,l⟩,by omega,by first|(simp;done)|(simp;omega),rfl,rfl,rfl⟩
   ·have v:l.length<=y.es.length:=by simpa using v
    (repeat first|refine tA rfl ?_|refine aU rfl ?_|apply Aa)
    ((refine aC rfl ?_ ?_<;>rintro⟨⟩);all_goals try (simp at j;done))
    (repeat first|refine tA rfl ?_|refine aU rfl ?_);(refine pW rfl ?_ rfl (by rfl);refine Au rfl rfl rfl (by first|(simp;done)|(simp;(omega))) rfl (by intro r n;simp at n;subst n;rfl) (by rfl) (ce rfl) (by simp;omega) ?_);(repeat first|refine tA rfl ?_|refine aU rfl ?_|apply Aa);refine Aj.Ay [] [] rfl rfl [(4,.o (.ptr 1 3 0 0))] [(0,Bb b (q)),(1,.cells 25 3 [[.d (iD (y.al)),.d (iD (y.st)),.arr 2 3 0 (l++[e]).length]]),(2,.cells 78 3 ((l++[e]).map A3))] [0,1,5] (rl a rfl) (by (simp[cX,zC,a,cN,Ae,eC])) ?_;(try dsimp only[cA,cB]);refine Aj.AA [1,2] [(4,.o (.ip (AF ⟨y.al,y.st,l++[e]⟩)))] ⟨⟨_,rfl,.inr (.o (.box rfl (.cons .d (.cons .d (.cons (.full rfl (by simp[d5]) (by simp)) .nil)))))⟩,trivial⟩ ?_;refine aR ⟨_,rfl,[0],BK ⟨y.al,y.st,l++[e]⟩,[(0,Bb b (q))],⟨by intro i hi;match i with|0=>rfl,by decide⟩,rfl,by (simp[cX,zC,a,cN]),q,⟨y.al,y.st,l++[e]⟩,by omega,by first|(simp;done)|(simp;omega),rfl,rfl,rfl⟩
theorem Ff[EK TB](s:Sys)(p:AK):Pure Tryz.prog TB 145 [BK s,Bh p] (Ov (BV [s] p)):=by
 refine eN Tryz.func145 rfl (by kernel_rfl) rfl ?_;intro U a;(repeat' first|refine tA rfl ?_|refine sP rfl (Dn [s] p) rfl ?_|refine aU rfl ?_|apply Aa|(refine aC rfl ?_ ?_<;>rintro⟨⟩)|apply aK|apply aE|apply aB|refine aR ⟨_,rfl,?_⟩)
 all_goals rfl
end Go.Am
namespace Go.Am
open Go Go.Proofs
set_option maxHeartbeats 1000000
set_option maxRecDepth 4000
attribute [local irreducible] A5 Ck Lex Br Aj Spec
variable {tabs:List (Nat×Obj)}
end Go.Am
namespace Go.Am
open Go Go.Proofs
set_option maxHeartbeats 1000000
set_option maxRecDepth 4000
attribute [local irreducible] A5 Ck Lex Br Aj Spec
section
variable {s t s' t':Sys}{p p':AK}{al:Int}(hI:Ec s p t al)(hI':Ec s' p' t' al)(hL:Uj (LS ⟨s',p',al⟩) (LS ⟨s,p,al⟩) al)
include hI hI' hL
end
theorem gu{s t:Sys}{p:AK}{al:Int}(hI:Ec s p t al){x:Bl}{r:Nat}(c:Ix s p al x r){w:W}{b:Bool}(h:HE s t p al (Dc s p al x)=some (w,b)):AL (BA al) w:=by
 obtain⟨g,a,_⟩:=Pc hI c;unfold HE at h;split at h
 ·rename_i u e
  injection h with h;injection h with h f
  subst h;exact QB (YU hI g a e).1
 ·split at h
  ·rename_i v d
   injection h with h;injection h with h f
   subst h;have:=(Xm d).1;rw[a]at this;exact QB this
  ·cases h
end Go.Am
namespace Go.Am
open Go Go.Proofs
section
variable {s t:Sys}{p:AK}{al:Int}(hI:Ec s p t al)(h:A9 ⟨s,p,al⟩=true)
include hI h
end
end Go.Am
namespace Go.Am
open Go Go.Proofs
set_option maxHeartbeats 1000000
set_option maxRecDepth 4000
attribute [local irreducible] A5 Ck Lex Br Aj Spec
noncomputable def CZ(s t:Sys)(p:AK)(al:Int)(k:Nat):Bl:=(CY s t p al).getD k ⟨[],[]⟩
abbrev Oi(v:Vd):List D:=[iD v.code,iD v.a.al,Ce v.a.nx,FP v.a.ac,tD v.tr,iD v.rd]
section
variable {s t:Sys}{p:AK}{al:Int}(hI:Ec s p t al)
include hI
theorem aD{x:Bl}{r:Nat}(b:Ix s p al x r){w:W}(c:AL (BA al) w)(d:w.length<=4000):Mw (FD s p al) x w=Oe (LS ⟨s,p,al⟩) (BA al) x w:=by
 have e:(Dg (FD s p al) && BC (CA (FD s p al)) (Bi (FD s p al)) x)=true:=by
  rw[RQ b.v,Sx,Lj,b.o];rfl
 have a:Gw (Bi (FD s p al)) w=true:=by rw[Lj];exact Zx (U0 hI) c d
 unfold Mw;rw[e,a,uR,if_pos rfl,Sx,Lj]
theorem fF{x:Bl}{r:Nat}(a:Ix s p al x r){w:W}{b:Bool}(h:HE s t p al (Dc s p al x)=some (w,b))(hb:(b || LS ⟨s,p,al⟩ w)=true):IM s t p al x=Oe (LS ⟨s,p,al⟩) (BA al) x w:=by
 unfold IM;rw[h];simp only[hb,if_true];exact aD hI a (gu hI a h) (ab h)
omit hI in
theorem Mz{k:Nat}(h:k<(CY s t p al).length):(CY s t p al)[k]?=some (CZ s t p al k):=by
 unfold CZ;rw[jp,d6 h];rfl
theorem QF{k:Nat}(h:k+1=(CY s t p al).length):DJ s t p=PM s t p al (CZ s t p al k) (k+1):=by
 unfold DJ;rw[if_neg (U8 hI),<-hI.hal,<-h]
 have e:(CY s t p al).getLastD BL=CZ s t p al k:=by
  rw[List.getLastD_eq_getLast?,List.getLast?_eq_getElem?,<-h,Nat.add_sub_cancel,Mz (by omega)];rfl
 rw[e]
theorem gF{k:Nat}(h:k<(CY s t p al).length):Ix s p al (CZ s t p al k) (k+1)/\
    ((HE s t p al (Dc s p al (CZ s t p al k))=none/\DJ s t p=⟨0,Dc s p al (CZ s t p al k),[],(k:Int)+1⟩/\k+1=(CY s t p al).length)\/
      ∃ w b,HE s t p al (Dc s p al (CZ s t p al k))=some (w,b)/\AL (BA al) w/\w.length<=4000/\
        ((b = false/\LS ⟨s,p,al⟩ w=false/\DJ s t p=⟨1,LZ,QY (BV [s,t] p),(k:Int)+1⟩/\k+1=(CY s t p al).length)\/
         ((b=true\/LS ⟨s,p,al⟩ w=true)/\((Oe (LS ⟨s,p,al⟩) (BA al) (CZ s t p al k) w=some (CZ s t p al (k+1))/\k+1<(CY s t p al).length)\/
           (Oe (LS ⟨s,p,al⟩) (BA al) (CZ s t p al k) w=none/\CZ s t p al (k+1)=⟨[],[]⟩/\k+1=(CY s t p al).length/\DJ s t p=⟨2,LZ,[],(k:Int)+1⟩))))):=by
  obtain⟨l,g⟩:=run_get hI (Mz h);refine⟨l,?_⟩
  have f:((k+1:Nat):Int)=(k:Int)+1:=by omega
  have a:IM s t p al (CZ s t p al k)=none->k+1=(CY s t p al).length:=λe=>by
    rw[e]at g;have:=tB.1 g;omega
  cases d:HE s t p al (Dc s p al (CZ s t p al k)) with
  | none=>
    have e:IM s t p al (CZ s t p al k)=none:=by unfold IM;rw[d]
    have c:=QF hI (a e);unfold PM at c;rw[d,f]at c;exact .inl ⟨rfl,c,a e⟩
  | some wb=>
    obtain⟨w,b⟩:=wb;refine .inr ⟨w,b,rfl,gu hI l d,ab d,?_⟩;by_cases hb:(b || LS ⟨s,p,al⟩ w)=true
    · refine .inr ⟨by simpa using hb,?_⟩
      have e:=fF hI l d hb
      cases i:Oe (LS ⟨s,p,al⟩) (BA al) (CZ s t p al k) w with
      | some y=>
        rw[i]at e;rw[e]at g;have j:=(am.1 g).1;refine .inl ⟨?_,j⟩;rw[Mz j]at g;exact g.symm
      | none=>
        rw[i]at e;have hk:=a e;have c:=QF hI hk;unfold PM at c;rw[d]at c;simp only[hb,if_true,f]at c;refine .inr ⟨rfl,?_,hk,c⟩;unfold CZ;rw[jp,qT (by omega)];rfl
    · have e:IM s t p al (CZ s t p al k)=none:=by unfold IM;rw[d];simp only[hb];rfl
      have hk:=a e;have c:=QF hI hk;unfold PM at c;rw[d]at c;simp only[hb,f]at c
      have hb:b=false/\LS ⟨s,p,al⟩ w=false:=by simpa using hb
      exact .inl ⟨hb.1,hb.2,c,hk⟩
theorem gq{a:AK}{w:W}{b:Bool}(h:HE s t p al a=some (w,b)):(∃u,b=true/\DK s a p=some u/\Mn al (C0 u)=w/\Gx u/\(C0 u).length<=2304)\/(∃u,b=false/\DK s a p=none/\BV [t] a=some u/\Mn al (C0 u)=w/\Gx u/\(C0 u).length<=192):=by
 unfold HE at h;split at h
 ·rename_i u d
  injection h with h;injection h with h e
  obtain⟨c,f⟩:=dm d;exact .inl ⟨u,e.symm,d,(Qh c).trans h,c,f⟩
 ·rename_i d
  split at h
  ·rename_i v g
   injection h with h;injection h with h e
   obtain⟨c,f⟩:=dk g;exact .inr ⟨v,e.symm,d,g,(Qh c).trans h,c,f⟩
  ·cases h
omit hI in
theorem gr{a:AK}(h:HE s t p al a=none):DK s a p=none/\BV [t] a=none:=by
 unfold HE at h;split at h
 ·cases h
 ·rename_i c
  split at h
  ·cases h
  ·rename_i b
   exact⟨c,b⟩
theorem mE:VA (FD s p al)=some (CZ s t p al 0):=by
 obtain⟨b,_⟩:=aF (s:=s) (p:=p) (al:=al) (Hq hI);have a:=Mz (s:=s) (t:=t) (p:=p) (al:=al) (k:=0) (by have:=Mp hI;omega);rw[b];unfold CY at a;simp only[Gh]at a
 simpa using a
end
section
variable {s t:Sys}{p:AK}{al:Int}(hI:Ec s p t al)
include hI
theorem mz:(DJ s t p).rd=(CY s t p al).length:=by
 obtain⟨x,_,_,a⟩:=NI hI
 rcases a with ⟨e,_⟩|⟨e,_⟩|⟨e,_⟩<;>rw[e]
end
theorem kl{s t:Sys}{p:AK}(h:¬Bm s p t<0):1<=(DJ s t p).rd/\(DJ s t p).rd<=12/\
    (((DJ s t p).code=0/\Cy [s,t] p=true/\(DJ s t p).tr=[]/\(DJ s t p).rd<=(DJ s t p).a.nx.length/\Cm s t p (DJ s t p).a=0)\/
     ((DJ s t p).code=2/\(DJ s t p).tr=[]/\(DJ s t p).a=LZ)\/
     ((DJ s t p).code=1/\Cy [s,t] p=false/\(DJ s t p).a=LZ/\(DJ s t p).tr=QY (BV [s,t] p)/\(BV [s,t] p).isSome=true)):=by
  have hI:=HU h;have g:=mz hI;have i:=Mp hI;refine⟨by omega,by omega,?_⟩;have hk:=dj h;obtain⟨x,c,_,f⟩:=NI hI;obtain⟨_,_,j,_⟩:=Pc hI c;have d:=c.rows
  rcases f with ⟨e,b⟩|⟨e,_⟩|⟨e,b⟩
  · rw [e]at hk |-
    refine .inl ⟨rfl,?_,rfl,?_,b⟩
    · rcases hk with ⟨_,hk,_⟩|⟨hk,_⟩|⟨hk,_⟩
      · exact hk
      · cases hk
      · cases hk
    · show ((CY s t p (Bm s p t)).length:Int)<=((Dc s p (Bm s p t) x).nx.length:Nat)
      omega
  · rw[e];exact .inr (.inl ⟨rfl,rfl,rfl⟩)
  · rw[e];exact .inr (.inr ⟨rfl,b.1,rfl,rfl,b.2⟩)
theorem dO{s t:Sys}{p:AK}{al:Int}(hI:Ec s p t al){x:Bl}{r:Nat}(a:Ix s p al x r):aX (FD s p al) x=some (Dc s p al x):=by
 unfold aX;rw[RQ a.v,Sx,Lj,a.o,if_pos (by rfl:(none:Option W).isNone=true)];rfl
end Go.Am
namespace Go.Am
open Go Go.Proofs
set_option maxHeartbeats 1000000
set_option maxRecDepth 4000
attribute [local irreducible] A5 Ck Lex Br Aj Spec
variable {TB:BJ}
theorem UQ{n k:Nat}(h:k<n):(2 ^ n-1).testBit k=true:=by rw[Nat.testBit_two_pow_sub_one,decide_eq_true h]
theorem Le{n:Nat}:∀ {k:Nat},k<=n->KH (2 ^ n-1) k=k
 | 0,_=>rfl
 | k+1,h=>by rw[Qc,UQ (by omega),if_pos rfl,Le (by omega)]
theorem XE{y:Sys}(V:AU y=true)(Z:y.es.length<=1048576):Pure Tryz.prog TB 136 [BK y,eI .i64 ((2 ^ y.st.toNat-1:Nat):Int)] (BK y):=by
 have hh:=AN V
 obtain⟨a,J,I⟩:∃a:Nat,y.st=a/\a<=16:=⟨y.st.toNat,by omega,by omega⟩
 have Y:2 ^ a<=2 ^ 16:=rU (by omega) I
 have B:2 ^ a-1<2 ^ 62:=by omega
 rw[show y.st.toNat=a by omega];have j:=Ni (TB:=TB) (2 ^ a-1) B a (by omega);rw[Le (lc _)]at j
 obtain⟨m,q⟩:∃m,m=2 ^ a-1:=⟨_,rfl⟩
 have A:∀k,k<a->AV (m:Nat) k=true:=λk hk=>by rw[Dd (by omega) (by omega),q];exact UQ hk
 have b:∀k,k<=a->KH m k=k:=λk hk=>by rw[q];exact Le hk
 rw[<-q]at j B |-;rw[<-J]at j;refine eG Tryz.func136 rfl (by kernel_rfl) rfl ?_;intro U i;(repeat first|refine tA rfl ?_|refine aU rfl ?_|apply Aa);refine rG (Jp [(7,1),(8,1)]) (by kernel_rfl) ?_;(repeat first|refine tX rfl ?_|refine sP rfl (j) rfl ?_|(refine Al rfl ?_;refine gA rfl ?_;first|refine gS (λ_ _=>P8 rfl rfl (by rfl) (by rfl)) ?_)|refine aU rfl ?_|apply Aa);apply aB;refine aL (α:={z:Nat×List Ea // z.1<=y.es.length/\z.2=y.es.take z.1}) [1,2] [] rfl rfl (λs=>[(4,.o (.ptr 0 3 0 0)),(5,.o (.ptr 1 3 0 0)),(6,eI .i64 s.1.1)]) (λs=>jc y.al y.st s.1.2) 3 (λs=>y.es.length-s.1.1) (⟨⟨0,[]⟩,by simp⟩) i rfl (by (simp[cX,zC,i,jc,NQ,cN])) ?_;rintro⟨⟨k,l⟩,hk,c⟩;(try dsimp only[cA,cB]);have hk:k<=y.es.length:=hk;have c:l=y.es.take k:=c
 have M:l.length=k:=by rw[c,sL];omega
 by_cases L:k<y.es.length
 ·obtain⟨e,R⟩:=get_some L
  have v:y.es.take (k+1)=l++[e]:=by rw[i7,R,c];rfl
  have Q:=get_map (g:=De) R
  have hee:(y.es.map De)[((k:Nat):Int).toNat]?=some (De e):=by rw[d8];exact Q
  have hb:=C8 V (co R);unfold DA at hb;simp only[d4,decide_eq_true_eq]at hb
  obtain⟨S,P⟩:∃S:Nat,e.f=S:=⟨e.f.toNat,by omega⟩
  obtain⟨F,H⟩:∃F:Nat,e.t=F:=⟨e.t.toNat,by omega⟩
  have x:=CT (TB:=TB) (m:Nat) e.f (by omega) (by omega);have w:=CT (TB:=TB) (m:Nat) e.t (by omega) (by omega);rw[A _ (by omega)]at x w;have p:=Ni (TB:=TB) m B S (by omega);have n:=Ni (TB:=TB) m B F (by omega);rw[b _ (by omega),<-P]at p;rw[b _ (by omega),<-H]at n;(repeat first|refine sN rfl ?_|refine tA rfl ?_|refine s2 rfl λ_ T=>?_|refine aU rfl ?_|apply Aa)
  ((refine aC rfl ?_ ?_<;>rintro⟨⟩);all_goals try(exfalso;(simp only[oZ] at *;omega)))
  apply aK;refine aS (aB ?_)
  (repeat' first|refine tA rfl ?_|(refine s4 rfl ‹_› rfl ?_ ?_;omega)|refine sP rfl (x) rfl ?_|refine sP rfl (w) rfl ?_|refine aU rfl ?_|apply Aa|(refine aC rfl ?_ ?_<;>rintro⟨⟩));all_goals try contradiction
  cases l with
  | nil=>
   refine rG (Jp [(1,11),(4,13),(7,13),(10,13),(14,1),(16,1)]) (by kernel_rfl) ?_;(repeat first|refine tA rfl ?_|refine sP rfl (p) rfl ?_|refine sP rfl (n) rfl ?_|(refine Al rfl ?_;refine gA rfl ?_;first|refine gS (λ_ _=>AS rfl rfl (by rfl) (by rfl)) ?_));(refine pW rfl ?_ rfl (by rfl);refine ZE 38 rfl ?_;refine EC rfl rfl rfl (by intro r u;simp at u;subst u;rfl) (by rfl) (ce rfl) (by simp) (λh=>?_) (λ_=>?_))
   ·exact absurd h (by simp)
   (repeat first|(refine sX rfl ?_ ?_;first|exact tI|omega)|refine aU rfl ?_|apply Aa);refine⟨⟨⟨k+1,[e]⟩,by dsimp only;omega,by dsimp only;rw[v];rfl⟩,by dsimp only;(omega),[0,1,4],?_⟩;(simp[cX,zC,i,cN,jc,NQ,Ae,eC]<;>rfl)
  | cons G l=>
   refine rG (Jp [(1,11),(4,13),(7,13),(10,13),(14,1),(16,1)]) (by kernel_rfl) ?_;(repeat first|refine tA rfl ?_|refine sP rfl (p) rfl ?_|refine sP rfl (n) rfl ?_|(refine Al rfl ?_;refine gA rfl ?_;first|refine gS (λ_ _=>AS rfl rfl (by rfl) (by rfl)) ?_));(refine pW rfl ?_ rfl (by rfl);refine Au rfl rfl rfl (by first|(simp;done)|(simp;(omega))) rfl (by intro r u;simp at u;subst u;rfl) (by rfl) (ce rfl) (by simp at M |-;omega) ?_);(repeat first|(refine sX rfl ?_ ?_;first|exact tI|omega)|refine aU rfl ?_|apply Aa);refine⟨⟨⟨k+1,G::(l++[e])⟩,by dsimp only;omega,by dsimp only;rw[v];rfl⟩,by dsimp only;(omega),[0,1,4],?_⟩;(simp[cX,zC,i,cN,jc,NQ,Ae,eC]<;>rfl)
 ·have N:k=y.es.length:=by omega
  have K:l=y.es:=by rw[c,N,i8]
  have X:y=⟨y.al,y.st,l⟩:=by rw[K]
  (repeat first|refine sN rfl ?_|refine tA rfl ?_|refine s2 rfl λ_ T=>?_|refine aU rfl ?_|apply Aa)
  ((refine aC rfl ?_ ?_<;>rintro⟨⟩);all_goals try(exfalso;(simp only[oZ] at *;omega)))
  apply aE;rw[X]
  cases l with
  | nil=>
   refine Aj.AA [1] [(4,.o (.ptr 0 3 0 0)),(5,.o (.ip (AF ⟨y.al,y.st,[]⟩)))] ⟨⟨_,rfl,.inl rfl⟩,⟨_,rfl,.inr (.o (.box rfl (.cons .d (.cons .d (.cons .nl .nil)))))⟩,trivial⟩ ?_;(repeat first|refine tA rfl ?_|refine aU rfl ?_|apply Aa);(subst_vars;exact aR ⟨_,rfl,rfl⟩)
  | cons G l=>
   refine Aj.AA [1,2] [(4,.o (.ptr 0 3 0 0)),(5,.o (.ip (AF ⟨y.al,y.st,G::l⟩)))] ⟨⟨_,rfl,.inl rfl⟩,⟨_,rfl,.inr (.o (.box rfl (.cons .d (.cons .d (.cons (.full rfl (by simp[d5]) (by simp)) .nil)))))⟩,trivial⟩ ?_;(repeat first|refine tA rfl ?_|refine aU rfl ?_|apply Aa);(subst_vars;exact aR ⟨_,rfl,rfl⟩)
abbrev WH(s:Sys)(p:AK)(t:Sys):Ch×Bool:=if Bm s p t<0 then (⟨⟨0,0,[]⟩,⟨0,[],[]⟩,0⟩,false) else (⟨s,p,Bm s p t⟩,true)
theorem JM(s:Sys)(p:AK)(t:Sys)(f:s.es.length<=1048576):Pure Tryz.prog TB 75 [BK s,Bh p,BK t] (qi (WH s p t)):=by
 have c:=Et (TB:=TB) s p t;unfold WH;by_cases h:Bm s p t<0
 ·rw[if_pos h]
  refine eG Tryz.func75 rfl (by kernel_rfl) rfl ?_;intro U a;(repeat first|refine tA rfl ?_|refine s2 rfl λ_ i=>?_|refine sP rfl (c) rfl ?_|refine aU rfl ?_|apply Aa)
  ((refine aC rfl ?_ ?_<;>rintro⟨⟩);all_goals try(exfalso;(simp only[oZ] at *;omega)))
  (repeat first|refine tA rfl ?_|(refine Al rfl ?_;refine gA rfl ?_;first|refine gS (λ_ _=>AS rfl rfl (by rfl) (by rfl)) ?_)|refine aU rfl ?_|apply Aa);(subst_vars;exact aR ⟨_,rfl,rfl⟩)
 ·rw[if_neg h]
  have hI:=HU h;have u:=AN hI.hs;have g:=XC (TB:=TB) s.st (by omega) (by omega);have b:=XE (TB:=TB) hI.hs f;have m:2 ^ s.st.toNat<=2 ^ 16:=rU (by omega) (by omega);have n:0<2 ^ s.st.toNat:=uf _
  have e:((2 ^ s.st.toNat:Nat):Int)-1=((2 ^ s.st.toNat-1:Nat):Int):=by omega
  rw[<-e]at b;generalize 2 ^ s.st.toNat=pw at *;generalize Bm s p t=ai at *;refine eG Tryz.func75 rfl (by kernel_rfl) rfl ?_;intro U a;(repeat first|refine tA rfl ?_|refine s2 rfl λ_ i=>?_|refine sP rfl (c) rfl ?_|refine aU rfl ?_|apply Aa)
  ((refine aC rfl ?_ ?_<;>rintro⟨⟩);all_goals try(exfalso;(simp only[oZ] at *;omega)))
  apply aK;(repeat first|refine aU rfl ?_);refine rG ⟨Gj [(7,1),(10,1)],dr [0,1,2,3,4,6,8,5,7,9,10,11]⟩ (by kernel_rfl) ?_;(repeat first|(refine sX rfl ?_ ?_;first|exact tI|omega)|refine sP rfl (g) rfl ?_|refine sP rfl (b) rfl ?_);(refine pW rfl ?_ rfl (by rfl);refine BY [] rfl rfl 0 (JZ p (Pd hI.hp)) (by decide) ⟨rfl,by decide,by decide⟩ rfl (by simp[cX,zC,a,cN]) ?_;rintro r j k ⟨l,q,rfl,rfl,rfl⟩ _);(repeat first|refine tX rfl ?_|(refine Al rfl ?_;refine gA rfl ?_;first|refine gS (λ_ _=>AS rfl rfl (by rfl) (by rfl)) ?_)|apply Aa);refine Aj.Ay [] [] rfl rfl [(6,.o (.ptr 0 7 0 0)),(7,eB true)] [(0,.cells 49 7 [[.d (iD s.al),.d (iD s.st),.d (Em s.es),.d (iD p.al),.arr 1 1 0 l.length,.arr 2 1 0 p.ac.length,.d (iD ai)]]),(1,.cells 63 1 (AH l)),(2,.cells 4 1 (p.ac.map AO)),(3,.sld 3 (sI l))] [0,1,2,3] (rl a rfl) (by (simp[cX,zC,a,cN,BM,Ae,eC])) ?_;(try dsimp only[cA,cB]);refine Aj.AA [0,1,2,3] [(6,.o (.ip (Sw ⟨s,⟨p.al,l.map (·.2),p.ac⟩,ai⟩))),(7,eB true)] ⟨⟨_,rfl,.inr (.o (.box rfl (.cons .d (.cons .d (.cons .d (.cons .d (.cons (.OB (s:=3) rfl rfl) (.cons (.full rfl (by simp[d5]) (by simp)) (.cons .d .nil)))))))))⟩,⟨_,rfl,.inl rfl⟩,trivial⟩ ?_;rw[q];(subst_vars;exact aR ⟨_,rfl,rfl⟩)
theorem dN(s:Sys)(p:AK)(al:Int):KK Tryz.prog TB 140 186 (FD s p al) (Ef (FD s p al)) (FA (FD s p al)):=kX (t:=FD s p al) rfl
theorem ib{te:FF}:0<=Ef te->A1 (Ef te)=true:=λh=>by
 unfold Ef at *;split at h
 ·rename_i hk;rw[if_pos hk];exact Ip hk
 ·omega
theorem cW(s:Sys)(p:AK)(al:Int):Pure Tryz.prog TB 76 [EO (FD s p al)] (NP (VA (FD s p al))):=by
 rw[<-lV];exact TD (dN s p al)
theorem cY(s:Sys)(p:AK)(al:Int)(x:Bl)(a:WU x):Pure Tryz.prog TB 77 [EO (FD s p al),KQ x] (Zp (aX (FD s p al) x)):=by
 rw[<-kZ];exact Hw (dN s p al) x a
theorem YE(s:Sys)(p:AK)(al:Int)(x:Bl)(a:WU x)(w:W)(b:w.length<=4000):Pure Tryz.prog TB 81 [EO (FD s p al),KQ x,eT w] (NP (Mw (FD s p al) x w)):=by
 rw[<-jY];exact Rx (dN s p al) (ib (te:=FD s p al)) x a w (by omega)
theorem I7(w:W)(al:Int)(m:Ex w=true)(ha:A1 al=true)(x:w.length<=50000):Pure Tryz.prog TB 144 [eT w,eI .i64 al] (eT (Mn al w)):=by
 have u:=MG (TB:=TB) w (by omega);have t:=Di (TB:=TB) al
 have l:∀c∈w,HO c=true:=by
  unfold Ex at m;rw[d4,ge]at m;exact m.2
 rw[m]at u;rw[ha]at t;refine eG Tryz.func144 rfl (by kernel_rfl) rfl ?_;intro U d;(repeat first|refine tA rfl ?_|refine s2 rfl λ_ b=>?_|refine sP rfl (u) rfl ?_|refine sP rfl (t) rfl ?_|refine s3 rfl ?_ ?_<;>rintro rfl|refine aU rfl ?_|apply Aa)
 (repeat' first|refine tA rfl ?_|refine s2 rfl λ_ b=>?_|refine sP rfl (u) rfl ?_|refine sP rfl (t) rfl ?_|refine aU rfl ?_|apply Aa|(refine aC rfl ?_ ?_<;>rintro⟨⟩));all_goals try contradiction
 apply aK;(repeat first|refine aU rfl ?_);(refine pW rfl ?_ rfl (by rfl);refine A8 rfl rfl rfl rfl (by simp) (by rfl) (by rfl) (by rfl) (by rfl) ?_);(repeat first|refine tX rfl ?_|refine aU rfl ?_|apply Aa);apply aB;refine aL (α:={k:Nat // k<=w.length}) [0,1] [] rfl rfl (λ⟨k,hk⟩=>[(5,.o (.arr 0 1 0 (Mn al (w.take k)).length)),(6,eI .i64 k)]) (λ⟨k,hk⟩=>[(0,.cells 5 1 ((Mn al (w.take k)).map Jf))]) 1 (λ⟨k,hk⟩=>w.length-k) (⟨0,by omega⟩) d rfl (by (simp[cX,zC,d,Mn])) ?_;rintro⟨k,hk⟩;(try dsimp only[cA,cB]);by_cases p:k<w.length
 ·obtain⟨c,s⟩:=get_some p
  have q:w[((k:Nat):Int).toNat]?=some c:=by simpa using s
  have i:=l c (co s);have h:=i;rw[HP,decide_eq_true_eq]at h;have g:=IG (TB:=TB) w k c q;have a:=CT (TB:=TB) al ((c.toNat:Int)-97) (by omega) (by omega)
  have e:AV al ((c.toNat:Int)-97).toNat=Je al c:=by
   unfold Je;rw[i,ro];congr 1;omega
  rw[e]at a;have f:=cL (al:=al) s;have n:=gC al (w.take k);rw[sL]at n;(repeat first|refine tA rfl ?_|refine s2 rfl λ_ b=>?_|refine aU rfl ?_|apply Aa)
  ((refine aC rfl ?_ ?_<;>rintro⟨⟩);all_goals try(exfalso;(simp only[oZ] at *;omega)))
  apply aK;refine aS (aB ?_);cases j:Je al c
  ·rw[j]at a f
   (repeat first|refine tA rfl ?_|refine sP rfl (g) rfl ?_|refine sP rfl (a) rfl ?_|refine aU rfl ?_|apply Aa)
   ((refine aC rfl ?_ ?_<;>rintro⟨⟩);all_goals try (simp at b;done))
   apply aK;(repeat first|(refine sA rfl ?_ ?_;first|exact tI|omega)|refine aU rfl ?_|apply Aa);refine⟨⟨k+1,by omega⟩,by dsimp only;(omega),[0],?_⟩;simp[cX,zC,d,f,Jf,JH]
  ·rw[j]at a f
   (repeat first|refine tA rfl ?_|refine sP rfl (g) rfl ?_|refine sP rfl (a) rfl ?_|refine aU rfl ?_|apply Aa)
   ((refine aC rfl ?_ ?_<;>rintro⟨⟩);all_goals try (simp at b;done))
   (repeat first|refine tA rfl ?_|(refine s4 rfl ‹_› rfl ?_ ?_;omega)|refine aU rfl ?_);(refine pW rfl ?_ rfl (by rfl);refine Au rfl rfl rfl (by first|(simp;done)|(simp;(omega))) rfl (by intro r v;simp at v;subst v;rfl) (by rfl) (ce rfl) (by simp;omega) ?_);(repeat first|(refine sX rfl ?_ ?_;first|exact tI|omega)|refine aU rfl ?_|apply Aa);refine⟨⟨k+1,by omega⟩,by dsimp only;(omega),[1],?_⟩;simp[cX,zC,d,f,JH,Jf,rI,Yv]
 ·obtain rfl:k=w.length:=by omega
  rw[i8] at *;(repeat first|refine tA rfl ?_|refine s2 rfl λ_ b=>?_|refine aU rfl ?_|apply Aa)
  ((refine aC rfl ?_ ?_<;>rintro⟨⟩);all_goals try(exfalso;(simp only[oZ] at *;omega)))
  apply aE;(repeat first|refine tM rfl ?_|(refine Al rfl ?_;refine gA rfl ?_;first|refine gQ (ZX (Mn al w) rfl rfl (by simp) (by first|rw[sv,kw (by simp)]|rw[sv,ae,kw (by simp)])) (by rfl) ?_)|refine aU rfl ?_|apply Aa);(subst_vars;exact aR ⟨_,rfl,rfl⟩)
abbrev ny(w:W)(c:Int):E:=.t [(false,[.d (tD w)]),(false,[.d (iD c)])]
section
variable [EK TB]{s t:Sys}{p:AK}{al:Int}(hI:Ec s p t al)
include hI
theorem Vl{a:AK}(h:HE s t p al a=none):Pure Tryz.prog TB 78 [BK t,Ow ⟨s,p,al⟩,Bh a] (ny [] 0):=by
 obtain⟨f,e⟩:=gr h;have c:=Dp (TB:=TB) s a p;have b:=Ff (TB:=TB) t a;rw[f]at c;rw[e]at b;refine eG Tryz.func78 rfl (by kernel_rfl) rfl ?_;intro U d;(repeat first|refine tA rfl ?_|refine sP rfl (c) rfl ?_|refine sP rfl (b) rfl ?_|refine aU rfl ?_|apply Aa)
 (repeat' first|refine sP rfl (c) rfl ?_|refine sP rfl (b) rfl ?_|(refine aC rfl ?_ ?_<;>rintro⟨⟩));all_goals try contradiction
 apply aK;(repeat first|refine tA rfl ?_|refine s2 rfl λ_ g=>?_|refine sP rfl (b) rfl ?_|refine aU rfl ?_|apply Aa)
 (repeat' first|refine tA rfl ?_|refine sP rfl (b) rfl ?_|refine aU rfl ?_|apply Aa|(refine aC rfl ?_ ?_<;>rintro⟨⟩));all_goals try contradiction
 (subst_vars;exact aR ⟨_,rfl,rfl⟩)
theorem Vm{a:AK}{w:W}{b:Bool}(h:HE s t p al a=some (w,b))(m:AL (BA al) w)(r:w.length<=4000):Pure Tryz.prog TB 78 [BK t,Ow ⟨s,p,al⟩,Bh a] (ny w (if (b || LS ⟨s,p,al⟩ w)=true then -1 else 1)):=by
 have hal:=U0 hI;have d:=Dp (TB:=TB) s a p;have i:=Ff (TB:=TB) t a
 rcases gq hI h with ⟨u,rfl,l,k,j,n⟩|⟨u,rfl,o,l,k,j,n⟩
 ·rw[l]at d
  have e:=I7 (TB:=TB) (C0 u) al (QM j (by omega)) hal (by omega);rw[k]at e;rw[Bool.true_or,if_pos rfl];refine eG Tryz.func78 rfl (by kernel_rfl) rfl ?_;intro U f;(repeat first|refine tA rfl ?_|refine sP rfl (d) rfl ?_|refine aU rfl ?_|apply Aa)
  (repeat' first|refine tA rfl ?_|refine sP rfl (d) rfl ?_|refine sP rfl (e) rfl ?_|refine aU rfl ?_|apply Aa|(refine aC rfl ?_ ?_<;>rintro⟨⟩));all_goals try contradiction
  (subst_vars;exact aR ⟨_,rfl,rfl⟩)
 ·rw [o]at d
  rw[l]at i;have e:=I7 (TB:=TB) (C0 u) al (QM j (by omega)) hal (by omega);rw[k]at e;have g:=Ob (TB:=TB) ⟨s,p,al⟩ w (by omega);rw[Sr (Hq hI) w m (by omega)]at g;rw[ua];generalize LS ⟨s,p,al⟩ w=q at *;refine eG Tryz.func78 rfl (by kernel_rfl) rfl ?_;intro U f;(repeat first|refine tA rfl ?_|refine sP rfl (d) rfl ?_|refine aU rfl ?_|apply Aa)
  (repeat' first|refine sP rfl (d) rfl ?_|(refine aC rfl ?_ ?_<;>rintro⟨⟩));all_goals try contradiction
  apply aK;(repeat first|refine tA rfl ?_|refine s2 rfl λ_ c=>?_|refine sP rfl (i) rfl ?_|refine aU rfl ?_|apply Aa)
  (repeat' first|refine tA rfl ?_|refine sP rfl (i) rfl ?_|refine aU rfl ?_|apply Aa|(refine aC rfl ?_ ?_<;>rintro⟨⟩));all_goals try contradiction
  apply aK;(repeat first|refine tA rfl ?_|refine sP rfl (e) rfl ?_|refine aU rfl ?_|apply Aa);cases q
  ·(repeat first|refine s2 rfl λ_ c=>?_|refine sP rfl (g) rfl ?_|apply Aa)
   ((refine aC rfl ?_ ?_<;>rintro⟨⟩);all_goals try (simp at c;done))
   (repeat first|refine tA rfl ?_|refine aU rfl ?_|apply Aa);(subst_vars;exact aR ⟨_,rfl,rfl⟩)
  ·(repeat first|refine s2 rfl λ_ c=>?_|refine sP rfl (g) rfl ?_|apply Aa)
   ((refine aC rfl ?_ ?_<;>rintro⟨⟩);all_goals try (simp at c;done))
   apply aK;(repeat first|refine tA rfl ?_|refine aU rfl ?_|apply Aa);(subst_vars;exact aR ⟨_,rfl,rfl⟩)
end
end Go.Am
