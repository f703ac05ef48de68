/-
  Traces of systems by sets of states, plainly.
-/
import Derived.Test.YtdipaikojjjebaaGreatDoorPart32
set_option linter.all false
namespace Go.Am
def Io(s:Sys):Nat->List Int->Nat
 | m,[]=>m
 | m,l::w=>Io s (Bo s.es l m) w
theorem Uh(es:List DM)(l:Int):Bo es l 0=0:=EM λj=>by
 rw[oq];intro h;obtain⟨e,_,⟨_,a⟩,_⟩:=Cz.1 h;simp at a
theorem OB{s:Sys}(k:∀e∈s.es,0<=e.f/\0<=e.t){j:Nat}:∀(w:List Int) {m:Nat},(∀l∈w,AT s.al l.toNat=true)->((Io s m w).testBit j=true↔∃i:Nat,m.testBit i=true/\Hh (I8 s) w i j)
 | [],m,_=>⟨λh=>⟨j,h,rfl⟩,λ⟨i,b,a⟩=>by
  have a:(j:Int)=i:=a
  have:j=i:=by omega
  subst this;exact b⟩
 | l :: w,m,n=>by
  show (Io s (Bo s.es l m) w).testBit j=true↔_
  rw[OB k w λx q=>n x (by simp[q])];have o:=n l (by simp);constructor
  ·rintro⟨i,b,a⟩
   obtain⟨e,g,⟨p,d⟩,c⟩:=Cz.1 b;have hb:=k e g;refine⟨e.f.toNat,d,(i:Int),?_,a⟩
   show (i:Int)∈BN s _ l
   unfold BN;rw[if_pos o];exact d8.2 ⟨e,lw.2 ⟨g,by simp;omega⟩,by omega⟩
  ·rintro⟨i,b,y,a,g⟩
   have a:y∈BN s i l:=a;unfold BN at a;rw[if_pos o]at a;obtain⟨e,p,rfl⟩:=d8.1 a;obtain⟨d,c⟩:=lw.1 p;have hb:=k e d;simp at c;refine⟨e.t.toNat,Cz.2 ⟨e,d,⟨c.2,by rw[c.1];simpa using b⟩,rfl⟩,?_⟩;rw[mB hb.2];exact g
theorem Hb{s:Sys}(k:∀e∈s.es,0<=e.f/\0<=e.t){w:List Int}:Io s 1 (Bl s.al w)≠0↔Cp s w:=by
 have p:Bl s.al (Bl s.al w)=Bl s.al w:=by simp[Bl]
 rw[<-FW p];have c:∀l∈Bl s.al w,AT s.al l.toNat=true:=λl c=>(lw.1 c).2;constructor
 ·intro h
  refine Classical.byContradiction λv=>h (EM λj=>?_);rw[oq];intro u;obtain⟨i,d,B⟩:=(OB k _ c).1 u
  have:i=0:=by
   cases i with
   | zero=>rfl
   | succ i=>simp[mV]at d
  subst this;exact v ⟨_,B⟩
 ·rintro⟨q,d⟩ h
  have r:∀(w:List Int) (x y:Int),0<=x->Hh (I8 s) w x y->0<=y:=λw=>by
   induction w with
   | nil=>intro x y o b;have b:y=x:=b;omega
   | cons l w n=>
    rintro x y o ⟨z,a,b⟩;refine n z y ?_ b;have a:z∈BN s x l:=a;unfold BN at a;split at a
    ·obtain⟨e,A,rfl⟩:=d8.1 a
     exact(k e (lw.1 A).1).2
    ·simp at a;omega
  have g:=r _ _ _ (by omega) d;have:=(OB k (j:=q.toNat) (Bl s.al w) (m:=1) c).2 ⟨0,by simp,by rw[mB g];exact d⟩;rw[h]at this;simp at this
theorem SD{x y n:Int}(b:0<=y)(a:y<n):(x*n+y) / n=x/\(x*n+y)%n=y:=by
 constructor
 ·rw[pv,Int.add_mul_ediv_right _ _ (by omega),ou b a,pu]
 ·rw[pv,o6,ph b a]
section
variable {a b:A5}(ha:AJ a=true)(hb:AJ b=true)(hal:b.al=a.al)
include ha hb
end
structure jw (s t:Sys) (g:Gr):Prop where
 s0:g.s0=1
 ls:g.ls=Ac s.al
 goal:∀x,g.goal x=decide (x%((2 ^ t.st.toNat:Nat):Int)=0)
 succ:∀x l,0<=x->l∈Ac s.al->∀y,y∈g.succ x l↔∃q∈BN s (x / ((2 ^ t.st.toNat:Nat):Int)) l,y=q*((2 ^ t.st.toNat:Nat):Int)+(Bo t.es l (x%((2 ^ t.st.toNat:Nat):Int)).toNat:Nat)
theorem J9{s:Sys}(hs:Ay s=true)(l:Int)(m:Nat):Bo s.es l m<2 ^ s.st.toNat:=by
 refine Nat.lt_pow_two_of_testBit _ λj c=>?_;rw[oq];intro h;obtain⟨e,b,_,d⟩:=Cz.1 h;have a:=BT hs b;unfold CI at a;simp at a;omega
section
variable {s t:Sys}{g:Gr}(hs:Ay s=true)(ht:Ay t=true)(hal:s.al=t.al)(hg:jw s t g)
include hs ht hg
theorem WI{x q l:Int}(c:0<=x)(h:q∈BN s x l):0<=q:=by
 have _:=ht;have _:=hg;unfold BN at h;split at h
 ·obtain⟨e,b,rfl⟩:=d8.1 h
  have a:=BT hs (lw.1 b).1;unfold CI at a;simp at a;omega
 ·simp at h;omega
theorem Oi:∀(w:List Int) {x y:Int},(∀l∈w,l∈Ac s.al)->0<=x->(reach g w x y↔∃q,Hh (I8 s) w (x / ((2 ^ t.st.toNat:Nat):Int)) q/\y=q*((2 ^ t.st.toNat:Nat):Int)+(Io t (x%((2 ^ t.st.toNat:Nat):Int)).toNat w:Nat))
 | [],x,y,_,f=>by
  have u:(0:Int)<((2 ^ t.st.toNat:Nat):Int):=by have:=nt t.st.toNat;omega
  generalize J:((2 ^ t.st.toNat:Nat):Int)=n at *;have d:=ms x (b:=n) (by omega);have e:=Int.ediv_mul_add_emod x n;constructor
  ·intro h
   have h:x=y:=h;refine⟨_,rfl,?_⟩
   show y=x / n*n+((x%n).toNat:Nat)
   omega
  ·rintro⟨q,c,A⟩
   have c:q=x / n:=c;have A:y=q*n+((x%n).toNat:Nat):=A;subst c
   show x=y
   omega
 | l :: w,x,y,p,f=>by
  have v:=p l (by simp)
  have u:(0:Int)<((2 ^ t.st.toNat:Nat):Int):=by have:=nt t.st.toNat;omega
  have a:0<=x / ((2 ^ t.st.toNat:Nat):Int):=mS f (by omega);have i:=J9 ht l (x%((2 ^ t.st.toNat:Nat):Int)).toNat
  have key:∀q:Int,0<=q->0<=q*((2 ^ t.st.toNat:Nat):Int)+(Bo t.es l (x%((2 ^ t.st.toNat:Nat):Int)).toNat:Nat)/\(q*((2 ^ t.st.toNat:Nat):Int)+(Bo t.es l (x%((2 ^ t.st.toNat:Nat):Int)).toNat:Nat)) / ((2 ^ t.st.toNat:Nat):Int)=q/\((q*((2 ^ t.st.toNat:Nat):Int)+(Bo t.es l (x%((2 ^ t.st.toNat:Nat):Int)).toNat:Nat))%((2 ^ t.st.toNat:Nat):Int)).toNat=Bo t.es l (x%((2 ^ t.st.toNat:Nat):Int)).toNat:=λq G=>by
   obtain⟨I,H⟩:=SD (x:=q) (y:=((Bo t.es l (x%((2 ^ t.st.toNat:Nat):Int)).toNat:Nat):Int)) (n:=((2 ^ t.st.toNat:Nat):Int)) (by omega) (by omega);refine⟨?_,I,by rw[H,i7]⟩;have:=mf G (Int.le_of_lt u);omega
  constructor
  ·rintro⟨z,B,F⟩
   obtain⟨q,d,rfl⟩:=(hg.succ x l f v z).1 B;obtain⟨o,k,j⟩:=key q (WI hs ht hg a d);obtain⟨r,e,c⟩:=(Oi w (λm i=>p m (by simp[i])) o).1 F;rw[k]at e;rw[j]at c;exact⟨r,⟨q,d,e⟩,c⟩
  ·rintro⟨r,⟨q,d,e⟩,c⟩
   obtain⟨o,k,j⟩:=key q (WI hs ht hg a d);refine⟨_,(hg.succ x l f v _).2 ⟨q,d,rfl⟩,(Oi w (λm i=>p m (by simp[i])) o).2 ⟨r,?_,?_⟩⟩
   ·rw[k];exact e
   ·rw[j];exact c
include hal
theorem Y9{w:List Int}(n:∀l∈w,l∈Ac s.al):NL g w↔Cp s w/\¬Cp t w:=by
 have u:=(AE ht).2.1
 have G:2<=2 ^ t.st.toNat:=by
  obtain⟨k,hk⟩:∃k,t.st.toNat=k+1:=⟨t.st.toNat-1,by omega⟩
  rw[hk,nP];have:=nt k;omega
 have r:Bl t.al w=w:=nU.2 λl z=>by
  have:=(Ai (n l z)).2.2;rw[<-hal];exact this
 have A:∀e∈t.es,0<=e.f/\0<=e.t:=λe h=>by
  have c:=BT ht h;unfold CI at c;simp at c;omega
 have b:=Hb A (w:=w);rw[r]at b
 have v:Io t 1 w<2 ^ t.st.toNat:=by
  have key:∀(w:List Int) (m:Nat),m<2 ^ t.st.toNat->Io t m w<2 ^ t.st.toNat:=λw=>by
   induction w with
   | nil=>exact λm h=>h
   | cons l w p=>exact λm _=>p _ (J9 ht l m)
  exact key w 1 (by omega)
 have F:(1:Int) / ((2 ^ t.st.toNat:Nat):Int)=0:=ou (by omega) (by omega)
 have B:((1:Int)%((2 ^ t.st.toNat:Nat):Int)).toNat=1:=by rw[ph (by omega) (by omega)];rfl
 have d:=λy=>Oi hs ht hg w (x:=1) (y:=y) n (by omega);rw[F,B]at d
 have a:∀q:Int,g.goal (q*((2 ^ t.st.toNat:Nat):Int)+((Io t 1 w:Nat):Int))=decide (Io t 1 w=0):=λq=>by
  rw[hg.goal,(SD (x:=q) (by omega) (by omega)).2];by_cases h:Io t 1 w=0
  ·rw[h];simp
  ·rw[decide_eq_false h,decide_eq_false (by omega)]
 unfold NL;rw[hg.s0];constructor
 ·rintro⟨y,c,o⟩
  obtain⟨q,j,rfl⟩:=(d y).1 c;rw[a]at o;exact⟨⟨q,j⟩,λi=>b.2 i (of_decide_eq_true o)⟩
 ·rintro⟨⟨q,j⟩,i⟩
  refine⟨_,(d _).2 ⟨q,j,rfl⟩,?_⟩;rw[a];exact decide_eq_true (Classical.byContradiction λh=>i (b.1 h))
end
end Go.Am
namespace Go.Am
open Go Go.Proofs
set_option maxHeartbeats 1000000
set_option maxRecDepth 4000
attribute [local irreducible] A1 Cr Lex Bs Aj Spec
theorem OK{s t:Sys}{p:A5}{al:Int}:∀(k:Nat) {x:A9} {r:Nat},El s p al x r->12<=k+r->∀(i:Nat) (y:A9),(Dr s t p al k x)[i]?=some y->(Dr s t p al k x)[i+1]?=Fx s t p al y
 | 0, x,r,b,hk,i,y,h=>by
  cases i with
  | zero=>
   simp[Dr]at h;subst h
   cases a:Fx s t p al x with
   | none=>simp[Dr]
   | some z=>
    have:=Tm (QV b a).1;omega
  | succ i=>simp[Dr]at h
 | k + 1,x,r,b,hk,i,y,h=>by
  simp only[Dr]at h |-
  cases a:Fx s t p al x with
  | none=>
   rw[a]at h
   cases i with
   | zero=>simp at h;subst h;simp[a]
   | succ i=>simp at h
  | some z=>
   rw[a]at h
   cases i with
   | zero=>
    simp at h;subst h;rw[a];cases k<;>simp[Dr]
   | succ i=>
    simp only[oe]at h |-;exact OK k (QV b a).1 (by omega) i y h
section
variable {s t:Sys}{p:A5}{al:Int}(hI:Df s p t al)
include hI
theorem run_get{i:Nat}{x:A9}(h:(Cf s t p al)[i]?=some x):El s p al x (i+1)/\(Cf s t p al)[i+1]?=Fx s t p al x:=by
 obtain⟨_,b⟩:=Nh (DU hI);have a:=OL 11 b i x h;rw[nZ]at a;exact⟨a,OK 11 b (by omega) i x h⟩
theorem Rv:1<=(Cf s t p al).length/\(Cf s t p al).length<=12:=by
 have a:Cf s t p al≠[]:=bh 11 _;have c:1<=(Cf s t p al).length:=oX.2 a;obtain⟨x,b⟩:=get_some (l:=Cf s t p al) (k:=(Cf s t p al).length-1) (by omega);have:=(Tm (run_get hI b).1).2;omega
theorem SY:∃x,(Cf s t p al).getLastD BU=x/\El s p al x (Cf s t p al).length/\Fx s t p al x=none:=by
 have d:=Rv hI;obtain⟨x,a⟩:=get_some (l:=Cf s t p al) (k:=(Cf s t p al).length-1) (by omega);obtain⟨c,b⟩:=run_get hI a;rw[show (Cf s t p al).length-1+1=(Cf s t p al).length by omega]at c b;refine⟨x,?_,c,?_⟩
 ·rw[List.getLastD_eq_getLast?,List.getLast?_eq_getElem?,a];rfl
 ·rw[<-b];simp
theorem NO:¬A7 s p t<0:=by
 have:=Sp hI;rw[hI.hal]at this;unfold Bn at this;simp only[decide_eq_true_eq]at this;omega
theorem Lc{x:A9}{r:Nat}(c:El s p al x r):AJ (BL s p al x)=true/\(BL s p al x).al=al/\(BL s p al x).nx.length=x.rows.length/\BZ (LS ⟨s,p,al⟩) (Bg al) x:=by
 obtain⟨_,_,d,b,_⟩:=EU c.v;have hk:=HB d;rw[Ga,Cy]at hk
 have a:BZ (LS ⟨s,p,al⟩) (Bg al) x:=⟨hk,Hr c.o⟩
 exact⟨Vm (Sp hI) a b.rl,rfl,by simp[BL,Bm],a⟩
theorem XV{x:A9}{r:Nat}(b:El s p al x r):BQ s (BL s p al x) p=true/\(AY [t] && AJ (BL s p al x))=true:=by
 obtain⟨a,_⟩:=Lc hI b;exact⟨by unfold BQ;rw[hI.hs,a,hI.hp];rfl,by rw[Dx,hI.ht,a];rfl⟩
theorem Xe{x:A9}{r:Nat}(a:El s p al x r):(EI s t p al (BL s p al x)=none↔DH s t p (BL s p al x)=0)/\(DH s t p (BL s p al x)=0\/DH s t p (BL s p al x)=3\/DH s t p (BL s p al x)=4):=by
 obtain⟨f,e,_⟩:=Lc hI a;obtain⟨c,b⟩:=XV hI a;have d:=NO hI
 have hal:(BL s p al x).al=A7 s p t:=by rw[e,hI.hal]
 unfold DH;rw[if_neg (not_or.2 ⟨d,by rw[f];simp⟩),if_neg (λh=>h hal)];unfold EI Gw Dm;rw[c,b,mz,mz]
 cases Dt s (BL s p al x) p with
 | some u=>simp
 | none=>
  cases Cn [t] (BL s p al x) with
  | some v=>simp
  | none=>simp
theorem fW:∃x,El s p al x (Cf s t p al).length/\Fx s t p al x=none/\CP s t p=Mm s t p al x (Cf s t p al).length:=by
 obtain⟨x,c,b,a⟩:=SY hI;refine⟨x,b,a,?_⟩;unfold CP;rw[if_neg (NO hI),<-hI.hal,c]
theorem XW:∃x,El s p al x (Cf s t p al).length/\Fx s t p al x=none/\
    ((CP s t p=⟨0,BL s p al x,[],(Cf s t p al).length⟩/\DH s t p (BL s p al x)=0)\/
     (CP s t p=⟨2,Up,[],(Cf s t p al).length⟩/\∃w b,EI s t p al (BL s p al x)=some (w,b)/\(b || LS ⟨s,p,al⟩ w)=true/\Jh (EE s p al) x w=none)\/
     (CP s t p=⟨1,Up,WT (Cn [s,t] p),(Cf s t p al).length⟩/\Dm [s,t] p=false/\(Cn [s,t] p).isSome=true)):=by
  obtain⟨x,e,c,i⟩:=fW hI;refine⟨x,e,c,?_⟩;rw[i];unfold Mm;have h:=Xe hI e;unfold Fx at c
  cases a:EI s t p al (BL s p al x) with
  | none=>exact .inl ⟨rfl,h.1.1 a⟩
  | some wb=>
    obtain⟨w,b⟩:=wb;rw[a]at c;simp only at c |-;by_cases hb:(b || LS ⟨s,p,al⟩ w)=true
    · rw[if_pos hb]at c |-
      exact .inr (.inl ⟨rfl,w,b,rfl,hb,c⟩)
    · rw [if_neg hb]
      refine .inr (.inr ⟨rfl,?_⟩)
      have hb:b=false/\LS ⟨s,p,al⟩ w=false:=by simpa using hb
      unfold EI at a;split at a
      · injection a with a;injection a with _ a;rw[hb.1]at a;cases a
      · split at a
        · rename_i v f
          injection a with a;injection a with a _
          subst a;obtain⟨n,m,k,j,l⟩:=Gg f;have hk:=RF hI k j hb.2;refine⟨hk,?_⟩;unfold Dm at hk
          have d:(AY [s,t] && AJ p)=true:=by rw[Ei,hI.hs,hI.ht,hI.hp];rfl
          rw[d,mz]at hk
          cases g:Cn [s,t] p with
          | none=>rw[g]at hk;cases hk
          | some _=>rfl
        · cases a
end
theorem Qe{s:Sys}{a p:A5}{w:List Int}(h:Dt s a p=some w):w.length<=2304:=by
 obtain⟨b,_⟩:=JE h;unfold Dt at h;rw[if_pos b]at h;obtain⟨c,hk,d⟩:=QQ b;have hi:=C6 (Jc (Dq s a p));rw[h]at hi;have hs:=hi.short (QA c d);have e:(Jc (Dq s a p)).N=(s.st*((a.nx.length:Int)*((p.nx.length:Int)*1))).toNat:=rfl;unfold BQ at b;simp only[d4]at b;have k:=AE b.1.1;have j:=AS b.1.2;have i:=AS b.2;have g:(a.nx.length:Int)*((p.nx.length:Int)*1)<=12*12:=l4 (by omega) (by omega) (by omega) (by omega)
 have f:s.st*((a.nx.length:Int)*((p.nx.length:Int)*1))<=16*144:=l4 (by omega) (by omega) (by
  have:0<=(a.nx.length:Int)*((p.nx.length:Int)*1):=mf (by omega) (by omega)
  exact this) (by omega)
 omega
theorem Qd{t:Sys}{a:A5}{w:List Int}(h:Cn [t] a=some w):w.length<=192:=by
 obtain⟨d,c,_⟩:=Gg h
 have b:(AY [t] && AJ a)=true:=by rw[Dx,d,c];rfl
 unfold Cn at h;rw[if_pos b]at h;obtain⟨e,hk,f⟩:=QP b;have hi:=C6 (Jc (CC [t] a));rw[h]at hi;have hs:=hi.short (QA e f);have g:(Jc (CC [t] a)).N=(t.st*((a.nx.length:Int)*1)).toNat:=rfl;have k:=AE d;have j:=AS c;have i:t.st*((a.nx.length:Int)*1)<=16*12:=l4 (by omega) (by omega) (by omega) (by omega);omega
theorem Tw(al:Int)(u:List Int):(DD (Bl al u)).length<=u.length:=by
 unfold DD Bl;rw[f7];exact nr _ _
theorem IP{s t:Sys}{p a:A5}{al:Int}{w:W}{b:Bool}(h:EI s t p al a=some (w,b)):w.length<=4000:=by
 unfold EI at h;split at h
 ·rename_i u d
  injection h with h;injection h with h e
  have:=Qe d;have:=Tw al u;rw[<-h];omega
 ·split at h
  ·rename_i v c
   injection h with h;injection h with h e
   have:=Qd c;have:=Tw al v;rw[<-h];omega
  ·cases h
section
variable {s t:Sys}{p:A5}{al:Int}(hI:Df s p t al)
include hI
theorem OO:CU (EE s p al)=true:=by unfold CU;rw[if_neg oc];exact DU hI
end
theorem Pq{g g':Gr}(c:g.ls=g'.ls)(d:∀w,over g w->(NL g w↔NL g' w)):Cs g=Cs g':=by
 have b:∀w,over g w↔over g' w:=λw=>by unfold over;rw[c]
 refine Nk ?_;have hi:=C6 g'
 cases f:Cs g' with
 | none=>
  rw[f]at hi;exact λu a h=>hi u ((b u).1 a) ((d u a).1 h)
 | some w=>
  rw[f]at hi;obtain⟨k,j,i⟩:=hi;have e:=(b w).2 k;exact⟨e,(d w e).2 j,λu a h=>i u ((b u).1 a) ((d u a).1 h)⟩
theorem Gy{a b:Int}(h:∀n,n<6->AT a n=AT b n):Ac a=Ac b:=by
 unfold Ac AK;congr 1;exact nv λn c=>h n (lS.1 c)
theorem Tv{s s':Sys}{a p p':A5}(m:BQ s a p=BQ s' a p')(hal:s.al=s'.al)(h:BQ s a p=true->∀w,Eb w->C5 a w=true->((Cp s w/\C5 p w=false)↔(Cp s' w/\C5 p' w=false))):Dt s a p=Dt s' a p':=by
 unfold Dt;rw[<-m];by_cases b:BQ s a p=true
 ·rw [if_pos b,if_pos b]
  have c:(Jc (Dq s a p)).ls=(Jc (Dq s' a p')).ls:=by
   show Ac (Fp .i64 s.al a.al)=Ac (Fp .i64 s'.al a.al)
   rw[hal]
  refine Pq c λw f=>?_;have e:over (Jc (Dq s' a p')) w:=λl o=>c▸f l o;rw[Y8 b f,Y8 (m▸b) e];have n:Eb w:=DK (al:=Fp .i64 s.al a.al) f;constructor
  ·rintro⟨i,d,g⟩
   obtain⟨k,j⟩:=(h b w n d).1 ⟨i,g⟩;exact⟨k,d,j⟩
  ·rintro⟨i,d,g⟩
   obtain⟨k,j⟩:=(h b w n d).2 ⟨i,g⟩;exact⟨k,d,j⟩
 ·rw[if_neg b,if_neg b]
theorem Iv{l l':List Sys}{p p':A5}(f:(AY l && AJ p)=(AY l' && AJ p'))(e:(AY l && AJ p)=true->Ac (Bz l)=Ac (Bz l'))(h:(AY l && AJ p)=true->∀w,Eb w->((∀s∈l,Cp s w)/\C5 p w=false↔(∀s∈l',Cp s w)/\C5 p' w=false)):Cn l p=Cn l' p':=by
 unfold Cn;rw[<-f];by_cases a:(AY l && AJ p)=true
 ·rw[if_pos a,if_pos a]
  have b:(Jc (CC l p)).ls=(Jc (CC l' p')).ls:=e a;refine Pq b λw d=>?_;have c:over (Jc (CC l' p')) w:=λm g=>b▸d m g;rw[Y7 a d,Y7 (f▸a) c];exact h a w (DK (al:=Bz l) d)
 ·rw[if_neg a,if_neg a]
theorem Ia{s t:Sys}{p:A5}(h:¬A7 s p t<0):Df s p t (A7 s p t):=by
 have a:(Ay s && AJ p && Ay t)=true:=by
  unfold A7 at h;split at h
  ·assumption
  ·omega
 simp only[d4]at a;exact⟨a.1.1,a.1.2,a.2,rfl⟩
theorem IW{s t:Sys}{p:A5}(h:A7 s p t<0):CP s t p=⟨3,Up,[],0⟩:=by unfold CP;rw[if_pos h]
abbrev lv:Sys:=⟨0,1,[]⟩
theorem KN{t:CW}(ht:Bu t=true){w:List Int}(b:∀l∈w,l∈Ac t.al):LS t (DD w)=true↔∀u,KG t u->Bl t.al u <+: w->Cp t.s u->C5 t.q u=true:=by
 constructor
 ·intro h u a f e
  cases d:C5 t.q u
  ·rw[(HA ht b).2 ⟨u,a,f,e,d⟩]at h;cases h
  ·rfl
 ·intro h
  cases a:LS t (DD w)
  ·obtain⟨u,j,i,g,c⟩:=(HA ht b).1 a
   rw[h u j i g]at c;cases c
  ·rfl
section
variable {t:Sys}{p:A5}{al:Int}(hI:Df lv p t al)
include hI
end
theorem TT{s t:Sys}{p:A5}(h:(CP s t p).code=0):¬A7 s p t<0:=λa=>by rw[IW a]at h;cases h
theorem Vw{s t:Sys}{p:A5}(h:(CP s t p).code=0):Df s p t (CP s t p).a.al/\AJ (CP s t p).a=true/\DH s t p (CP s t p).a=0:=by
 have hI:=Ia (TT h);obtain⟨x,b,_,d⟩:=XW hI;obtain⟨g,f,_⟩:=Lc hI b
 rcases d with ⟨e,c⟩|⟨e,_⟩|⟨e,_⟩
 ·rw[e]
  refine⟨⟨hI.hs,hI.hp,hI.ht,?_⟩,g,c⟩
  show (BL s p (A7 s p t) x).al=_
  rw[f]
 ·rw[e]at h;cases h
 ·rw[e]at h;cases h
theorem Hk{s t:Sys}{p a:A5}(hI:Df s p t a.al)(ha:AJ a=true):DH s t p a=0↔Gw s a p=true/\Dm [t] a=true:=by
 have b:=NO hI;unfold DH;rw[if_neg (not_or.2 ⟨b,by rw[ha];simp⟩),if_neg (λh=>h hI.hal)];cases Gw s a p<;>cases Dm [t] a<;>simp
theorem dV{s x t:Sys}{p:A5}(hs:Ay s=true)(hal:s.al=x.al)(i:∀w,Eb w->Cp s w->Cp x w)(h:(CP x t p).code=0):DH s t p (CP x t p).a=0:=by
 obtain⟨hI,ha,k⟩:=Vw h;generalize (CP x t p).a=a at *
 have b:Df s p t a.al:=⟨hs,hI.hp,hI.ht,by rw[hI.hal];unfold A7;rw[hs,hI.hs,hal]⟩
 obtain⟨c,g⟩:=(Hk hI ha).1 k;refine(Hk b ha).2 ⟨?_,g⟩
 have f:BQ x a p=true:=by unfold BQ;rw[hI.hs,ha,hI.hp];rfl
 have e:BQ s a p=true:=by unfold BQ;rw[hs,ha,hI.hp];rfl
 rw[Jt f,<-hal]at c;exact(Jt e).2 λw d j l=>c w d (i w (DK d) j) l
theorem gv{s x t:Sys}{p:A5}(ht:Ay t=true)(hal:t.al=x.al)(j:∀w,Eb w->Cp t w->Cp x w)(h:(CP s x p).code=0):DH s t p (CP s x p).a=0/\Dm [s,t] p=true:=by
 obtain⟨hI,ha,l⟩:=Vw h;generalize (CP s x p).a=a at *
 have c:Df s p t a.al:=⟨hI.hs,hI.hp,ht,by rw[hI.hal];unfold A7;rw[ht,hI.ht,hal]⟩
 obtain⟨i,d⟩:=(Hk hI ha).1 l
 have g:(AY [x] && AJ a)=true:=by rw[Dx,hI.ht,ha];rfl
 have f:(AY [t] && AJ a)=true:=by rw[Dx,ht,ha];rfl
 have b:DH s t p a=0:=(Hk c ha).2 ⟨i,by
  rw[FN g]at d;refine(FN f).2 λw e k=>d w ?_ (IK.2 (j w (DK e) (IK.1 k)));have:=(QX ht).1 e
  exact(QX hI.ht).2 (by rw[<-hal];exact this)⟩
 exact⟨b,(Se b).1⟩
section
variable {s t s' t':Sys}{p p':A5}{al:Int}(hI:Df s p t al)(hI':Df s' p' t' al)(hL:RK (LS ⟨s',p',al⟩) (LS ⟨s,p,al⟩) al)
include hI hI' hL
theorem JC{x:A9}{r:Nat}(a:El s p al x r):El s' p' al x r/\BL s' p' al x=BL s p al x:=by
 obtain⟨_,_,c,b,_⟩:=EU a.v;rw[Ga,Cy]at c;have hb:=b.bd;rw[Cy]at hb;refine⟨⟨?_,?_,a.rows,a.cols⟩,RU hL hb (by omega)⟩
 ·rw[<-Ff,OO hI',Ga,Cy,mz,OT hL];exact c
 ·rw[PT hL hb (by omega)];exact a.o
theorem UI{x:A9}{r:Nat}(b:El s p al x r){w:W}(f:AO (Bg al) w)(i:w.length<=4000):Jh (EE s' p' al) x w=Jh (EE s p al) x w:=by
 obtain⟨a,_⟩:=JC hI hI' hL b;obtain⟨_,_,m,d,_⟩:=EU b.v;have hb:=d.bd;rw[Cy]at hb;obtain⟨_,_,_,e⟩:=Lc hI b
 have l:(CU (EE s p al) && Dv (Cv (EE s p al)) (Bc (EE s p al)) x)=true:=by rw[Lf b.v,Ga,Cy,b.o];rfl
 have k:(CU (EE s' p' al) && Dv (Cv (EE s' p' al)) (Bc (EE s' p' al)) x)=true:=by rw[Lf a.v,Ga,Cy,a.o];rfl
 unfold Jh;rw[l,k,Cy,Cy,Ga,Ga,mz];by_cases h:Ju al w=true
 ·rw [if_pos h,if_pos h]
  unfold Fv;rw[UH hL hb (by omega) e f (by omega)]
  cases hs:Dd (LS ⟨s,p,al⟩) x w with
  | none=>rw[oK,oK]
  | some v=>
   rw[mJ,mJ]
   cases ha:GH x v with
   | none=>rw[oK,oK]
   | some u=>
    rw[mJ,mJ];obtain⟨z,_,rfl⟩:=Hx hs;have g:=MO hb (λc j=>f c (by simp[j])) (by simp at i;omega) ha;exact Jo hL 13 g (by omega)
 ·rw[if_neg h,if_neg h]
theorem Xz:UJ s' p' al=UJ s p al:=by
 have e:QS (EE s' p' al)=QS (EE s p al):=by
  unfold QS;rw[OO hI',OO hI,if_pos rfl,if_pos rfl,Ga,Ga,Cy,Cy];exact Jo hL 13 (IT al) (by omega)
 unfold UJ;rw[e]
end
theorem LI{s t:Sys}{p:A5}{al:Int}(hI:Df s p t al){x:A9}{r:Nat}(c:El s p al x r){w:W}{b:Bool}(h:EI s t p al (BL s p al x)=some (w,b)):AO (Bg al) w:=by
 obtain⟨g,a,_⟩:=Lc hI c;unfold EI at h;split at h
 ·rename_i u e
  injection h with h;injection h with h f
  subst h;exact bt (UQ hI g a e).1
 ·split at h
  ·rename_i v d
   injection h with h;injection h with h f
   subst h;have:=(TQ d).1;rw[a]at this;exact bt this
  ·cases h
theorem Qc{s t s' t':Sys}{p p':A5}{al:Int}(hI:Df s p t al)(hI':Df s' p' t' al)(hL:RK (LS ⟨s',p',al⟩) (LS ⟨s,p,al⟩) al)
 (l:∀(x:A9) (r:Nat),El s p al x r->Dt s' (BL s p al x) p'=Dt s (BL s p al x) p) (m:∀(x:A9) (r:Nat),El s p al x r->Cn [t'] (BL s p al x)=Cn [t] (BL s p al x)) (n:Cn [s',t'] p'=Cn [s,t] p):CP s' t' p'=CP s t p:=by
 have c:∀ {x:A9} {r:Nat},El s p al x r->EI s' t' p' al (BL s p al x)=EI s t p al (BL s p al x):=λ{x r} a=>by
  unfold EI;rw[l x r a,m x r a]
 have e:∀ {x:A9} {r:Nat},El s p al x r->∀ {w b},EI s t p al (BL s p al x)=some (w,b)->LS ⟨s',p',al⟩ w=LS ⟨s,p,al⟩ w:=λ{x r} a {w b} h=>
  hL w (LI hI a h) (by have:=IP h;omega)
 have g:∀ {x:A9} {r:Nat},El s p al x r->Fx s' t' p' al x=Fx s t p al x:=λ{x r} a=>by
  unfold Fx;rw[(JC hI hI' hL a).2,c a]
  cases h:EI s t p al (BL s p al x) with
  | none=>rfl
  | some wb=>
   obtain⟨w,b⟩:=wb;simp only;rw[e a h,UI hI hI' hL a (LI hI a h) (IP h)]
 have f:∀(k:Nat) {x:A9} {r:Nat},El s p al x r->Dr s' t' p' al k x=Dr s t p al k x:=λk=>by
  induction k with
  | zero=>exact λ_=>rfl
  | succ k i=>
   intro x r a;simp only[Dr];rw[g a]
   cases j:Fx s t p al x with
   | none=>rfl
   | some y=>
    simp only;rw[i (QV a j).1]
 have d:Cf s' t' p' al=Cf s t p al:=by
  unfold Cf;rw[Xz hI hI' hL];exact f 11 (Nh (DU hI)).2
 obtain⟨x,o,a,_⟩:=SY hI;unfold CP;rw[if_neg (NO hI),if_neg (NO hI'),<-hI.hal,<-hI'.hal,d,o];unfold Mm;rw[(JC hI hI' hL a).2,c a,n]
 cases h:EI s t p al (BL s p al x) with
 | none=>rfl
 | some wb=>
  obtain⟨w,b⟩:=wb;simp only;rw[e a h]
def LK(al:Int)(w:W):W:=w.filter (Pa al)
theorem Zd{al l:Int}(h:0<=l/\l<6):Pa al (UInt8.ofNat (97+l.toNat))=AT al l.toNat:=by
 have a:(UInt8.ofNat (97+l.toNat)).toNat=97+l.toNat:=by simp;omega
 have c:=Sq al (UInt8.ofNat (97+l.toNat))
 have b:MG (UInt8.ofNat (97+l.toNat))=true:=by rw[JU,a,decide_eq_true_eq];omega
 rw[<-c,if_pos b,a];unfold hasB;rw[show ((97+l.toNat:Nat):Int)-97=l by omega,decide_eq_true h.1];rfl
theorem Ot{al:Int}:∀ {u:List Int},Eb u->LK al (DD u)=DD (Bl al u)
 | [],_=>rfl
 | l::u,b=>by
  have a:=Ot (al:=al) (u:=u) (λx c=>b x (by simp[c]));have d:=Zd (al:=al) (b l (by simp));unfold LK DD Bl at *;rw[mP,oy,oy,d];cases AT al l.toNat
  ·simpa using a
  ·simpa using a
theorem az(al:Int)(w:W):(LK al w).length<=w.length:=nr _ _
theorem XI{al:Int}{w:W}{k:Nat}{c:UInt8}(a:w[k]?=some c):LK al (w.take (k+1))=if Pa al c then LK al (w.take k)++[c] else LK al (w.take k):=by
 unfold LK;rw[gt,a,Option.toList_some,mO];cases h:Pa al c<;>simp[h]
theorem XY{s:Sys}{a p:A5}{u:List Int}(h:Dt s a p=some u):Eb u/\(DD u).length<=2304:=by
 obtain⟨_,b,_⟩:=JE h;exact⟨DK b,by unfold DD;rw[f7];exact Qe h⟩
theorem XX{t:Sys}{a:A5}{u:List Int}(h:Cn [t] a=some u):Eb u/\(DD u).length<=192:=by
 obtain⟨_,_,b,_⟩:=Gg h;exact⟨DK b,by unfold DD;rw[f7];exact Qd h⟩
structure Yz (s s':Sys):Prop where
 ok:Ay s=true
 ok':Ay s'=true
 al:s.al=s'.al
 run:∀w,Eb w->(Cp s w↔Cp s' w)
theorem gu{s s' t:Sys}{p:A5}(h:Yz s s'):CP s' t p=CP s t p:=by
 have c:A7 s' p t=A7 s p t:=by unfold A7;rw[h.ok,h.ok',h.al]
 by_cases i:A7 s p t<0
 ·rw[IW i,IW (by rw[c];exact i)]
 ·have hI:=Ia i
  have hI':Df s' p t (A7 s p t):=⟨h.ok',hI.hp,hI.ht,c.symm⟩
  have d:CR ⟨s',p,A7 s p t⟩=CR ⟨s,p,A7 s p t⟩:=by
   show (Ac s'.al).filter _=(Ac s.al).filter _
   rw[h.al]
  refine Qc hI hI' (λw z q=>?_) (λy r x=>?_) (λy r x=>rfl) ?_
  ·obtain⟨v,o,rfl⟩:=fq z
   rw[mZ,KN (DU hI') o,KN (DU hI) o]
   have a:∀u,KG ⟨s',p,A7 s p t⟩ u↔KG ⟨s,p,A7 s p t⟩ u:=λu=>by unfold KG;rw[d]
   have b:∀u,KG ⟨s,p,A7 s p t⟩ u->Eb u:=λu g l q=>by
    rcases g l q with h|h
    ·have:=DT (DU hI) h;omega
    ·have:=Ai h;omega
   constructor
   ·exact λj u e m k=>j u ((a u).2 e) m ((h.run u (b u e)).1 k)
   ·exact λj u e m k=>j u ((a u).1 e) m ((h.run u (b u ((a u).1 e))).2 k)
  ·refine Tv (by unfold BQ;rw[h.ok,h.ok']) h.al.symm λ_ w f _=>?_
   rw[h.run w f]
  ·refine Iv (by rw[Ei,Ei,h.ok,h.ok']) (λi=>?_) λ_ w f=>?_
   ·exact Gy λn f=>by rw[Iz h.ok' hI.ht (by omega),Iz h.ok hI.ht (by omega),h.al]
   ·rw[IV,IV,h.run w f]
theorem fX{s s' t:Sys}{p:A5}(h:Yz s s'):CP t s' p=CP t s p:=by
 have b:A7 t p s'=A7 t p s:=by unfold A7;rw[h.ok,h.ok',h.al]
 by_cases c:A7 t p s<0
 ·rw[IW c,IW (by rw[b];exact c)]
 ·have hI:=Ia c
  have hI':Df t p s' (A7 t p s):=⟨hI.hs,hI.hp,h.ok',b.symm⟩
  refine Qc hI hI' (λw e f=>rfl) (λy r d=>rfl) (λy r d=>?_) ?_
  ·refine Iv (by rw[Dx,Dx,h.ok,h.ok']) (λc=>?_) λ_ w a=>?_
   ·exact Gy λn a=>by rw[MQ h.ok' (by omega),MQ h.ok (by omega),h.al]
   ·rw[IK,IK,h.run w a]
  ·refine Iv (by rw[Ei,Ei,h.ok,h.ok']) (λc=>?_) λ_ w a=>?_
   ·exact Gy λn a=>by rw[Iz hI.hs h.ok' (by omega),Iz hI.hs h.ok (by omega),h.al]
   ·rw[IV,IV,h.run w a]
end Go.Am
namespace Go.Am
open Go Go.Proofs
set_option maxHeartbeats 1000000
set_option maxRecDepth 4000
attribute [local irreducible] A1 Cr Lex Bs Aj Spec
variable {TB:BA}
theorem O5{c:C}{L:W->Bool}{ok:W->Prop}(H:IY Tryz.prog TB c L ok)(al:Int)(t:A9)(V:HQ ok (Bg al) t)(ht:Gb al 20012 t)(ho:Bx L (Bg al) t=none) :
 AH Tryz.prog TB 68 0 [] 0 [HW al c,HX t] (JH (Bm L al t)):=by
 have b:=EA c H.BY;have hrl:=ht.rl;have hcl:=ht.cl;have hla:(Ac al).length<=6:=AQ al 6;have h:=ht.eo V (by omega)
 have K:(Bm L al t).nx.length=t.rows.length:=by simp[Bm]
 have hal:(Bm L al t).ac.length=t.rows.length:=by simp[Bm]
 refine AH.A3 (AH.Pg (m:=0) (ce rfl) Tryz.func68 rfl (by kernel_rfl) (ce rfl) ?_);intro Γ a;(repeat first|refine aU rfl ?_);(refine pW rfl ?_ rfl (by rfl);refine CY rfl rfl ?_);(refine Ag rfl ?_;refine CO (λ_ _=>Ec rfl rfl rfl) rfl ?_);(repeat first|refine tA rfl ?_|refine aU rfl ?_|apply Aa);(refine pW rfl ?_ rfl (by rfl);refine Af [] rfl rfl (Gz H al t h.1) ⟨rfl,by simp,by simp⟩ (by simp[Ey,E.A3,C.Ch,C.A3,b,eC]) trivial ?_;rintro x0 X Y ⟨rfl,rfl,rfl⟩ _);(repeat first|refine tA rfl ?_|refine aU rfl ?_|apply Aa);(refine pW rfl ?_ rfl (by rfl);refine Ly 1 1 63 2 1 4 rfl rfl (by decide) rfl rfl (by rfl) (by rfl) ?_);(repeat first|refine sN rfl ?_|refine tA rfl ?_|refine aU rfl ?_|apply Aa);apply aB;refine Aj.aV 3 ?_;refine aL (α:={s:Nat×HG // s.1<=t.rows.length/\s.2.map (·.2)=(Bm L al t).nx.take s.1}) [2,3,4,5,6,19,20] [0,1,2] rfl rfl (λs=>[(21,eI .i64 s.1.1)]) (λs=>[(5,.cells 29 3 [[.d (iD al),.arr 3 1 0 s.1.2.length,.arr 4 1 0 s.1.1]]),(3,.cells 63 1 (AB s.1.2)),(4,.cells 4 1 (((Bm L al t).ac.take s.1.1).map AN)),(6,.sld 3 (sI s.1.2))]) 7 (λs=>t.rows.length-s.1.1) (⟨⟨0,[]⟩,by simp,by simp⟩) a rfl (by (simp[cX,zC,a,cN,b,eC,Bt,Ae]<;>rfl)) ?_;rintro⟨⟨k,l⟩,B,A⟩;(try dsimp only[cA,cB]);have B:k<=t.rows.length:=B;have A:l.map (·.2)=(Bm L al t).nx.take k:=A
 have hll:l.length=k:=by have:=congrArg List.length A;simp at this;omega
 by_cases R:k<t.rows.length
 ·obtain⟨r,u⟩:=get_some (l:=t.rows) (k:=k) R
  have hx':=get_map (g:=FX) u;have e:=co u;(repeat first|refine s2 rfl λ_ q=>?_|refine aU rfl ?_|apply Aa)
  ((refine aC rfl ?_ ?_<;>rintro⟨⟩);all_goals try(exfalso;(simp only[oZ] at *;omega)))
  apply aK;refine aS (aB ?_);(repeat first|refine tM rfl ?_|(refine s4 rfl ‹_› rfl ?_ ?_;omega)|refine aU rfl ?_|apply Aa);(refine pW rfl ?_ rfl (by rfl);refine Gl 1 3 ?_);(repeat first|refine sN rfl ?_|refine tM rfl ?_|refine sP rfl (Cj al) rfl ?_|refine aU rfl ?_|apply Aa);apply aB;refine aL (α:={j:Nat // j<=(Ac al).length}) [2,3,4,5,6,8,19,20,21,27,28] [0,1,2,3,4,5,6] rfl rfl (λs=>[(9,.o (.arr 7 1 0 s.1)),(29,eI .i64 s.1)]) (λs=>[(7,.cells 3 1 (((Ac al).take s.1).map λl=>[.d (iD ((DN L t (r++[lb l]):Nat):Int))]))]) 8 (λs=>(Ac al).length-s.1) (⟨0,by omega⟩) a rfl (by (simp[cX,zC,a,cN,b,eC])) ?_;rintro⟨j,G⟩;(try dsimp only[cA,cB]);have G:j<=(Ac al).length:=G;by_cases F:j<(Ac al).length
  ·obtain⟨m,P⟩:=get_some F
   have hm':=get_map (g:=DJ) P;have n:=co P;have z:=Ai n;have hrb:=ht.onR r e;have N:=Kl (TB:=TB) H al t (r++[lb m]) (by omega) (λx u=>h.2 r e _ (d8.2 ⟨m,n,rfl⟩) x u) (λy Z=>by have:=(ht.onC y Z).2;simp;omega);have S:=Sw ho e n;(repeat first|refine s2 rfl λ_ q=>?_|refine aU rfl ?_|apply Aa)
   ((refine aC rfl ?_ ?_<;>rintro⟨⟩);all_goals try(exfalso;(simp only[oZ] at *;omega)))
   apply aK;refine aS (aB ?_);(repeat first|refine tA rfl ?_|(refine s4 rfl ‹_› rfl ?_ ?_;omega)|refine aU rfl ?_|apply Aa);refine rG (Hf [13]) (by kernel_rfl) ?_;(repeat first|(refine sA rfl ?_ ?_;first|exact tI|omega|simp only[oZ] at *;omega)|refine sP rfl (ET m z.1 (by omega)) rfl ?_|(refine Ag rfl ?_;refine gA rfl ?_;first|refine gS (λ_ _=>Uw rfl (by omega) (by omega)) ?_));rw[Zk z.1];(repeat first|(refine Ag rfl ?_;refine gA rfl ?_;first|refine gS (λ_ _=>Be rfl rfl (by simp[E.BY,C.C7,C.BY,H.BY,eC]) N rfl) ?_|refine gQ (VT rfl rfl rfl) (by rfl) ?_));(repeat first|refine tA rfl ?_);(refine pW rfl ?_ rfl (by rfl);refine Al rfl rfl rfl (by first|(simp;done)|(simp;(omega))) rfl (by intro r b;simp at b;subst b;rfl) (by rfl) (ce rfl) (by simp;omega) ?_);(repeat first|(refine sA rfl ?_ ?_;first|exact tI|omega)|refine aU rfl ?_|apply Aa);rw[S];refine⟨⟨j+1,by omega⟩,by dsimp only;(omega),[0,1,2,3,4,5,6,8],?_⟩;simp[cX,zC,a,cN,b,gt,P]
  ·obtain rfl:j=(Ac al).length:=by omega
   have I:=V r ⟨r,e,[],.inl rfl,[],.inl rfl,by simp⟩
   have J:(Bm L al t).nx.take (k+1)=(Bm L al t).nx.take k++[(Ac al).map λl=>((DN L t (r++[lb l]):Nat):Int)]:=by
    rw[gt];simp[Bm,u]
   have p:(Bm L al t).ac.take (k+1)=(Bm L al t).ac.take k++[L r]:=by
    rw[gt];simp[Bm,u]
   rw[jp];generalize f:(Ac al).map (λl=>((DN L t (r++[lb l]):Nat):Int))=row at *
   have w:(Ac al).length=row.length:=by rw[<-f];simp
   have M:(Ac al).map (λl=>[C.d (iD ((DN L t (r++[lb l]):Nat):Int))])=row.map A8:=by rw[<-f,mu];rfl
   (repeat first|refine s2 rfl λ_ q=>?_|refine aU rfl ?_|apply Aa)
   ((refine aC rfl ?_ ?_<;>rintro⟨⟩);all_goals try(exfalso;(simp only[oZ] at *;omega)))
   apply aE;(repeat first|refine tX rfl ?_|refine aU rfl ?_);(refine pW rfl ?_ rfl (by rfl);refine Br rfl rfl rfl rfl (by simp[eC]) (by rfl) (by rfl) (by rfl) (by rfl) ?_);(refine pW rfl ?_ rfl (by rfl);refine Al rfl rfl rfl (Cu _) rfl (by intro r b;simp at b;subst b;rfl) (by rfl) (ce rfl) (by simp;omega) ?_);(repeat first|refine tX rfl ?_|apply Aa);refine Aj.Aw [2,3,4,5,6,8,19,20,21] [0,1,2,4] rfl rfl [] [(3,.cells 63 1 (AB l++[[.arr 7 1 0 row.length]])),(5,.cells 29 3 [[.d (iD al),.arr 3 1 0 (l.length+1),.arr 4 1 0 k]]),(6,.sld 3 (sI l)),(7,.cells 3 1 (row.map A8))] [0,1,2,9,4,5,6,7] (rl a rfl) (by (simp[cX,zC,a,cN,b,Bt,Ae,eC,w,M])) ?_;(try dsimp only[cA,cB]);refine Aj.Rm 3 7 6 l row rfl rfl rfl λv=>?_;refine rG (Hf [7,9]) (by kernel_rfl) ?_;(repeat first|refine tA rfl ?_|(refine Ag rfl ?_;refine gA rfl ?_;first|refine gS (λ_ _=>H.ask rfl rfl I) ?_));(refine pW rfl ?_ rfl (by rfl);refine Al rfl rfl rfl (by first|(simp;done)|(simp;(omega))) rfl (by intro r b;simp at b;subst b;rfl) (by rfl) (ce rfl) (by simp;omega) ?_);(repeat first|(refine sA rfl ?_ ?_;first|exact tI|omega)|refine aU rfl ?_|apply Aa);refine⟨⟨⟨k+1,l++[(v,row)]⟩,by dsimp only;omega,by dsimp only;rw[mE,A,J];rfl⟩,by dsimp only;(omega),[0,1,2,3,8,5,6],?_⟩;simp[cX,zC,a,cN,b,eC,Bt,Ae,p]
 ·have T:k=t.rows.length:=by omega
  (repeat first|refine s2 rfl λ_ q=>?_|refine aU rfl ?_|apply Aa)
  ((refine aC rfl ?_ ?_<;>rintro⟨⟩);all_goals try(exfalso;(simp only[oZ] at *;omega)))
  apply aE;(repeat first|refine tA rfl ?_|refine aU rfl ?_|apply Aa)
  have Q:l.map (·.2)=(Bm L al t).nx:=by rw[A,T,<-K,jp]
  have U:l.length=t.rows.length:=by omega
  have p:(Bm L al t).ac.take k=(Bm L al t).ac:=lF (by rw[hal];omega);rw[p]
  obtain rfl:k=(Bm L al t).ac.length:=by omega
  refine aR ⟨_,rfl,[3,4,6],TW al 0 1 l.length (Bm L al t).ac.length,[(0,.cells 63 1 (AB l)),(1,.cells 4 1 ((Bm L al t).ac.map AN)),(2,.sld 3 (sI l))],⟨by intro i hi;omega,by decide⟩,rfl,by (simp[cX,zC,a,cN]),l,Q,rfl,rfl,rfl⟩
section
variable {tabs:List (Nat×Obj)}[hTb:CG ⟨tabs,none⟩]{te:HS}
include hTb
end
end Go.Am
namespace Go.Am
open Go Go.Proofs
theorem Tp{s t:Sys}{p:A5}{al:Int}:∀(k:Nat) (x:A9),(Dr s t p al k x).length<=k+1
 | 0,x=>by simp[Dr]
 | k+1,x=>by
  simp only[Dr]
  cases Fx s t p al x with
  | none=>simp
  | some y=>have:=Tp (s:=s) (t:=t) (p:=p) (al:=al) k y;simp only[me];omega
def RT(s t:Sys)(p:A5)(al:Int)(x:A9)(v:W):Prop:=Mb (Bg al) x v\/∃w b,EI s t p al (BL s p al x)=some (w,b)/\(v=w\/Vk (LS ⟨s,p,al⟩) (Bg al) x w v)
theorem Ww{s t:Sys}{p:A5}{al:Int}(h:Bu ⟨s,p,al⟩=true){x:A9}(a:x∈Cf s t p al):∃r,El s p al x r:=by
 obtain⟨i,hi⟩:=List.mem_iff_getElem?.1 a;exact⟨_,OL 11 (Nh h).2 i x hi⟩
theorem RC{s:Sys}{p:A5}{al:Int}{x:A9}{r:Nat}(b:El s p al x r):Gb al 20000 x:=by
 obtain⟨_,_,_,a,_⟩:=EU b.v;have:=a.bd;rwa[Cy]at this
section
variable {s t:Sys}{p:A5}{al:Int}(hI:Df s p t al)(h:Bu ⟨s,p,al⟩=true)
include hI h
theorem WU{x:A9}(g:x∈Cf s t p al):Ej 288238 (RT s t p al x):=by
 obtain⟨r,e⟩:=Ww h g;have hb:=RC e;refine((Li hb).or (b:=286474) ?_).sub (b:=288238) (λv c=>c) (by omega)
 cases f:EI s t p al (BL s p al x) with
 | none=>exact .none λv ⟨w,b,a,_⟩=>by cases a
 | some wb=>
  obtain⟨w,b⟩:=wb;have d:=LI hI e f;have i:=IP f;refine((Ej.map (n:=1) (p:=λv=>v=w) (λ_:Unit=>w) [()] (by simp) λv c=>⟨(),by simp,c⟩).or (Xf (L:=LS ⟨s,p,al⟩) hb d (by omega))).sub (b:=286474) (λv ⟨w',b',a,c⟩=>?_) (by omega)
  injection a with a
  injection a with a _
  subst a;exact c
theorem bO{x:A9}(k:x∈Cf s t p al)(v:W)(a:RT s t p al x v):okB al v:=by
 obtain⟨r,f⟩:=Ww h k;have hb:=RC f
 rcases a with a|⟨w,b,g,a⟩
 ·exact hb.on (Ih al) (by omega) v a
 ·have d:=LI hI f g
  have e:=IP g
  rcases a with rfl|a
  ·exact⟨d,by omega⟩
  ·rcases a with a|a|⟨z,i,u,l,y,j,a⟩
   ·exact hb.on (Ih al) (by omega) v a
   ·exact(hb.mono (by omega)).lr (Ih al) d (by omega) v a
   ·obtain⟨q,_,rfl⟩:=Hx i
    exact(MO hb (λc m=>d c (by simp[m])) (by simp at e;omega) l).kM (Ih al) (by omega) y j v a
theorem bN:∃ok:W->Prop,(∀w,ok w->gp al w)/\RD (EE s p al) ok/\(∀y∈Ep (LS ⟨s,p,al⟩) (Bg al) 13 BU,HQ ok (Bg al) y)/\
 ∀x∈Cf s t p al,HQ ok (Bg al) x/\∀w b,EI s t p al (BL s p al x)=some (w,b)->ok w/\∀v,Vk (LS ⟨s,p,al⟩) (Bg al) x w v->ok v:=by
 have i:=Px (L:=LS ⟨s,p,al⟩) (IT al);have g:Ej (12*288238) (λv=>∃x∈Cf s t p al,RT s t p al x v):=Ej.ex (n:=12) (b:=288238) (q:=λx v=>RT s t p al x v) (Cf s t p al) (Tp 11 _) (λx c=>WU hI h c) λw d=>d;have l:=i.or g
 have e:∀w,((∃y∈Ep (LS ⟨s,p,al⟩) (Bg al) 13 BU,Mb (Bg al) y w)\/∃x∈Cf s t p al,RT s t p al x w)->okB al w:=λw d=>by
  rcases d with ⟨y,f,a⟩|⟨x,c,a⟩
  ·exact(IT al).kM (Ih al) (by omega) y f w a
  ·exact bO hI h c w a
 obtain⟨k,m⟩:=dA (te:=EE s p al) l (by omega) (λw d=>by rw[Cy];exact e w d);rw[Cy]at k;exact⟨_,k,m,λy f v a=>.inl ⟨y,f,a⟩,λx c=>⟨λv a=>.inr ⟨x,c,.inl a⟩,λw b j=>⟨.inr ⟨x,c,.inr ⟨w,b,j,.inl rfl⟩⟩,λv a=>.inr ⟨x,c,.inr ⟨w,b,j,.inr a⟩⟩⟩⟩⟩
end
theorem Ja{σ:Ab}{T U S:TypeId}{i j k n m:Nat}{al:Int}{l:HG}{nx:List (List Int)}{ac:List Bool}(h:look σ i=some (.cells T 1 (AB l)))(g:look σ j=some (.cells U 1 (ac.map AN)))(f:look σ k=some (.sld S (sI l)))(e:l.map (·.2)=nx)(b:l.length=n)(c:ac.length=m):EZ σ (.a [.d (iD al),.arr i 1 0 n,.arr j 1 0 m]) (.a [.d (iD al),.d (Er nx),.d (GK ac)]):=by
 subst b c e;exact .a (ds:=[iD al,Er (l.map (·.2)),GK ac]) (.cons .d (.cons (.ML h f) (.cons (.full g (by simp[d7]) (f7 _)) .nil)))
end Go.Am
namespace Go.Am
open Go Go.Proofs
set_option maxHeartbeats 1000000
set_option maxRecDepth 4000
attribute [local irreducible] A1 Cr Lex Bs Aj Spec
noncomputable def CX(s t:Sys)(p:A5)(al:Int)(k:Nat):A9:=(Cf s t p al).getD k ⟨[],[]⟩
abbrev jt(v:Vd):List D:=[iD v.code,iD v.a.al,Er v.a.nx,GK v.a.ac,tD v.tr,iD v.rd]
abbrev eF(v:Vd):E:=.a [.d (iD v.code),.d (iD v.a.al),.d (Er v.a.nx),.d (GK v.a.ac),.d (tD v.tr),.d (iD v.rd)]
section
variable {s t:Sys}{p:A5}{al:Int}(hI:Df s p t al)
include hI
theorem dv{x:A9}{r:Nat}(b:El s p al x r){w:W}(c:AO (Bg al) w)(d:w.length<=4000):Jh (EE s p al) x w=Fv (LS ⟨s,p,al⟩) (Bg al) x w:=by
 have e:(CU (EE s p al) && Dv (Cv (EE s p al)) (Bc (EE s p al)) x)=true:=by
  rw[Lf b.v,Ga,Cy,b.o];rfl
 have a:Ju (Bc (EE s p al)) w=true:=by rw[Cy];exact VD (Sp hI) c d
 unfold Jh;rw[e,a,o9,if_pos rfl,Ga,Cy]
theorem ZD{x:A9}{r:Nat}(a:El s p al x r){w:W}{b:Bool}(h:EI s t p al (BL s p al x)=some (w,b))(hb:(b || LS ⟨s,p,al⟩ w)=true):Fx s t p al x=Fv (LS ⟨s,p,al⟩) (Bg al) x w:=by
 unfold Fx;rw[h];simp only[hb,if_true];exact dv hI a (LI hI a h) (IP h)
omit hI in
theorem Iu{k:Nat}(h:k<(Cf s t p al).length):(Cf s t p al)[k]?=some (CX s t p al k):=by
 unfold CX;rw[nT,d5 h];rfl
theorem OU{k:Nat}(h:k+1=(Cf s t p al).length):CP s t p=Mm s t p al (CX s t p al k) (k+1):=by
 unfold CP;rw[if_neg (NO hI),<-hI.hal,<-h]
 have e:(Cf s t p al).getLastD BU=CX s t p al k:=by
  rw[List.getLastD_eq_getLast?,List.getLast?_eq_getElem?,<-h,Nat.add_sub_cancel,Iu (by omega)];rfl
 rw[e]
theorem aF{k:Nat}(h:k<(Cf s t p al).length):El s p al (CX s t p al k) (k+1)/\
    ((EI s t p al (BL s p al (CX s t p al k))=none/\CP s t p=⟨0,BL s p al (CX s t p al k),[],(k:Int)+1⟩/\k+1=(Cf s t p al).length)\/
      ∃ w b,EI s t p al (BL s p al (CX s t p al k))=some (w,b)/\AO (Bg al) w/\w.length<=4000/\
        ((b = false/\LS ⟨s,p,al⟩ w=false/\CP s t p=⟨1,Up,WT (Cn [s,t] p),(k:Int)+1⟩/\k+1=(Cf s t p al).length)\/
         ((b=true\/LS ⟨s,p,al⟩ w=true)/\((Fv (LS ⟨s,p,al⟩) (Bg al) (CX s t p al k) w=some (CX s t p al (k+1))/\k+1<(Cf s t p al).length)\/
           (Fv (LS ⟨s,p,al⟩) (Bg al) (CX s t p al k) w=none/\CX s t p al (k+1)=⟨[],[]⟩/\k+1=(Cf s t p al).length/\CP s t p=⟨2,Up,[],(k:Int)+1⟩))))):=by
  obtain⟨l,g⟩:=run_get hI (Iu h);refine⟨l,?_⟩
  have f:((k+1:Nat):Int)=(k:Int)+1:=by omega
  have a:Fx s t p al (CX s t p al k)=none->k+1=(Cf s t p al).length:=λe=>by
    rw[e]at g;have:=List.getElem?_eq_none_iff.1 g;omega
  cases d:EI s t p al (BL s p al (CX s t p al k)) with
  | none=>
    have e:Fx s t p al (CX s t p al k)=none:=by unfold Fx;rw[d]
    have c:=OU hI (a e);unfold Mm at c;rw[d,f]at c;exact .inl ⟨rfl,c,a e⟩
  | some wb=>
    obtain⟨w,b⟩:=wb;refine .inr ⟨w,b,rfl,LI hI l d,IP d,?_⟩;by_cases hb:(b || LS ⟨s,p,al⟩ w)=true
    · refine .inr ⟨by simpa using hb,?_⟩
      have e:=ZD hI l d hb
      cases i:Fv (LS ⟨s,p,al⟩) (Bg al) (CX s t p al k) w with
      | some y=>
        rw[i]at e;rw[e]at g;have j:=(am.1 g).1;refine .inl ⟨?_,j⟩;rw[Iu j]at g;exact g.symm
      | none=>
        rw[i]at e;have hk:=a e;have c:=OU hI hk;unfold Mm at c;rw[d]at c;simp only[hb,if_true,f]at c;refine .inr ⟨rfl,?_,hk,c⟩;unfold CX;rw[nT,lV (by omega)];rfl
    · have e:Fx s t p al (CX s t p al k)=none:=by unfold Fx;rw[d];simp only[hb];rfl
      have hk:=a e;have c:=OU hI hk;unfold Mm at c;rw[d]at c;simp only[hb,f]at c
      have hb:b=false/\LS ⟨s,p,al⟩ w=false:=by simpa using hb
      exact .inl ⟨hb.1,hb.2,c,hk⟩
theorem ak{a:A5}{w:W}{b:Bool}(h:EI s t p al a=some (w,b)):(∃u,b=true/\Dt s a p=some u/\LK al (DD u)=w/\Eb u/\(DD u).length<=2304)\/(∃u,b=false/\Dt s a p=none/\Cn [t] a=some u/\LK al (DD u)=w/\Eb u/\(DD u).length<=192):=by
 unfold EI at h;split at h
 ·rename_i u d
  injection h with h;injection h with h e
  obtain⟨c,f⟩:=XY d;exact .inl ⟨u,e.symm,d,(Ot c).trans h,c,f⟩
 ·rename_i d
  split at h
  ·rename_i v g
   injection h with h;injection h with h e
   obtain⟨c,f⟩:=XX g;exact .inr ⟨v,e.symm,d,g,(Ot c).trans h,c,f⟩
  ·cases h
omit hI in
theorem ao{a:A5}(h:EI s t p al a=none):Dt s a p=none/\Cn [t] a=none:=by
 unfold EI at h;split at h
 ·cases h
 ·rename_i c
  split at h
  ·cases h
  ·rename_i b
   exact⟨c,b⟩
theorem fQ:QS (EE s p al)=some (CX s t p al 0):=by
 obtain⟨b,_⟩:=Nh (s:=s) (p:=p) (al:=al) (DU hI);have a:=Iu (s:=s) (t:=t) (p:=p) (al:=al) (k:=0) (by have:=Rv hI;omega);rw[b];unfold Cf at a;simp only[Dr]at a
 simpa using a
end
end Go.Am
namespace Go.Am
open Go Go.Proofs
set_option maxHeartbeats 1000000
set_option maxRecDepth 4000
attribute [local irreducible] A1 Cr Lex Bs Aj Spec
variable {TB:BA}
abbrev dC(s:Sys)(p:A5)(t:Sys):CW×Bool:=if A7 s p t<0 then (⟨⟨0,0,[]⟩,⟨0,[],[]⟩,0⟩,false) else (⟨s,p,A7 s p t⟩,true)
end Go.Am
namespace Go.Am
theorem within_iff{s t:Sys}{g:Gr}(hs:Ay s=true)(ht:Ay t=true)(hal:s.al=t.al)(hg:jw s t g):Cs g=none↔∀w,Eb w->Cp s w->Cp t w:=by
 have hi:=C6 g;constructor
 ·intro h w f e
  rw[h]at hi
  have d:Bl s.al (Bl s.al w)=Bl s.al w:=by simp[Bl]
  have b:∀l∈Bl s.al w,l∈Ac s.al:=λl b=>by
   have a:=lw.1 b;have m:=f l a.1;have k:=(CK (s:=s.al) (n:=6) (l:=l.toNat)).2 ⟨by omega,a.2⟩;rwa[mB m.1]at k
  have c:=hi (Bl s.al w) (λl h=>by rw[hg.ls];exact b l h);rw[Y9 hs ht hal hg b,FW d]at c;have a:Cp t (Bl s.al w):=Classical.byContradiction λj=>c ⟨e,j⟩;rw[hal]at d a;exact(FW d).1 a
 ·intro h
  cases i:Cs g with
  | none=>rfl
  | some v=>
   obtain⟨e,c,_⟩:=Nl i
   have b:∀l∈v,l∈Ac s.al:=λl h=>by have:=e l h;rwa[hg.ls]at this
   have a:=(Y9 hs ht hal hg b).1 c;exact absurd (h v (DK b) a.1) a.2
end Go.Am
namespace Go.Am
open Go Go.Proofs
set_option maxHeartbeats 1000000
set_option maxRecDepth 4000
attribute [local irreducible] A1 Cr Lex Bs Aj Spec
noncomputable def Di(s t:Sys):Bool:=Ay s && Ay t && decide (s.al=t.al) && @decide (∀w,Eb w->Cp s w->Cp t w) (Classical.propDecidable _)
def Fs(s t:Sys):Bool:=Ay s && Ay t && decide (s.al=t.al)
theorem Sv{s t:Sys}(h:Fs s t=true):Ay s=true/\Ay t=true/\s.al=t.al:=by
 unfold Fs at h;simp only[d4,decide_eq_true_eq]at h;exact⟨h.1.1,h.1.2,h.2⟩
theorem bx{s t:Sys}(h:Fs s t=false):Di s t=false:=by
 unfold Di;unfold Fs at h;rw[h,Bool.false_and]
theorem OX{s t:Sys}(h:Di s t=true):Ay s=true/\Ay t=true/\s.al=t.al/\∀w,Eb w->Cp s w->Cp t w:=by
 unfold Di at h;simp only[d4,decide_eq_true_eq]at h;exact⟨h.1.1.1,h.1.1.2,h.1.2,h.2⟩
theorem Fz(s:Sys):∀(w:List Int) (m:Nat) (l:Int),Io s m (w++[l])=Bo s.es l (Io s m w)
 | [],m,l=>rfl
 | x::w,m,l=>Fz s w _ l
theorem Rw{s:Sys}(hs:Ay s=true)(l:Int)(m:Nat):Bo s.es l m<65536:=by
 have b:=J9 hs l m;have a:=AE hs;have:2 ^ s.st.toNat<=2 ^ 16:=mc (by omega) (by omega);omega
theorem WH{s:Sys}(hs:Ay s=true):∀e∈s.es,0<=e.f/\0<=e.t:=λe h=>by
 have a:=BT hs h;unfold CI at a;simp at a;omega
abbrev NN:=Nat×Nat
abbrev fy(s t:Sys)(p:NN)(l:Int):NN:=(Bo s.es l p.1,Bo t.es l p.2)
structure Gq (s t:Sys) (nd:List NN) (i j:Nat):Prop where
 st:nd[0]?=some (1,1)
 nodup:nd.Nodup
 lt:∀p∈nd,p.1<65536/\p.2<65536
 rc:∀p∈nd,∃w:List Int,(∀l∈w,l∈Ac s.al)/\Io s 1 w=p.1/\Io t 1 w=p.2/\p.1≠0
 ne:∀(k:Nat) p,k<i->nd[k]?=some p->p.2≠0
 cl:∀(k:Nat) p,nd[k]?=some p->∀(m:Nat) l,(Ac s.al)[m]?=some l->(k<i\/(k=i/\m<j))->Bo s.es l p.1=0\/fy s t p l∈nd
theorem Gq.start{s t:Sys}:Gq s t [(1,1)] 0 0:=by
 refine⟨rfl,by simp,by simp,λp a=>?_,λk p h=>absurd h (i8 _),λk p _ m l _ h=>by omega⟩;simp at a;subst a;exact⟨[],by simp,rfl,rfl,by decide⟩
theorem Gq.len{s t:Sys}{nd:List NN}{i j:Nat}(h:Gq s t nd i j):nd.length<=4294967296:=by
 have:=EP 4294967296 (nd.map λp=>((p.1*65536+p.2:Nat):Int)) (by
  unfold List.Nodup;rw[mR];refine h.nodup.imp_of_mem λ{a b} ha hb c g=>c ?_;have d:=h.lt a ha;have m:=h.lt b hb;obtain⟨r,q⟩:=a;obtain⟨o,n⟩:=b;simp only at g d m
  have l:r=o:=by omega
  have k:q=n:=by omega
  rw[l,k]) (λx e=>by
  obtain⟨p,f,rfl⟩:=d8.1 e;have d:=h.lt p f
  omega)
 simpa using this
theorem Gq.step{s t:Sys}(hs:Ay s=true)(ht:Ay t=true){nd:List NN}{i j:Nat}(h:Gq s t nd i j){p:NN}(hi:nd[i]?=some p){l:Int}(y:(Ac s.al)[j]?=some l) :
 (Bo s.es l p.1=0\/fy s t p l∈nd->Gq s t nd i (j+1))/\(Bo s.es l p.1≠0->fy s t p l∉nd->Gq s t (nd++[fy s t p l]) i (j+1)):=by
 have key:∀(k:Nat) q,nd[k]?=some q->∀(m:Nat) x,(Ac s.al)[m]?=some x->(k<i\/(k=i/\m<j+1))->(Bo s.es x q.1=0\/fy s t q x∈nd)\/(q=p/\x=l):=λk q hk m x d g=>by
  rcases g with g|⟨rfl,g⟩
  ·exact .inl (h.cl k q hk m x d (.inl g))
  ·rcases l5 m j with f|f
   ·exact .inl (h.cl k q hk m x d (.inr ⟨rfl,f⟩))
   ·have e:m=j:=by omega
    subst e
    rw[hi]at hk;injection hk with hk
    rw[y]at d;injection d with d
    exact .inr ⟨hk.symm,d.symm⟩
 refine⟨λv=>⟨h.st,h.nodup,h.lt,h.rc,h.ne,λk q hk m x d g=>?_⟩,λo r=>⟨?_,?_,?_,?_,?_,λk q hk m x d g=>?_⟩⟩
 ·rcases key k q hk m x d g with f|⟨rfl,rfl⟩
  ·exact f
  ·exact v
 ·rw[d9 (am.1 h.st).1];exact h.st
 ·exact nJ.2 ⟨h.nodup,by simp,λa ha b hb=>by simp at hb;subst hb;exact λe=>r (e▸ha)⟩
 ·intro q c
  rcases f6.1 c with c|c
  ·exact h.lt q c
  ·simp at c;subst c;exact⟨Rw hs _ _,Rw ht _ _⟩
 ·intro q c
  rcases f6.1 c with c|c
  ·exact h.rc q c
  ·simp at c;subst c
   obtain⟨w,f,A,z,_⟩:=h.rc p (co hi);refine⟨w++[l],λx n=>?_,by rw[Fz,A],by rw[Fz,z],o⟩
   rcases f6.1 n with n|n
   ·exact f x n
   ·simp at n;subst n;exact co y
 ·intro k q hk c
  have u:=(am.1 hi).1;rw[d9 (by omega)]at c;exact h.ne k q hk c
 ·have u:=(am.1 hi).1
  rw[d9 (by omega)]at hk
  rcases key k q hk m x d g with f|⟨rfl,rfl⟩
  ·exact f.imp id λf=>lP _ f
  ·exact .inr (by simp)
theorem Gq.next{s t:Sys}{nd:List NN}{i:Nat}(h:Gq s t nd i (Ac s.al).length){p:NN}(hi:nd[i]?=some p)(f:p.2≠0):Gq s t nd (i+1) 0:=by
 refine⟨h.st,h.nodup,h.lt,h.rc,λk q hk a=>?_,λk q hk m x c g=>?_⟩
 ·rcases l5 k i with b|b
  ·exact h.ne k q b a
  ·have e:k=i:=by omega
   subst e
   rw[hi]at a;injection a with a
   exact a▸f
 ·refine h.cl k q hk m x c ?_
  have b:=(am.1 c).1
  rcases l5 k i with d|d
  ·exact .inl d
  ·exact .inr ⟨by omega,b⟩
theorem dk{s:Sys}{w:List Int}(h:∀l∈w,l∈Ac s.al):Eb w/\Bl s.al w=w:=
 ⟨λl a=>by have:=Ai (h l a);omega,nU.2 λl a=>(Ai (h l a)).2.2⟩
theorem Gq.all{s t:Sys}(hs:Ay s=true)(ht:Ay t=true)(hal:s.al=t.al){nd:List NN}(h:Gq s t nd nd.length 0):Di s t=true:=by
 have key:∀(n:Nat) (w:List Int),w.length=n->(∀l∈w,l∈Ac s.al)->Io s 1 w≠0->(Io s 1 w,Io t 1 w)∈nd:=λn=>by
  induction n with
  | zero=>
   intro w a _ _;rw[oT a];exact co h.st
  | succ n g=>
   intro w a b c
   rcases List.eq_nil_or_concat w with rfl|⟨u,l,rfl⟩
   ·cases a
   ·rw[List.concat_eq_append] at *
    rw[Fz]at c;rw[Fz,Fz];have o:=g u (by simp at a;omega) (λx i=>b x (by simp[i])) (λA=>c (by rw[A];exact Uh _ _));obtain⟨k,hk,e⟩:=lO o;obtain⟨m,q,d⟩:=lO (b l (by simp));exact(h.cl k _ (by rw[d5 hk,e]) m l (by rw[d5 q,d]) (.inl hk)).resolve_left c
 unfold Di;rw[hs,ht,decide_eq_true hal];refine @decide_eq_true _ (Classical.propDecidable _) λw a p=>?_;have z:=(Hb (WH hs)).2 p;refine(Hb (WH ht)).1 ?_;rw[<-hal]
 have j:∀l∈Bl s.al w,l∈Ac s.al:=λl b=>by
  have f:=lw.1 b;have v:=a l f.1;have r:=(CK (s:=s.al) (n:=6) (l:=l.toNat)).2 ⟨by omega,f.2⟩;rwa[mB v.1]at r
 have y:=key _ _ rfl j z;obtain⟨k,hk,e⟩:=lO y;exact h.ne k _ hk (by rw[d5 hk,e])
theorem Gq.out{s t:Sys}(hs:Ay s=true)(ht:Ay t=true)(hal:s.al=t.al){nd:List NN}{i j:Nat}(h:Gq s t nd i j){p:NN}(hi:nd[i]?=some p)(d:p.2=0):Di s t=false:=by
 obtain⟨w,m,l,k,g⟩:=h.rc p (co hi);obtain⟨e,b⟩:=dk m;rw[oq];intro a;obtain⟨_,_,_,a⟩:=OX a;have f:=(Hb (WH hs) (w:=w)).1 (by rw[b,l];exact g);have c:=(Hb (WH ht)).2 (a w e f);rw[<-hal,b,k]at c;exact c d
theorem XZ{s t:Sys}{g:Gr}(hs:Ay s=true)(ht:Ay t=true)(hal:s.al=t.al)(hg:jw s t g):Di s t=(Cs g).isNone:=by
 unfold Di;rw[hs,ht,decide_eq_true hal];have h:=within_iff hs ht hal hg
 cases ha:Cs g with
 | none=>
  rw[ha]at h;exact @decide_eq_true _ (Classical.propDecidable _) (h.1 rfl)
 | some u=>
  rw[ha]at h
  exact @decide_eq_false _ (Classical.propDecidable _) λa=>by have:=h.2 a;cases this
theorem gr{s t:Sys}(c:Di s t=true)(b:Di t s=true):Yz s t:=by
 obtain⟨h,g,f,e⟩:=OX c;obtain⟨_,_,_,d⟩:=OX b;exact⟨h,g,f,λw a=>⟨e w a,d w a⟩⟩
end Go.Am
