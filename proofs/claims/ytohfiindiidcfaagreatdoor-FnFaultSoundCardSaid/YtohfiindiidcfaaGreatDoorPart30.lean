/-
  Which words are safe, plainly: an unsafe one is what is seen of a word that the system can do and the property rejects.
-/
import Derived.Test.YtohfiindiidcfaaGreatDoorPart26
import Derived.Test.YtohfiindiidcfaaGreatDoorPart27
set_option linter.all false
namespace Go.Am
open Go
theorem EI{c:LR}:∀ {u w:List Int} {q r:Int},Iz c (u++w) q r↔∃y,Iz c u q y/\Iz c w y r
 | [],w,q,r=>⟨λh=>⟨q,rfl,h⟩,λ⟨y,a,b⟩=>by have a:y=q:=a;subst a;exact b⟩
 | l :: u,w,q,r=>by
  constructor
  ·rintro⟨y,d,h⟩
   obtain⟨z,a,b⟩:=EI.1 h;exact⟨z,⟨y,d,a⟩,b⟩
  ·rintro⟨z,⟨y,d,a⟩,b⟩
   exact⟨y,d,EI.2 ⟨z,a,b⟩⟩
theorem Mn{s:Sys}(b:AR s=true):∀ {w:List Int} {q r:Int},0<=q/\q < s.st->Iz (Lb s) w q r->0<=r/\r < s.st
 | [],q,r,a,h=>by have h:r=q:=h;subst h;exact a
 | l::w,q,r,a,⟨y,c,h⟩=>Mn b (Ic b a.1 a.2 c) h
theorem P5{a:AU}(ha:AH a=true):∀ {w:List Int} {q:Int},(∀l∈w,0<=l/\l < 6)->0<=q/\q < a.nx.length->0<=CS (fA a) q w/\CS (fA a) q w < a.nx.length
 | [],q,_,c=>c
 | l::w,q,b,c=>by
  have d:=b l (by simp);exact P5 ha (w:=w) (λm e=>b m (by simp [e])) (Dp ha (q:=q.toNat) (by omega) d.1 d.2)
theorem WA{t:Eh}{F:PS}{u:W}{c:UInt8}:HF t F (u++[c])=FF t ((c.toNat:Int) - 97) (HF t F u):=by rw [RP];rfl
theorem Iv{s:Sys}{q l r:Int}(h:AP s.al l.toNat=true):r∈Bu s q l↔∃e∈s.es,e.f=q/\e.l=l/\e.t=r:=by
 unfold Bu;rw [if_pos h];simp only [f7,jv,d4,decide_eq_true_eq];constructor
 ·rintro⟨e,⟨d,c,b⟩,a⟩;exact⟨e,d,c,b,a⟩
 ·rintro⟨e,d,c,b,a⟩;exact⟨e,⟨d,c,b⟩,a⟩
section
variable {t:Eh}(ht:BB t=true)
include ht
theorem UW{F0:PS}(A:EE t F0){p j:Nat}:Qo t F0 p j↔∃(a b:Nat) (u:List Int),(F0 a).testBit b=true/\(∀l∈u,l∈DW t)/\Iz (Lb t.s) u b j/\(p:Int)=CS (fA t.q) a u:=by
 constructor
 ·intro h
  induction h with
  | @base p j hb=>exact⟨p,j,[],hb,by simp,rfl,rfl⟩
  | @step p j e i o n J r=>
   obtain⟨a,b,u,z,k,c,d⟩:=r;have I:=GX ht o;have hL:=Gf ht n;have g:=i.lt ht A;have H:=Dp (Di ht) g.1 hL.1 hL.2.1;refine⟨a,b,u++[e.l],z,λl x=>?_,?_,?_⟩
   ·rcases f6.1 x with h|h
    ·exact k l h
    ·simp at h;subst h;exact n
   ·refine EI.2 ⟨j,c,(e.t.toNat:Int),?_,rfl⟩
    exact(Iv hL.2.2).2 ⟨e,o,by omega,rfl,by omega⟩
   ·rw [J6,<-d]
    show ((Cb t.q p e.l).toNat:Int)=Cb t.q ((p:Int).toNat) e.l
    rw [io];omega
 ·rintro⟨a,b,u,z,k,c,d⟩
  have key:∀(u:List Int) (a b:Nat),Qo t F0 a b->(∀l∈u,l∈DW t)->∀ {p j:Nat},Iz (Lb t.s) u b j->(p:Int)=CS (fA t.q) a u->Qo t F0 p j:=λu=>by
   induction u with
   | nil=>
    intro a b i _ p j c d;have c:(j:Int)=b:=c;have d:(p:Int)=a:=d
    obtain rfl:j=b:=by omega
    obtain rfl:p=a:=by omega
    exact i
   | cons l u r=>
    intro a b i k p j c d;have n:=k l (by simp);have hL:=Gf ht n;have g:=i.lt ht A;have H:=Dp (Di ht) g.1 hL.1 hL.2.1;obtain⟨y,F,c⟩:=c;obtain⟨e,o,L,B,K⟩:=(Iv hL.2.2).1 F;have I:=GX ht o;have w:=Qo.step i o (by rw [B];exact n) (show e.f.toNat=b by omega)
    have v:((e.t.toNat:Nat):Int)=y:=by omega
    refine r _ _ w (λm G=>k m (by simp [G])) (by rw [v];exact c) ?_;rw [d,B]
    show CS (fA t.q) (Cb t.q ((a:Int).toNat) l) u=_
    rw [io];congr 1;omega
  exact key u a b (.base z) k c d
theorem XT{F:PS}(o:EE t F){l:Int}(v:0<=l/\l < 6){p' j:Nat}:(ZZ t l F p').testBit j=true↔∃p a:Nat,(F p).testBit a=true/\Cb t.q p l=(p':Int)/\(j:Int)∈Bu t.s a l:=by
 rw [PM]
 have g:∀ {p a:Nat},(F p).testBit a=true->p < t.q.nx.length:=λ{p a} h=>by
  rcases jB p t.q.nx.length with b|b
  ·exact b
  ·rw [o.z p b] at h;simp at h
 unfold FP;by_cases hb:AP t.s.al l.toNat=true
 ·simp only [hb,if_true]
  constructor
  ·rintro⟨p,b,d,c⟩
   obtain⟨e,i,⟨n,k⟩,u⟩:=Fc.1 c;have r:=GX ht i;exact⟨p,e.f.toNat,k,d,(Iv hb).2 ⟨e,i,by omega,n,by omega⟩⟩
  ·rintro⟨p,a,b,d,c⟩
   obtain⟨e,i,n,k,u⟩:=(Iv hb).1 c;have r:=GX ht i;refine⟨p,g b,d,Fc.2 ⟨e,i,⟨k,?_⟩,by omega⟩⟩;rw [show e.f.toNat=a by omega];exact b
 ·simp only [hb,if_false,mc]
  have m:∀a:Nat,Bu t.s a l=[(a:Int)]:=λa=>by unfold Bu;rw [if_neg hb]
  constructor
  ·rintro⟨p,b,d,c⟩
   exact⟨p,j,c,d,by rw [m];simp⟩
  ·rintro⟨p,a,b,d,c⟩
   rw [m] at c
   obtain rfl:j=a:=by simp at c;omega
   exact⟨p,g b,d,b⟩
end
def Bz(al:Int)(u:List Int):List Int:=u.filter λl=>AP al l.toNat
def Vs(t:Eh)(u:List Int):Prop:=∀l∈u,l∈DW t\/l∈Ac t.al
theorem ZO{t:Eh}{l:Int}(h:l∈DW t):AP t.al l.toNat=false:=by
 unfold DW at h;have:=(jv.1 h).2
 simpa using this
theorem Qh{t:Eh}{u:List Int}(d:Vs t u)(h:Bz t.al u=[]):∀l∈u,l∈DW t:=λl b=>by
 rcases d l b with a|a
 ·exact a
 ·exfalso
  have c:l∈Bz t.al u:=jv.2 ⟨b,(Au a).2.2⟩;rw [h] at c;cases c
theorem PA{t:Eh}{u:List Int}(h:∀l∈u,l∈DW t):Bz t.al u=[]:=lU.2 λl a=>by rw [ZO (h l a)];simp
theorem Ut{t:Eh}{F:PS}(g:EE t F):IC t F=true↔∃p j:Nat,(F p).testBit j=true/\SA t.q p=false:=by
 unfold IC;rw [kB];constructor
 ·rintro⟨p,c,h⟩
  simp only [d4,decide_eq_true_eq,ku] at h
  have:∃j,(F p).testBit j=true:=Classical.byContradiction λf=>h.1 (KB λj=>by
   cases hb:(F p).testBit j
   ·rfl
   ·exact absurd ⟨j,hb⟩ f)
  obtain⟨j,d⟩:=this;exact⟨p,j,d,by unfold SA;rw [io];exact h.2⟩
 ·rintro⟨p,j,a,b⟩
  have c:p < t.q.nx.length:=by
   rcases jB p t.q.nx.length with h|h
   ·exact h
   ·rw [g.z p h] at a;simp at a
  refine⟨p,jj.2 c,?_⟩;unfold SA at b;rw [io] at b;simp only [d4,decide_eq_true_eq,ku];exact⟨λe=>by rw [e] at a;simp at a,b⟩
theorem O4{t:Eh}:∀(w:List Int) {F:PS},J9 t F (C1 w)=false↔∃k,k<=w.length/\IC t (HF t F (C1 (w.take k)))=true
 | [],F=>by
  show (!IC t F)=false↔_
  constructor
  ·intro h
   exact⟨0,by simp,by show IC t F=true;simpa using h⟩
  ·rintro⟨k,_,h⟩
   have h:IC t F=true:=by simpa [C1,HF] using h
   rw [h];rfl
 | l :: w,F=>by
  have c:=λF=>O4 (t:=t) w (F:=F);have e:J9 t F (C1 (l::w))=(!IC t F && J9 t (FF t (((lb l).toNat:Int) - 97) F) (C1 w)):=rfl;rw [e];constructor
  ·intro h
   cases hb:IC t F
   ·rw [hb] at h
    obtain⟨k,b,a⟩:=(c _).1 h;exact⟨k+1,by simpa using b,a⟩
   ·exact⟨0,by simp,hb⟩
  ·rintro⟨k,b,a⟩
   cases k with
   | zero=>
    have a:IC t F=true:=a;rw [a];rfl
   | succ k=>
    have:=(c (FF t (((lb l).toNat:Int) - 97) F)).2 ⟨k,by simpa using b,a⟩;rw [this,Bool.and_false]
theorem aV{α:Type}{P:List α->Prop}(c:P [])(b:∀w l,P w->P (w++[l]))(w:List α):P w:=by
 rw [<-List.reverse_reverse w]
 induction w.reverse with
 | nil=>exact c
 | cons l u a=>rw [List.reverse_cons];exact b _ l a
section
variable {t:Eh}(ht:BB t=true)
include ht
theorem Xr{F0:PS}(a:EE t F0){p j:Nat}:(Ss t F0 p).testBit j=true↔∃(b c:Nat) (u:List Int),(F0 b).testBit c=true/\(∀l∈u,l∈DW t)/\Iz (Lb t.s) u c j/\(p:Int)=CS (fA t.q) b u:=by
 rw [Mm,UW ht a];constructor
 ·exact λh=>h.2
 ·intro h
  exact⟨((UW ht a).2 h).lt ht a |>.2,h⟩
theorem MB:∀(w:List Int) {F:PS},EE t F->(∀l∈w,0<=l/\l < 6)->EE t (HF t F (C1 w))
 | [],F,h,_=>h
 | l :: w,F,h,b=>by
  have a:=b l (by simp)
  have e:HF t F (C1 (l::w))=HF t (FF t l F) (C1 w):=by
   show HF t (FF t (((lb l).toNat:Int) - 97) F) (C1 w)=_
   rw [KO a.1 a.2]
  rw [e];exact MB w (Ru ht a h) λm c=>b m (by simp [c])
theorem Vi:∀(w:List Int),(∀l∈w,l∈Ac t.al)->∀ {p j:Nat},((HF t (DH t) (C1 w) p).testBit j=true↔∃u,Vs t u/\Bz t.al u=w/\Iz (Lb t.s) u 0 j/\(p:Int)=CS (fA t.q) 0 u):=λw=>by
 refine aV (P:=λw=>(∀l∈w,l∈Ac t.al)->∀ {p j:Nat},((HF t (DH t) (C1 w) p).testBit j=true↔∃u,Vs t u/\Bz t.al u=w/\Iz (Lb t.s) u 0 j/\(p:Int)=CS (fA t.q) 0 u)) ?_ ?_ w
 ·intro _ p j
  show (Ss t IS p).testBit j=true↔_
  rw [Xr ht (Ob ht)]
  have S:∀ {y z:Nat},(IS y).testBit z=true↔y=0/\z=0:=λ{y z} => by
   unfold IS;split
   ·rename_i h
    subst h;have e:(1:Nat)=2 ^ 0:=rfl;rw [e,ki];simp [eq_comm]
   ·rename_i h;simp [h]
  constructor
  ·rintro⟨y,z,u,b,d,x,v⟩
   obtain⟨rfl,rfl⟩:=S.1 b;exact⟨u,λl hl=>.inl (d l hl),PA d,x,v⟩
  ·rintro⟨u,b,d,x,v⟩
   exact⟨0,0,u,S.2 ⟨rfl,rfl⟩,Qh b d,x,v⟩
 ·intro w l A H p j
  have o:=H l (by simp);have c:=Au o;have A:=λp j=>A (λm a=>H m (by simp [a])) (p:=p) (j:=j)
  have g:=MB ht w (F:=DH t) (It ht) λm a=>by have:=Au (H m (by simp [a]));omega
  have e:HF t (DH t) (C1 (w++[l]))=Ss t (ZZ t l (HF t (DH t) (C1 w))):=by
   have N:C1 (w++[l])=C1 w++[lb l]:=by simp [C1,lb]
   rw [N,WA,KO c.1 (by omega)];rfl
  rw [e,Xr ht (Tx ht ⟨c.1,by omega⟩ g)];constructor
  ·rintro⟨p1,j1,h,b,d,x,v⟩
   obtain⟨Q,R,h5,h6,h7⟩:=(XT ht g ⟨c.1,by omega⟩).1 b;obtain⟨u,i,G,M,L⟩:=(A Q R).1 h5;refine⟨u++l::h,λm a=>?_,?_,EI.2 ⟨R,M,j1,h7,x⟩,?_⟩
   ·rcases f6.1 a with a|a
    ·exact i m a
    ·rcases je.1 a with rfl|a
     ·exact .inr o
     ·exact .inl (d m a)
   ·unfold Bz at *
    rw [j9,G,jS (by simpa using c.2.2)];have:=PA d;unfold Bz at this;rw [this]
   ·rw [J6,<-L,v]
    show _=CS (fA t.q) (Cb t.q ((Q:Int).toNat) l) h
    rw [io,h6]
  ·rintro⟨u,i,G,M,L⟩
   unfold Bz at G;obtain⟨f,u2,rfl,N,e2⟩:=List.filter_eq_append_iff.1 G;obtain⟨b,d,rfl,e3,e4,e5⟩:=List.filter_eq_cons_iff.1 e2;have r:∀m∈b,m∈DW t:=Qh (λm a=>i m (by simp [a])) (by unfold Bz;exact lU.2 e3);have K:∀m∈d,m∈DW t:=Qh (λm a=>i m (by simp [a])) e5;obtain⟨y1,X,c2⟩:=EI.1 M;obtain⟨n,V,k,T,c5⟩:=EI.1 c2
   have B:AR t.s=true:=by unfold BB at ht;simp only [d4] at ht;exact ht.1
   have hst:=AJ B;have I:=Di ht;have hqn:=AI I
   have J:∀m∈f++(b++l::d),0<=m/\m < 6:=λm a=>by
    rcases i m a with h|h
    ·have:=Gf ht h;omega
    ·have:=Au h;omega
   have b1:=Mn B ⟨by omega,by omega⟩ X;have Y:=Mn B b1 V;have b3:=Ic B Y.1 Y.2 T;have a2:=P5 I (w:=f++b) (q:=0) (λm a=>J m (by rcases f6.1 a with h|h<;>simp [h])) ⟨by omega,by omega⟩;have a3:=Dp I (q:=(CS (fA t.q) 0 (f++b)).toNat) (by omega) c.1 (show l < 6 by omega);refine⟨(Cb t.q (CS (fA t.q) 0 (f++b)).toNat l).toNat,k.toNat,d,(XT ht g ⟨c.1,by omega⟩).2 ⟨(CS (fA t.q) 0 (f++b)).toNat,n.toNat,(A _ _).2 ⟨f++b,λm a=>?_,?_,?_,by omega⟩,by omega,?_⟩,K,?_,?_⟩
   ·rcases f6.1 a with a|a
    ·exact i m (by simp [a])
    ·exact .inl (r m a)
   ·have:=PA r
    unfold Bz at *;rw [j9,N,this,jA]
   ·rw [show ((n.toNat:Nat):Int)=n by omega]
    exact EI.2 ⟨y1,X,V⟩
   ·rw [show ((n.toNat:Nat):Int)=n by omega,show ((k.toNat:Nat):Int)=k by omega];exact T
   ·rw [show ((k.toNat:Nat):Int)=k by omega];exact c5
   ·rw [show (((Cb t.q (CS (fA t.q) 0 (f++b)).toNat l).toNat:Nat):Int)=Cb t.q (CS (fA t.q) 0 (f++b)).toNat l by omega,L,<-lS,J6];rfl
theorem N6{w:List Int}(v:∀l∈w,l∈Ac t.al):LS t (C1 w)=false↔∃u,Vs t u/\Bz t.al u <+: w/\El t.s u/\Dz t.q u=false:=by
 unfold LS;rw [O4];constructor
 ·rintro⟨k,I,H⟩
  have d:∀l∈w.take k,l∈Ac t.al:=λl o=>v l (jg o)
  have c:=MB ht (w.take k) (It ht) λm f=>by have:=Au (d m f);omega
  obtain⟨p,j,G,F⟩:=(Ut c).1 H;obtain⟨u,n,g,i,r⟩:=(Vi ht _ d).1 G;exact⟨u,n,by rw [g];exact List.take_prefix _ _,⟨_,i⟩,by unfold Dz;rw [<-r];exact F⟩
 ·rintro⟨u,n,g,⟨q,i⟩,r⟩
  refine⟨(Bz t.al u).length,g.length_le,?_⟩;have e:w.take (Bz t.al u).length=Bz t.al u:=(List.prefix_iff_eq_take.1 g).symm;rw [e];have x:∀l∈Bz t.al u,l∈Ac t.al:=λl o=>v l (g.subset o)
  have y:AR t.s=true:=by unfold BB at ht;simp only [d4] at ht;exact ht.1
  have A:=AJ y;have z:=Di ht;have B:=AI z
  have c:=MB ht (Bz t.al u) (It ht) λm f=>by have:=Au (x m f);omega
  have b:=Mn y (⟨by omega,by omega⟩:(0:Int)<=0/\(0:Int) < t.s.st) i
  have a:=P5 z (w:=u) (q:=0) (λm f=>by
   rcases n m f with h|h
   ·have:=Gf ht h;omega
   ·have:=Au h;omega) ⟨by omega,by omega⟩
  refine(Ut c).2 ⟨(CS (fA t.q) 0 u).toNat,q.toNat,(Vi ht _ x).2 ⟨u,n,rfl,?_,by omega⟩,?_⟩
  ·rw [show ((q.toNat:Nat):Int)=q by omega];exact i
  ·rw [show (((CS (fA t.q) 0 u).toNat:Nat):Int)=CS (fA t.q) 0 u by omega];exact r
end
theorem HM{s:Sys}:∀ {u:List Int} {q r:Int},Iz (Lb s) u q r↔Iz (Lb s) (Bz s.al u) q r
 | [],q,r=>Iff.rfl
 | l :: u,q,r=>by
  have c:=λq=>HM (s:=s) (u:=u) (q:=q) (r:=r);by_cases hb:AP s.al l.toNat=true
  ·have e:Bz s.al (l::u)=l::Bz s.al u:=jS hb
   rw [e];exact⟨λ⟨y,a,b⟩=>⟨y,a,(c y).1 b⟩,λ⟨y,a,b⟩=>⟨y,a,(c y).2 b⟩⟩
  ·have e:Bz s.al (l::u)=Bz s.al u:=kY hb
   have d:Lb s q l=[q]:=by show Bu s q l=_;unfold Bu;rw [if_neg hb]
   rw [e,<-c q];constructor
   ·rintro⟨y,a,b⟩
    rw [d] at a
    obtain rfl:y=q:=by simpa using a
    exact b
   ·intro h
    exact⟨q,by rw [d];simp,h⟩
theorem Kj{s:Sys}{u v:List Int}(h:Bz s.al u=Bz s.al v):El s u↔El s v:=by
 unfold El;constructor
 ·rintro⟨q,a⟩;exact⟨q,HM.2 (h ▸ HM.1 a)⟩
 ·rintro⟨q,a⟩;exact⟨q,HM.2 (h.symm ▸ HM.1 a)⟩
theorem NM{a:AU}(ha:AH a=true):∀ {u:List Int} {q:Int},(∀l∈u,0<=l/\l < 6)->0<=q/\q < a.nx.length->CS (fA a) q u=CS (fA a) q (Bz a.al u)
 | [],q,_,_=>rfl
 | l :: u,q,c,f=>by
  have d:=c l (by simp);have h:=Dp ha (q:=q.toNat) (by omega) d.1 d.2;have b:=λq=>NM ha (u:=u) (q:=q) λm g=>c m (by simp [g]);by_cases hb:AP a.al l.toNat=true
  ·have e:Bz a.al (l::u)=l::Bz a.al u:=jS hb
   rw [e];exact b _ h
  ·have e:Bz a.al (l::u)=Bz a.al u:=kY hb
   have i:Cb a q.toNat l=q:=by unfold Cb;rw [if_neg hb];omega
   rw [e]
   show CS (fA a) (Cb a q.toNat l) u=_
   rw [i];exact b _ f
def Gm(u:List Int):Prop:=∀l∈u,0<=l/\l < 6
theorem Js{a:AU}(ha:AH a=true){u v:List Int}(c:Gm u)(b:Gm v)(h:Bz a.al u=Bz a.al v):Dz a u=Dz a v:=by
 have d:=AI ha;unfold Dz;rw [NM ha c ⟨by omega,by omega⟩,NM ha b ⟨by omega,by omega⟩,h]
theorem Qi{al:Int}{u:List Int}(a:Gm u):Gm (Bz al u):=λl b=>a l (jv.1 b).1
theorem Qj{al:Int}{u:List Int}(a:Gm u):∀l∈Bz al u,l∈Ac al:=λl b=>by
 obtain⟨d,c⟩:=jv.1 b;have:=a l d
 obtain⟨n,rfl⟩:∃n:Nat,l=n:=⟨l.toNat,by omega⟩
 exact Ds.2 ⟨by omega,c⟩
theorem FH{al:Int}{u:List Int}(a:∀l∈u,l∈Ac al):Gm u:=λl b=>by have:=Au (a l b);omega
theorem Ks{al bl:Int}{u:List Int}(h:∀l∈u,AP al l.toNat=true->AP bl l.toNat=true):Bz al (Bz bl u)=Bz al u:=by
 unfold Bz;rw [mg];refine lf λl a=>?_;cases ha:AP al l.toNat
 ·rfl
 ·rw [h l a ha];rfl
theorem ay{al:Int}:∀ {v w:List Int},w <+: Bz al v->∃v',v' <+: v/\Bz al v'=w:=λ{v w} ⟨z,h⟩=>by
 obtain⟨a,c,rfl,b,_⟩:=List.filter_eq_append_iff.1 h.symm;exact⟨a,mf _ _,b⟩
theorem Zc{s:Sys}{u v:List Int}(h:u <+: v)(a:El s v):El s u:=by
 obtain⟨z,rfl⟩:=h;obtain⟨q,b⟩:=a;obtain⟨y,c,_⟩:=EI.1 b;exact⟨y,c⟩
theorem merge{A B:Int->Bool}:∀(u:List Int) {v:List Int},(∀l∈u,A l=true)->(∀l∈v,B l=true)->u.filter B=v.filter A->∃x:List Int,x.filter A=u/\x.filter B=v/\∀l∈x,l∈u\/l∈v
 | [],v,_,b,h=>⟨v,h.symm,List.filter_eq_self.2 b,λl n=>.inr n⟩
 | l :: u, v,g,b,h=>by
  have i:=g l (by simp);by_cases c:B l=true
  ·rw [jS c] at h
   obtain⟨k,j,rfl,p,q,o⟩:=List.filter_eq_cons_iff.1 h.symm;obtain⟨x,f,e,d⟩:=merge u (v:=j) (λm a=>g m (by simp [a])) (λm a=>b m (by simp [a])) o.symm;refine⟨k++l::x,?_,?_,λm a=>?_⟩
   ·rw [j9,lU.2 p,jS i,f];rfl
   ·rw [j9,List.filter_eq_self.2 λm a=>b m (by simp [a]),jS c,e]
   ·rcases f6.1 a with a|a
    ·exact .inr (by simp [a])
    ·rcases je.1 a with rfl|a
     ·exact .inl (by simp)
     ·rcases d m a with h|h
      ·exact .inl (by simp [h])
      ·exact .inr (by simp [h])
  ·rw [kY c] at h
   obtain⟨x,f,e,d⟩:=merge u (v:=v) (λm a=>g m (by simp [a])) b h;refine⟨l::x,?_,?_,λm a=>?_⟩
   ·rw [jS i,f]
   ·rw [kY c,e]
   ·rcases je.1 a with rfl|a
    ·exact .inl (by simp)
    ·rcases d m a with h|h
     ·exact .inl (by simp [h])
     ·exact .inr h
theorem KA{a b:Int}(ha:A3 a=true)(hb:A3 b=true){n:Nat}(c:n < 64):AP (FU .i64 a b) n=(AP a n || AP b n):=by
 unfold A3 at ha hb;simp only [decide_eq_true_eq] at ha hb
 obtain⟨x,rfl⟩:∃x:Nat,a=x:=⟨a.toNat,by omega⟩
 obtain⟨y,rfl⟩:∃y:Nat,b=y:=⟨b.toNat,by omega⟩
 have h:=JF (a:=x) (b:=y) (by omega) (by omega);rw [h.1,CK (by omega) c,CK (by omega) c,CK (by omega) c,kQ]
theorem ZB{a b:Int}(ha:A3 a=true)(hb:A3 b=true){n:Nat}(c:n < 64):AP (ES .i64 a b) n=(AP a n && AP b n):=by
 unfold A3 at ha hb;simp only [decide_eq_true_eq] at ha hb
 obtain⟨x,rfl⟩:∃x:Nat,a=x:=⟨a.toNat,by omega⟩
 obtain⟨y,rfl⟩:∃y:Nat,b=y:=⟨b.toNat,by omega⟩
 have h:=JD (a:=x) (b:=y) (by omega) (by omega);have d:x &&& y < 64:=Nat.lt_of_le_of_lt l6 (by omega);rw [h,CK (by omega) c,CK (by omega) c,CK (by omega) c,k8]
structure ED (s:Sys) (p:AU) (t:Sys) (al:Int):Prop where
 hs:AR s=true
 hp:AH p=true
 ht:AR t=true
 hal:al=Bt s p t
section
variable {s t:Sys}{p:AU}{al:Int}(hI:ED s p t al)
include hI
theorem XH{n:Nat}(a:n < 64):AP al n=((AP s.al n || AP p.al n) && AP t.al n):=by
 have c:=(AJ hI.hs).1;have b:=(AI hI.hp).1;have d:=(AJ hI.ht).1;rw [hI.hal];unfold Bt;rw [hI.hs,hI.hp,hI.ht];simp only [mj,if_true];rw [ZB (JE c b) d a,KA c b a]
theorem QR:A3 al=true:=by
 have g:=(AJ hI.hs).1;have f:=(AI hI.hp).1;have i:=(AJ hI.ht).1;have h:=JE g f;rw [hI.hal];unfold Bt;rw [hI.hs,hI.hp,hI.ht];simp only [mj,if_true];unfold A3 at *;simp only [decide_eq_true_eq] at *
 obtain⟨x,d⟩:∃x:Nat,FU .i64 s.al p.al=x:=⟨(FU .i64 s.al p.al).toNat,by omega⟩
 obtain⟨y,c⟩:∃y:Nat,t.al=y:=⟨t.al.toNat,by omega⟩
 have:=JD (a:=x) (b:=y) (by omega) (by omega);have e:x &&& y < 64:=Nat.lt_of_le_of_lt l6 (by omega);rw [d,c,this];omega
theorem Hg:BB ⟨s,p,al⟩=true:=by
 unfold BB;rw [hI.hs,hI.hp,QR hI];rfl
theorem Xh{a:AU}(ha:AH a=true)(hal:a.al=al)(o:∀u,Gm u->(∀l∈u,AP s.al l.toNat=true\/AP al l.toNat=true)->El s u->Dz a u=true->Dz p u=true)
 (m:∀v,(∀l∈v,l∈Ac t.al)->El t v->Dz a v=true) {x:List Int} (e:Gm x) (f:∀l∈x,AP s.al l.toNat=true\/AP t.al l.toNat=true) (k:El s x) (ht:El t x):Dz p x=true:=by
 have c:=λl (b:l∈x)=>XH hI (n:=l.toNat) (by have:=e l b;omega);have j:=Qi (al:=t.al) e;have w:Dz a (Bz t.al x)=true:=m _ (Qj e) ((Kj (by rw [Ks λ_ _ h=>h])).1 ht)
 let u:=x.filter λl=>AP s.al l.toNat || AP al l.toNat
 have g:Gm u:=λl f=>e l (jv.1 f).1
 have d:∀ {bl:Int},(∀l∈x,AP bl l.toNat=true->(AP s.al l.toNat || AP al l.toNat)=true)->Bz bl u=Bz bl x:=λ{bl} h=>by
  show List.filter _ (List.filter _ x)=List.filter _ x
  rw [mg];refine lf λl f=>?_;cases hb:AP bl l.toNat
  ·rfl
  ·rw [h l f hb];rfl
 have r:Dz a u=true:=by
  rw [Js ha g j,w]
  rw [hal,d λl _ h=>by rw [h,lr],Ks λl b h=>by
   have:=c l b;rw [h] at this
   revert this;cases AP t.al l.toNat<;>simp]
 have q:=o u g (λl b=>by have:=(jv.1 b).2;simpa using this) ((Kj (d λl _ h=>by rw [h];rfl)).2 k) r;rw [<-q];refine Js hI.hp e g (d λl b h=>?_).symm;have:=c l b;rw [h,lr,ju] at this
 rcases f l b with i|i
 ·rw [i];rfl
 ·rw [this,i,lr]
theorem Sj{v:List Int}(y:∀l∈v,l∈Ac t.al)(ht:El t v)(G:LS ⟨s,p,al⟩ (C1 (Bz al v))=false):∃x,Gm x/\(∀l∈x,AP s.al l.toNat=true\/AP t.al l.toNat=true)/\El s x/\El t x/\Dz p x=false:=by
 have m:=FH y;obtain⟨u,A,J,I,H⟩:=(N6 (Hg hI) (Qj m)).1 G
 have d:Gm u:=λl a=>by
  rcases A l a with h|h
  ·have:=Gf (Hg hI) h;omega
  ·have:=Au h;omega
 obtain⟨v',w,F⟩:=ay J;have g:∀l∈v',l∈Ac t.al:=λl a=>y l (w.subset a);have b:=λ(l:Int) (h:0<=l/\l < 6)=>XH hI (n:=l.toNat) (by omega)
 have q:∀l∈u,(AP s.al l.toNat || AP al l.toNat)=true:=λl a=>by
  rcases A l a with h|h
  ·rw [(Gf (Hg hI) h).2.2];rfl
  ·rw [(Au h).2.2,lr]
 have o:∀l∈v',AP t.al l.toNat=true:=λl a=>(Au (g l a)).2.2
 have e:u.filter (λl=>AP t.al l.toNat)=v'.filter λl=>AP s.al l.toNat || AP al l.toNat:=by
  have L:u.filter (λl=>AP t.al l.toNat)=Bz al u:=lf λl a=>by
   have c:=q l a;rw [b l (d l a)] at c |-;revert c;cases AP s.al l.toNat<;>cases AP p.al l.toNat<;>cases AP t.al l.toNat<;>simp
  have K:v'.filter (λl=>AP s.al l.toNat || AP al l.toNat)=Bz al v':=lf λl a=>by
   have c:=o l a;rw [b l (FH g l a),c];cases AP s.al l.toNat<;>cases AP p.al l.toNat<;>simp
  rw [L,K,F]
 obtain⟨x,B,k,r⟩:=merge u q o e
 have f:Gm x:=λl a=>by
  rcases r l a with h|h
  ·exact d l h
  ·exact FH g l h
 have i:∀l∈x,AP s.al l.toNat=true\/AP t.al l.toNat=true:=λl a=>by
  rcases r l a with h|h
  ·have c:=q l h
   rw [b l (d l h)] at c;revert c;cases AP s.al l.toNat<;>cases AP p.al l.toNat<;>cases AP t.al l.toNat<;>simp
  ·exact .inr (o l h)
 have j:∀ {bl:Int},(∀l∈x,AP bl l.toNat=true->(AP s.al l.toNat || AP al l.toNat)=true)->Bz bl u=Bz bl x:=λ{bl} h=>by
  rw [<-B]
  show List.filter _ (List.filter _ x)=List.filter _ x
  rw [mg];refine lf λl a=>?_;cases hb:AP bl l.toNat
  ·rfl
  ·rw [h l a hb];rfl
 refine⟨x,f,i,(Kj (j λl _ h=>by rw [h];rfl)).1 I,?_,?_⟩
 ·have:=Zc w ht
  refine(Kj ?_).1 this;have k:Bz t.al x=v':=k;rw [<-k,Ks λ_ _ h=>h]
 ·rw [<-H]
  refine Js hI.hp f d (j λl z h=>?_).symm;have:=b l (f l z);rw [h,lr,ju] at this
  rcases i l z with c|c
  ·rw [c];rfl
  ·rw [this,c,lr]
end
theorem Io{al:Int}{u:List Int}(c:Gm u)(h:∀l∈u,AP al l.toNat=true):∀l∈u,l∈Ac al:=λl a=>by
 have:=c l a
 obtain⟨n,rfl⟩:∃n:Nat,l=n:=⟨l.toNat,by omega⟩
 have b:=h _ a;rw [io] at b;exact Ds.2 ⟨by omega,b⟩
theorem Pl{g:Gr}{w:List Int}(h:C4 g=some w):over g w/\PB g w/\∀u,over g u->PB g u->¬slt u w:=by
 have:=C5 g;rw [h] at this;exact this
theorem Ur{g:Gr}(h:C4 g=none):∀u,over g u->¬PB g u:=by
 have:=C5 g;rw [h] at this;exact this
theorem Jk{s:Sys}{a p:AU}{w:List Int}(h:Df s a p=some w):BX s a p=true/\(∀l∈w,l∈Ac (FU .i64 s.al a.al))/\El s w/\Dz a w=true/\Dz p w=false:=by
 unfold Df at h;by_cases b:BX s a p=true
 ·rw [if_pos b] at h
  obtain⟨c,d,_⟩:=Pl h;exact⟨b,c,(cM b c).1 d⟩
 ·rw [if_neg b] at h;cases h
theorem SZ{s:Sys}{a p:AU}(d:BX s a p=true):Gl s a p=true↔∀w,(∀l∈w,l∈Ac (FU .i64 s.al a.al))->El s w->Dz a w=true->Dz p w=true:=by
 unfold Gl Df;rw [d,ju,if_pos rfl];constructor
 ·intro h w g c f
  cases b:C4 (Dy (Dq s a p)) with
  | some x=>rw [b] at h;cases h
  | none=>
   have:=Ur b w g;rw [cM d g] at this;cases e:Dz p w
   ·exact absurd ⟨c,f,e⟩ this
   ·rfl
 ·intro h
  cases b:C4 (Dy (Dq s a p)) with
  | none=>rfl
  | some x=>
   obtain⟨c,f,_⟩:=Pl b;obtain⟨e,j,i⟩:=(cM d c).1 f;rw [h x c e j] at i;cases i
theorem Ud{l:List Sys}{p:AU}{w:List Int}(h:BL l p=some w):(AV l && AH p)=true/\(∀m∈w,m∈Ac (Bl l))/\(∀s∈l,El s w)/\Dz p w=false:=by
 unfold BL at h;by_cases a:(AV l && AH p)=true
 ·rw [if_pos a] at h
  obtain⟨b,c,_⟩:=Pl h;exact⟨a,b,(cL a b).1 c⟩
 ·rw [if_neg a] at h;cases h
theorem I7{l:List Sys}{p:AU}(c:(AV l && AH p)=true):Ck l p=true↔∀w,(∀m∈w,m∈Ac (Bl l))->(∀s∈l,El s w)->Dz p w=true:=by
 unfold Ck BL;rw [c,ju,if_pos rfl];constructor
 ·intro h w e b
  cases a:C4 (Dy (Cm l p)) with
  | some x=>rw [a] at h;cases h
  | none=>
   have:=Ur a w e;rw [cL c e] at this;cases d:Dz p w
   ·exact absurd ⟨b,d⟩ this
   ·rfl
 ·intro h
  cases a:C4 (Dy (Cm l p)) with
  | none=>rfl
  | some x=>
   obtain⟨b,g,_⟩:=Pl a;obtain⟨d,f⟩:=(cL c b).1 g;rw [h x b d] at f;cases f
theorem Qy(n:Nat)(a:n < 64):AP 0 n=false:=by
 have:=CK (s:=0) (n:=n) (by omega) a;rw [show ((0:Nat):Int)=0 from rfl] at this;rw [this];simp
theorem GM{t:Sys}:AV [t]=AR t:=by simp [AV]
theorem Ip{s t:Sys}:AV [s,t]=(AR s && AR t):=by simp [AV]
theorem Uv{t:Sys}(ht:AR t=true){n:Nat}(a:n < 64):AP (Bl [t]) n=AP t.al n:=by
 unfold Bl;rw [GM,ht,if_pos rfl]
 show AP (FU .i64 0 t.al) n=_
 rw [KA (by decide) (AJ ht).1 a,Qy n a,lz]
theorem Uw{s t:Sys}(a:AR s=true)(ht:AR t=true){n:Nat}(b:n < 64):AP (Bl [s,t]) n=(AP s.al n || AP t.al n):=by
 unfold Bl;rw [Ip,a,ht,mj,if_pos rfl]
 show AP (FU .i64 (FU .i64 0 s.al) t.al) n=_
 have c:A3 0=true:=by decide
 rw [KA (JE c (AJ a).1) (AJ ht).1 b,KA c (AJ a).1 b,Qy n b,lz]
theorem X9{t:Sys}(ht:AR t=true){u:List Int}:(∀l∈u,l∈Ac (Bl [t]))↔∀l∈u,l∈Ac t.al:=by
 constructor
 ·intro h
  have a:=FH h
  exact Io a λl b=>by rw [<-Uv ht (by have:=a l b;omega)];exact(Au (h l b)).2.2
 ·intro h
  have a:=FH h
  exact Io a λl b=>by rw [Uv ht (by have:=a l b;omega)];exact(Au (h l b)).2.2
theorem UN{s t:Sys}(c:AR s=true)(ht:AR t=true){u:List Int}:(∀l∈u,l∈Ac (Bl [s,t]))↔Gm u/\∀l∈u,AP s.al l.toNat=true\/AP t.al l.toNat=true:=by
 constructor
 ·intro h
  have a:=FH h;refine⟨a,λl b=>?_⟩;have:=(Au (h l b)).2.2;rw [Uw c ht (by have:=a l b;omega),jh] at this;exact this
 ·rintro⟨a,h⟩
  exact Io a λl b=>by rw [Uw c ht (by have:=a l b;omega),jh];exact h l b
theorem bJ{a b:Int}(ha:A3 a=true)(hb:A3 b=true){u:List Int}:(∀l∈u,l∈Ac (FU .i64 a b))↔Gm u/\∀l∈u,AP a l.toNat=true\/AP b l.toNat=true:=by
 constructor
 ·intro h
  have c:=FH h;refine⟨c,λl d=>?_⟩;have:=(Au (h l d)).2.2;rw [KA ha hb (by have:=c l d;omega),jh] at this;exact this
 ·rintro⟨c,h⟩
  exact Io c λl d=>by rw [KA ha hb (by have:=c l d;omega),jh];exact h l d
theorem Vy{s t:Sys}{w:List Int}:(∀x∈[s,t],El x w)↔El s w/\El t w:=by simp
theorem UO{t:Sys}{w:List Int}:(∀x∈[t],El x w)↔El t w:=by simp
theorem QF{s t:Sys}{p a:AU}(h:DV s t p a=0):Ck [s,t] p=true/\Gl s a p=true/\Ck [t] a=true:=by
 unfold DV at h;split at h
 ·cases h
 rename_i c;split at h
 ·cases h
 rename_i m;split at h
 ·cases h
 rename_i G;split at h
 ·cases h
 rename_i F
 have hk:Gl s a p=true:=by simpa using G
 have b:Ck [t] a=true:=by simpa using F
 refine⟨?_,hk,b⟩;rw [not_or] at c
 have n:(AR s && AH p && AR t)=true:=by
  have o:=c.1;unfold Bt at o;split at o
  ·assumption
  ·omega
 have ha:AH a=true:=by simpa using c.2
 simp only [d4] at n;obtain⟨⟨e,f⟩,d⟩:=n;have hal:a.al=Bt s p t:=Classical.not_not.1 m
 have hI:ED s p t a.al:=⟨e,f,d,hal⟩
 have y:BX s a p=true:=by unfold BX;rw [e,ha,f];rfl
 have l:(AV [t] && AH a)=true:=by rw [GM,d,ha];rfl
 have k:(AV [s,t] && AH p)=true:=by rw [Ip,e,d,f];rfl
 rw [SZ y] at hk;rw [I7 l] at b;rw [I7 k];intro w x z;obtain⟨A,B⟩:=(UN e d).1 x;obtain⟨r,q⟩:=Vy.1 z;exact Xh hI ha rfl (λu i j c m=>hk u ((bJ (AJ e).1 (AI ha).1).2 ⟨i,j⟩) c m) (λv g c=>b v ((X9 d).2 g) (UO.2 c)) A B r q
theorem Qf{s t:Sys}{p:AU}{al:Int}(hI:ED s p t al){v:List Int}(g:∀l∈v,l∈Ac t.al)(ht:El t v)(h:LS ⟨s,p,al⟩ (C1 (Bz al v))=false):Ck [s,t] p=false:=by
 have a:(AV [s,t] && AH p)=true:=by rw [Ip,hI.hs,hI.ht,hI.hp];rfl
 obtain⟨x,f,e,d,c,b⟩:=Sj hI g ht h;cases hk:Ck [s,t] p
 ·rfl
 ·rw [I7 a] at hk
  rw [hk x ((UN hI.hs hI.ht).2 ⟨f,e⟩) (Vy.2 ⟨d,c⟩)] at b;cases b
theorem Xa{a:AU}{w:List Int}(b:∀l∈w,l∈Ac a.al):LA a (C1 w)=Dz a w:=by
 unfold Dz;rw [O2 w 0 b];rfl
theorem Uf{s t:Sys}{p a:AU}{al:Int}(hI:ED s p t al)(ha:AH a=true)(hal:a.al=al){u:List Int}(h:Df s a p=some u):(∀l∈Bz al u,l∈Ac al)/\LA a (C1 (Bz al u))=true/\LS ⟨s,p,al⟩ (C1 (Bz al u))=false:=by
 obtain⟨o,i,j,n,k⟩:=Jk h;have e:=FH i;have c:=Qj (al:=al) e;have d:=((bJ (AJ hI.hs).1 (AI ha).1).1 i).2;refine⟨c,?_,(N6 (Hg hI) c).2 ⟨u,λl b=>?_,lW _,j,k⟩⟩
 ·rw [Xa (by rw [hal];exact c),<-n]
  exact Js ha (Qi e) e (by rw [hal,Ks λ_ _ h=>h])
 ·have hb:=e l b
  rw [hal] at d;by_cases f:AP al l.toNat=true
  ·exact .inr (Io (u:=[l]) (by intro m b;simp at b;subst b;exact hb) (by intro m b;simp at b;subst b;exact f) l (by simp))
  ·refine .inl ?_
   unfold DW;refine jv.2 ⟨?_,by simpa using f⟩;have g:AP s.al l.toNat=true:=(d l b).resolve_right f;exact Io (u:=[l]) (by intro m b;simp at b;subst b;exact hb) (by intro m b;simp at b;subst b;exact g) l (by simp)
theorem Gc{t:Sys}{a:AU}{v:List Int}(h:BL [t] a=some v):AR t=true/\AH a=true/\(∀l∈v,l∈Ac t.al)/\El t v/\Dz a v=false:=by
 obtain⟨b,d,c,e⟩:=Ud h;rw [d4,GM] at b;exact⟨b.1,b.2,(X9 b.1).1 d,UO.1 c,e⟩
theorem SL{t:Sys}{a:AU}{v:List Int}(h:BL [t] a=some v):(∀l∈Bz a.al v,l∈Ac a.al)/\LA a (C1 (Bz a.al v))=false:=by
 obtain⟨i,f,e,g,d⟩:=Gc h;have c:=FH e;have b:=Qj (al:=a.al) c;refine⟨b,?_⟩;rw [Xa b,<-d];exact Js f (Qi c) c (by rw [Ks λ_ _ h=>h])
end Go.Am
