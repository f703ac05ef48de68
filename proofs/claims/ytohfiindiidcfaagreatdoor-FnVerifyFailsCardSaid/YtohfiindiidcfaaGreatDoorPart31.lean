/-
  Which words are safe, plainly: an unsafe one is what is seen of a word that the system can do and the property rejects.
-/
import Derived.Test.YtohfiindiidcfaaGreatDoorPart28
import Derived.Test.YtohfiindiidcfaaGreatDoorPart27
import Derived.Test.YtohfiindiidcfaaGreatDoorPart29
set_option linter.all false
namespace Go.Am
open Go
theorem FN{c:N6}:∀ {u w:List Int} {q r:Int},JT c (u++w) q r↔∃y,JT c u q y/\JT c w y r
 | [],w,q,r=>⟨λh=>⟨q,rfl,h⟩,λ⟨y,a,b⟩=>by have a:y=q:=a;subst a;exact b⟩
 | l :: u,w,q,r=>by
  constructor
  ·rintro⟨y,d,h⟩
   obtain⟨z,a,b⟩:=FN.1 h;exact⟨z,⟨y,d,a⟩,b⟩
  ·rintro⟨z,⟨y,d,a⟩,b⟩
   exact⟨y,d,FN.2 ⟨z,a,b⟩⟩
theorem On{s:Sys}(hs:AW s=true):∀ {w:List Int} {q r:Int},0<=q/\q < s.st->JT (Nn s) w q r->0<=r/\r < s.st
 | [],q,r,a,h=>by have h:r=q:=h;subst h;exact a
 | l::w,q,r,a,⟨y,b,h⟩=>On hs (Ju hs a.1 a.2 b) h
theorem Tu{a:AX}(ha:AJ a=true):∀ {w:List Int} {q:Int},(∀l∈w,0<=l/\l < 6)->0<=q/\q < a.nx.length->0<=Dw (fA a) q w/\Dw (fA a) q w < a.nx.length
 | [],q,_,c=>c
 | l::w,q,b,c=>by
  have d:=b l (by simp);exact Tu ha (w:=w) (λm e=>b m (by simp [e])) (Ds ha (q:=q.toNat) (by omega) d.1 d.2)
theorem az{t:CM}{F:PS}{u:W}{c:UInt8}:GX t F (u++[c])=Dk t ((c.toNat:Int) - 97) (GX t F u):=by rw [PQ];rfl
theorem JM{s:Sys}{q l r:Int}(h:AY s.al l.toNat=true):r∈BO s q l↔∃e∈s.es,e.f=q/\e.l=l/\e.t=r:=by
 unfold BO;rw [if_pos h];simp only [d9,oh,d4,decide_eq_true_eq];constructor
 ·rintro⟨e,⟨d,c,b⟩,a⟩;exact⟨e,d,c,b,a⟩
 ·rintro⟨e,d,c,b,a⟩;exact⟨e,⟨d,c,b⟩,a⟩
section
variable {t:CM}(ht:Bg t=true)
include ht
theorem YZ{F0:PS}(A:C1 t F0){p j:Nat}:Ql t F0 p j↔∃(a b:Nat) (u:List Int),(F0 a).testBit b=true/\(∀l∈u,l∈Cv t)/\JT (Nn t.s) u b j/\(p:Int)=Dw (fA t.q) a u:=by
 constructor
 ·intro h
  induction h with
  | @base p j hb=>exact⟨p,j,[],hb,by simp,rfl,rfl⟩
  | @step p j e i o n I r=>
   obtain⟨a,b,u,z,k,c,d⟩:=r;have H:=Ie ht o;have hL:=DN ht n;have g:=i.lt ht A;have hg:=Ds (CA ht) g.1 hL.1 hL.2.1;refine⟨a,b,u++[e.l],z,λl x=>?_,?_,?_⟩
   ·rcases em.1 x with h|h
    ·exact k l h
    ·simp at h;subst h;exact n
   ·refine FN.2 ⟨j,c,(e.t.toNat:Int),?_,rfl⟩
    exact(JM hL.2.2).2 ⟨e,o,by omega,rfl,by omega⟩
   ·rw [Mb,<-d]
    show ((CC t.q p e.l).toNat:Int)=CC t.q ((p:Int).toNat) e.l
    rw [io];omega
 ·rintro⟨a,b,u,z,k,c,d⟩
  have key:∀(u:List Int) (a b:Nat),Ql t F0 a b->(∀l∈u,l∈Cv t)->∀ {p j:Nat},JT (Nn t.s) u b j->(p:Int)=Dw (fA t.q) a u->Ql t F0 p j:=λu=>by
   induction u with
   | nil=>
    intro a b i _ p j c d;have c:(j:Int)=b:=c;have d:(p:Int)=a:=d
    obtain rfl:j=b:=by omega
    obtain rfl:p=a:=by omega
    exact i
   | cons l u r=>
    intro a b i k p j c d;have n:=k l (by simp);have hL:=DN ht n;have g:=i.lt ht A;have hg:=Ds (CA ht) g.1 hL.1 hL.2.1;obtain⟨y,F,c⟩:=c;obtain⟨e,o,K,B,J⟩:=(JM hL.2.2).1 F;have H:=Ie ht o;have w:=Ql.step i o (by rw [B];exact n) (show e.f.toNat=b by omega)
    have v:((e.t.toNat:Nat):Int)=y:=by omega
    refine r _ _ w (λm G=>k m (by simp [G])) (by rw [v];exact c) ?_;rw [d,B]
    show Dw (fA t.q) (CC t.q ((a:Int).toNat) l) u=_
    rw [io];congr 1;omega
  exact key u a b (.base z) k c d
theorem cW{F:PS}(n:C1 t F){l:Int}(u:0<=l/\l < 6){p' j:Nat}:(VT t l F p').testBit j=true↔∃p a:Nat,(F p).testBit a=true/\CC t.q p l=(p':Int)/\(j:Int)∈BO t.s a l:=by
 rw [LJ]
 have g:∀ {p a:Nat},(F p).testBit a=true->p < t.q.nx.length:=λ{p a} h=>by
  rcases oK p t.q.nx.length with b|b
  ·exact b
  ·rw [n.z p b] at h;simp at h
 unfold Dm;by_cases hb:AY t.s.al l.toNat=true
 ·simp only [hb,if_true]
  constructor
  ·rintro⟨p,b,d,c⟩
   obtain⟨e,i,⟨m,k⟩,r⟩:=DO.1 c;have o:=Ie ht i;exact⟨p,e.f.toNat,k,d,(JM hb).2 ⟨e,i,by omega,m,by omega⟩⟩
  ·rintro⟨p,a,b,d,c⟩
   obtain⟨e,i,m,k,r⟩:=(JM hb).1 c;have o:=Ie ht i;refine⟨p,g b,d,DO.2 ⟨e,i,⟨k,?_⟩,by omega⟩⟩;rw [show e.f.toNat=a by omega];exact b
 ·simp only [hb,if_false,qx]
  have hs:∀a:Nat,BO t.s a l=[(a:Int)]:=λa=>by unfold BO;rw [if_neg hb]
  constructor
  ·rintro⟨p,b,d,c⟩
   exact⟨p,j,c,d,by rw [hs];simp⟩
  ·rintro⟨p,a,b,d,c⟩
   rw [hs] at c
   obtain rfl:j=a:=by simp at c;omega
   exact⟨p,g b,d,b⟩
end
def BU(al:Int)(u:List Int):List Int:=u.filter λl=>AY al l.toNat
def Zn(t:CM)(u:List Int):Prop:=∀l∈u,l∈Cv t\/l∈Ac t.al
theorem fF{t:CM}{l:Int}(h:l∈Cv t):AY t.al l.toNat=false:=by
 unfold Cv at h;have:=(oh.1 h).2
 simpa using this
theorem TH{t:CM}{u:List Int}(d:Zn t u)(h:BU t.al u=[]):∀l∈u,l∈Cv t:=λl b=>by
 rcases d l b with a|a
 ·exact a
 ·exfalso
  have c:l∈BU t.al u:=oh.2 ⟨b,(Au a).2.2⟩;rw [h] at c;cases c
theorem SE{t:CM}{u:List Int}(h:∀l∈u,l∈Cv t):BU t.al u=[]:=q6.2 λl a=>by rw [fF (h l a)];simp
theorem X0{t:CM}{F:PS}(g:C1 t F):Fm t F=true↔∃p j:Nat,(F p).testBit j=true/\VZ t.q p=false:=by
 unfold Fm;rw [pZ];constructor
 ·rintro⟨p,c,h⟩
  simp only [d4,decide_eq_true_eq,pQ] at h
  have:∃j,(F p).testBit j=true:=Classical.byContradiction λf=>h.1 (HK λj=>by
   cases hb:(F p).testBit j
   ·rfl
   ·exact absurd ⟨j,hb⟩ f)
  obtain⟨j,d⟩:=this;exact⟨p,j,d,by unfold VZ;rw [io];exact h.2⟩
 ·rintro⟨p,j,a,b⟩
  have c:p < t.q.nx.length:=by
   rcases oK p t.q.nx.length with h|h
   ·exact h
   ·rw [g.z p h] at a;simp at a
  refine⟨p,oc.2 c,?_⟩;unfold VZ at b;rw [io] at b;simp only [d4,decide_eq_true_eq,pQ];exact⟨λe=>by rw [e] at a;simp at a,b⟩
theorem RY{t:CM}:∀(w:List Int) {F:PS},Gb t F (Dx w)=false↔∃k,k<=w.length/\Fm t (GX t F (Dx (w.take k)))=true
 | [],F=>by
  show (!Fm t F)=false↔_
  constructor
  ·intro h
   exact⟨0,by simp,by show Fm t F=true;simpa using h⟩
  ·rintro⟨k,_,h⟩
   have h:Fm t F=true:=by simpa [Dx,GX] using h
   rw [h];rfl
 | l :: w,F=>by
  have c:=λF=>RY (t:=t) w (F:=F);have e:Gb t F (Dx (l::w))=(!Fm t F && Gb t (Dk t (((lb l).toNat:Int) - 97) F) (Dx w)):=rfl;rw [e];constructor
  ·intro h
   cases hb:Fm t F
   ·rw [hb] at h
    obtain⟨k,b,a⟩:=(c _).1 h;exact⟨k+1,by simpa using b,a⟩
   ·exact⟨0,by simp,hb⟩
  ·rintro⟨k,b,a⟩
   cases k with
   | zero=>
    have a:Fm t F=true:=a;rw [a];rfl
   | succ k=>
    have:=(c (Dk t (((lb l).toNat:Int) - 97) F)).2 ⟨k,by simpa using b,a⟩;rw [this,Bool.and_false]
theorem gH{α:Type}{P:List α->Prop}(c:P [])(b:∀w l,P w->P (w++[l]))(w:List α):P w:=by
 rw [<-List.reverse_reverse w]
 induction w.reverse with
 | nil=>exact c
 | cons l u a=>rw [List.reverse_cons];exact b _ l a
section
variable {t:CM}(ht:Bg t=true)
include ht
theorem bV{F0:PS}(a:C1 t F0){p j:Nat}:(Sw t F0 p).testBit j=true↔∃(b c:Nat) (u:List Int),(F0 b).testBit c=true/\(∀l∈u,l∈Cv t)/\JT (Nn t.s) u c j/\(p:Int)=Dw (fA t.q) b u:=by
 rw [Om,YZ ht a];constructor
 ·exact λh=>h.2
 ·intro h
  exact⟨((YZ ht a).2 h).lt ht a |>.2,h⟩
theorem OH:∀(w:List Int) {F:PS},C1 t F->(∀l∈w,0<=l/\l < 6)->C1 t (GX t F (Dx w))
 | [],F,h,_=>h
 | l :: w,F,h,b=>by
  have a:=b l (by simp)
  have e:GX t F (Dx (l::w))=GX t (Dk t l F) (Dx w):=by
   show GX t (Dk t (((lb l).toNat:Int) - 97) F) (Dx w)=_
   rw [MZ a.1 a.2]
  rw [e];exact OH w (LO ht a h) λm c=>b m (by simp [c])
theorem Zb:∀(w:List Int),(∀l∈w,l∈Ac t.al)->∀ {p j:Nat},((GX t (Cw t) (Dx w) p).testBit j=true↔∃u,Zn t u/\BU t.al u=w/\JT (Nn t.s) u 0 j/\(p:Int)=Dw (fA t.q) 0 u):=λw=>by
 refine gH (P:=λw=>(∀l∈w,l∈Ac t.al)->∀ {p j:Nat},((GX t (Cw t) (Dx w) p).testBit j=true↔∃u,Zn t u/\BU t.al u=w/\JT (Nn t.s) u 0 j/\(p:Int)=Dw (fA t.q) 0 u)) ?_ ?_ w
 ·intro _ p j
  show (Sw t IN p).testBit j=true↔_
  rw [bV ht (My ht)]
  have R:∀ {y z:Nat},(IN y).testBit z=true↔y=0/\z=0:=λ{y z} => by
   unfold IN;split
   ·rename_i h
    subst h;have e:(1:Nat)=2 ^ 0:=rfl;rw [e,pF];simp [eq_comm]
   ·rename_i h;simp [h]
  constructor
  ·rintro⟨y,z,u,b,d,x,v⟩
   obtain⟨rfl,rfl⟩:=R.1 b;exact⟨u,λl hl=>.inl (d l hl),SE d,x,v⟩
  ·rintro⟨u,b,d,x,v⟩
   exact⟨0,0,u,R.2 ⟨rfl,rfl⟩,TH b d,x,v⟩
 ·intro w l A G p j
  have o:=G l (by simp);have c:=Au o;have A:=λp j=>A (λm a=>G m (by simp [a])) (p:=p) (j:=j)
  have g:=OH ht w (F:=Cw t) (GB ht) λm a=>by have:=Au (G m (by simp [a]));omega
  have e:GX t (Cw t) (Dx (w++[l]))=Sw t (VT t l (GX t (Cw t) (Dx w))):=by
   have M:Dx (w++[l])=Dx w++[lb l]:=by simp [Dx,lb]
   rw [M,az,MZ c.1 (by omega)];rfl
  rw [e,bV ht (KF ht ⟨c.1,by omega⟩ g)];constructor
  ·rintro⟨p1,Y,h,b,d,x,v⟩
   obtain⟨N,Q,h5,h6,h7⟩:=(cW ht g ⟨c.1,by omega⟩).1 b;obtain⟨u,i,B,L,K⟩:=(A N Q).1 h5;refine⟨u++l::h,λm a=>?_,?_,FN.2 ⟨Q,L,Y,h7,x⟩,?_⟩
   ·rcases em.1 a with a|a
    ·exact i m a
    ·rcases n8.1 a with rfl|a
     ·exact .inr o
     ·exact .inl (d m a)
   ·unfold BU at *
    rw [pm,B,po (by simpa using c.2.2)];have:=SE d;unfold BU at this;rw [this]
   ·rw [Mb,<-K,v]
    show _=Dw (fA t.q) (CC t.q ((N:Int).toNat) l) h
    rw [io,h6]
  ·rintro⟨u,i,B,L,K⟩
   unfold BU at B;obtain⟨f,u2,rfl,M,e2⟩:=List.filter_eq_append_iff.1 B;obtain⟨b,d,rfl,e3,e4,e5⟩:=List.filter_eq_cons_iff.1 e2;have r:∀m∈b,m∈Cv t:=TH (λm a=>i m (by simp [a])) (by unfold BU;exact q6.2 e3);have J:∀m∈d,m∈Cv t:=TH (λm a=>i m (by simp [a])) e5;obtain⟨X,U,c2⟩:=FN.1 L;obtain⟨n,T,k,S,c5⟩:=FN.1 c2
   have hs:AW t.s=true:=by unfold Bg at ht;simp only [d4] at ht;exact ht.1
   have Z:=AO hs;have H:=CA ht;have hqn:=AG H
   have I:∀m∈f++(b++l::d),0<=m/\m < 6:=λm a=>by
    rcases i m a with h|h
    ·have:=DN ht h;omega
    ·have:=Au h;omega
   have b1:=On hs ⟨by omega,by omega⟩ U;have V:=On hs b1 T;have b3:=Ju hs V.1 V.2 S;have a2:=Tu H (w:=f++b) (q:=0) (λm a=>I m (by rcases em.1 a with h|h<;>simp [h])) ⟨by omega,by omega⟩;have a3:=Ds H (q:=(Dw (fA t.q) 0 (f++b)).toNat) (by omega) c.1 (show l < 6 by omega);refine⟨(CC t.q (Dw (fA t.q) 0 (f++b)).toNat l).toNat,k.toNat,d,(cW ht g ⟨c.1,by omega⟩).2 ⟨(Dw (fA t.q) 0 (f++b)).toNat,n.toNat,(A _ _).2 ⟨f++b,λm a=>?_,?_,?_,by omega⟩,by omega,?_⟩,J,?_,?_⟩
   ·rcases em.1 a with a|a
    ·exact i m (by simp [a])
    ·exact .inl (r m a)
   ·have:=SE r
    unfold BU at *;rw [pm,M,this,oO]
   ·rw [show ((n.toNat:Nat):Int)=n by omega]
    exact FN.2 ⟨X,U,T⟩
   ·rw [show ((n.toNat:Nat):Int)=n by omega,show ((k.toNat:Nat):Int)=k by omega];exact S
   ·rw [show ((k.toNat:Nat):Int)=k by omega];exact c5
   ·rw [show (((CC t.q (Dw (fA t.q) 0 (f++b)).toNat l).toNat:Nat):Int)=CC t.q (Dw (fA t.q) 0 (f++b)).toNat l by omega,K,<-qY,Mb];rfl
theorem Qe{w:List Int}(v:∀l∈w,l∈Ac t.al):LS t (Dx w)=false↔∃u,Zn t u/\BU t.al u <+: w/\Fk t.s u/\Er t.q u=false:=by
 unfold LS;rw [RY];constructor
 ·rintro⟨k,H,G⟩
  have d:∀l∈w.take k,l∈Ac t.al:=λl o=>v l (ol o)
  have c:=OH ht (w.take k) (GB ht) λm f=>by have:=Au (d m f);omega
  obtain⟨p,j,F,B⟩:=(X0 c).1 G;obtain⟨u,n,g,i,r⟩:=(Zb ht _ d).1 F;exact⟨u,n,by rw [g];exact List.take_prefix _ _,⟨_,i⟩,by unfold Er;rw [<-r];exact B⟩
 ·rintro⟨u,n,g,⟨q,i⟩,r⟩
  refine⟨(BU t.al u).length,g.length_le,?_⟩;have e:w.take (BU t.al u).length=BU t.al u:=(List.prefix_iff_eq_take.1 g).symm;rw [e];have x:∀l∈BU t.al u,l∈Ac t.al:=λl o=>v l (g.subset o)
  have hs:AW t.s=true:=by unfold Bg at ht;simp only [d4] at ht;exact ht.1
  have z:=AO hs;have y:=CA ht;have A:=AG y
  have c:=OH ht (BU t.al u) (GB ht) λm f=>by have:=Au (x m f);omega
  have b:=On hs (⟨by omega,by omega⟩:(0:Int)<=0/\(0:Int) < t.s.st) i
  have a:=Tu y (w:=u) (q:=0) (λm f=>by
   rcases n m f with h|h
   ·have:=DN ht h;omega
   ·have:=Au h;omega) ⟨by omega,by omega⟩
  refine(X0 c).2 ⟨(Dw (fA t.q) 0 u).toNat,q.toNat,(Zb ht _ x).2 ⟨u,n,rfl,?_,by omega⟩,?_⟩
  ·rw [show ((q.toNat:Nat):Int)=q by omega];exact i
  ·rw [show (((Dw (fA t.q) 0 u).toNat:Nat):Int)=Dw (fA t.q) 0 u by omega];exact r
end
theorem I8{s:Sys}:∀ {u:List Int} {q r:Int},JT (Nn s) u q r↔JT (Nn s) (BU s.al u) q r
 | [],q,r=>Iff.rfl
 | l :: u,q,r=>by
  have c:=λq=>I8 (s:=s) (u:=u) (q:=q) (r:=r);by_cases hb:AY s.al l.toNat=true
  ·have e:BU s.al (l::u)=l::BU s.al u:=po hb
   rw [e];exact⟨λ⟨y,a,b⟩=>⟨y,a,(c y).1 b⟩,λ⟨y,a,b⟩=>⟨y,a,(c y).2 b⟩⟩
  ·have e:BU s.al (l::u)=BU s.al u:=qv hb
   have d:Nn s q l=[q]:=by show BO s q l=_;unfold BO;rw [if_neg hb]
   rw [e,<-c q];constructor
   ·rintro⟨y,a,b⟩
    rw [d] at a
    obtain rfl:y=q:=by simpa using a
    exact b
   ·intro h
    exact⟨q,by rw [d];simp,h⟩
theorem Mh{s:Sys}{u v:List Int}(h:BU s.al u=BU s.al v):Fk s u↔Fk s v:=by
 unfold Fk;constructor
 ·rintro⟨q,a⟩;exact⟨q,I8.2 (h ▸ I8.1 a)⟩
 ·rintro⟨q,a⟩;exact⟨q,I8.2 (h.symm ▸ I8.1 a)⟩
theorem PN{a:AX}(ha:AJ a=true):∀ {u:List Int} {q:Int},(∀l∈u,0<=l/\l < 6)->0<=q/\q < a.nx.length->Dw (fA a) q u=Dw (fA a) q (BU a.al u)
 | [],q,_,_=>rfl
 | l :: u,q,c,f=>by
  have d:=c l (by simp);have hg:=Ds ha (q:=q.toNat) (by omega) d.1 d.2;have b:=λq=>PN ha (u:=u) (q:=q) λm g=>c m (by simp [g]);by_cases hb:AY a.al l.toNat=true
  ·have e:BU a.al (l::u)=l::BU a.al u:=po hb
   rw [e];exact b _ hg
  ·have e:BU a.al (l::u)=BU a.al u:=qv hb
   have h:CC a q.toNat l=q:=by unfold CC;rw [if_neg hb];omega
   rw [e]
   show Dw (fA a) (CC a q.toNat l) u=_
   rw [h];exact b _ f
def Hw(u:List Int):Prop:=∀l∈u,0<=l/\l < 6
theorem Lb{a:AX}(ha:AJ a=true){u v:List Int}(c:Hw u)(b:Hw v)(h:BU a.al u=BU a.al v):Er a u=Er a v:=by
 have d:=AG ha;unfold Er;rw [PN ha c ⟨by omega,by omega⟩,PN ha b ⟨by omega,by omega⟩,h]
theorem TJ{al:Int}{u:List Int}(a:Hw u):Hw (BU al u):=λl b=>a l (oh.1 b).1
theorem TK{al:Int}{u:List Int}(a:Hw u):∀l∈BU al u,l∈Ac al:=λl b=>by
 obtain⟨d,c⟩:=oh.1 b;have:=a l d
 obtain⟨n,rfl⟩:∃n:Nat,l=n:=⟨l.toNat,by omega⟩
 exact Eg.2 ⟨by omega,c⟩
theorem GS{al:Int}{u:List Int}(a:∀l∈u,l∈Ac al):Hw u:=λl b=>by have:=Au (a l b);omega
theorem Mr{al bl:Int}{u:List Int}(h:∀l∈u,AY al l.toNat=true->AY bl l.toNat=true):BU al (BU bl u)=BU al u:=by
 unfold BU;rw [rF];refine qC λl a=>?_;cases ha:AY al l.toNat
 ·rfl
 ·rw [h l a ha];rfl
theorem gk{al:Int}:∀ {v w:List Int},w <+: BU al v->∃v',v' <+: v/\BU al v'=w:=λ{v w} ⟨z,h⟩=>by
 obtain⟨a,c,rfl,b,_⟩:=List.filter_eq_append_iff.1 h.symm;exact⟨a,rC _ _,b⟩
theorem ew{s:Sys}{u v:List Int}(h:u <+: v)(a:Fk s v):Fk s u:=by
 obtain⟨z,rfl⟩:=h;obtain⟨q,b⟩:=a;obtain⟨y,c,_⟩:=FN.1 b;exact⟨y,c⟩
theorem merge{A B:Int->Bool}:∀(u:List Int) {v:List Int},(∀l∈u,A l=true)->(∀l∈v,B l=true)->u.filter B=v.filter A->∃x:List Int,x.filter A=u/\x.filter B=v/\∀l∈x,l∈u\/l∈v
 | [],v,_,b,h=>⟨v,h.symm,List.filter_eq_self.2 b,λl n=>.inr n⟩
 | l :: u, v,g,b,h=>by
  have i:=g l (by simp);by_cases c:B l=true
  ·rw [po c] at h
   obtain⟨k,j,rfl,p,q,o⟩:=List.filter_eq_cons_iff.1 h.symm;obtain⟨x,f,e,d⟩:=merge u (v:=j) (λm a=>g m (by simp [a])) (λm a=>b m (by simp [a])) o.symm;refine⟨k++l::x,?_,?_,λm a=>?_⟩
   ·rw [pm,q6.2 p,po i,f];rfl
   ·rw [pm,List.filter_eq_self.2 λm a=>b m (by simp [a]),po c,e]
   ·rcases em.1 a with a|a
    ·exact .inr (by simp [a])
    ·rcases n8.1 a with rfl|a
     ·exact .inl (by simp)
     ·rcases d m a with h|h
      ·exact .inl (by simp [h])
      ·exact .inr (by simp [h])
  ·rw [qv c] at h
   obtain⟨x,f,e,d⟩:=merge u (v:=v) (λm a=>g m (by simp [a])) b h;refine⟨l::x,?_,?_,λm a=>?_⟩
   ·rw [po i,f]
   ·rw [qv c,e]
   ·rcases n8.1 a with rfl|a
    ·exact .inl (by simp)
    ·rcases d m a with h|h
     ·exact .inl (by simp [h])
     ·exact .inr h
theorem MH{a b:Int}(ha:A8 a=true)(hb:A8 b=true){n:Nat}(c:n < 64):AY (Gw .i64 a b) n=(AY a n || AY b n):=by
 unfold A8 at ha hb;simp only [decide_eq_true_eq] at ha hb
 obtain⟨x,rfl⟩:∃x:Nat,a=x:=⟨a.toNat,by omega⟩
 obtain⟨y,rfl⟩:∃y:Nat,b=y:=⟨b.toNat,by omega⟩
 have h:=Lu (a:=x) (b:=y) (by omega) (by omega);rw [h.1,Di (by omega) c,Di (by omega) c,Di (by omega) c,pC]
theorem fq{a b:Int}(ha:A8 a=true)(hb:A8 b=true){n:Nat}(c:n < 64):AY (Gi .i64 a b) n=(AY a n && AY b n):=by
 unfold A8 at ha hb;simp only [decide_eq_true_eq] at ha hb
 obtain⟨x,rfl⟩:∃x:Nat,a=x:=⟨a.toNat,by omega⟩
 obtain⟨y,rfl⟩:∃y:Nat,b=y:=⟨b.toNat,by omega⟩
 have h:=Ls (a:=x) (b:=y) (by omega) (by omega);have d:x &&& y < 64:=Nat.lt_of_le_of_lt ru (by omega);rw [h,Di (by omega) c,Di (by omega) c,Di (by omega) c,qy]
structure Fb (s:Sys) (p:AX) (t:Sys) (al:Int):Prop where
 hs:AW s=true
 hp:AJ p=true
 ht:AW t=true
 hal:al=AP s p t
section
variable {s t:Sys}{p:AX}{al:Int}(hI:Fb s p t al)
include hI
theorem cC{n:Nat}(a:n < 64):AY al n=((AY s.al n || AY p.al n) && AY t.al n):=by
 have c:=(AO hI.hs).1;have b:=(AG hI.hp).1;have d:=(AO hI.ht).1;rw [hI.hal];unfold AP;rw [hI.hs,hI.hp,hI.ht];simp only [rI,if_true];rw [fq (Lt c b) d a,MH c b a]
theorem Rs:A8 al=true:=by
 have g:=(AO hI.hs).1;have f:=(AG hI.hp).1;have i:=(AO hI.ht).1;have h:=Lt g f;rw [hI.hal];unfold AP;rw [hI.hs,hI.hp,hI.ht];simp only [rI,if_true];unfold A8 at *;simp only [decide_eq_true_eq] at *
 obtain⟨x,d⟩:∃x:Nat,Gw .i64 s.al p.al=x:=⟨(Gw .i64 s.al p.al).toNat,by omega⟩
 obtain⟨y,c⟩:∃y:Nat,t.al=y:=⟨t.al.toNat,by omega⟩
 have:=Ls (a:=x) (b:=y) (by omega) (by omega);have e:x &&& y < 64:=Nat.lt_of_le_of_lt ru (by omega);rw [d,c,this];omega
theorem Gq:Bg ⟨s,p,al⟩=true:=by
 unfold Bg;rw [hI.hs,hI.hp,Rs hI];rfl
theorem bK{a:AX}(ha:AJ a=true)(hal:a.al=al)(m:∀u,Hw u->(∀l∈u,AY s.al l.toNat=true\/AY al l.toNat=true)->Fk s u->Er a u=true->Er p u=true)
 (k:∀v,(∀l∈v,l∈Ac t.al)->Fk t v->Er a v=true) {x:List Int} (e:Hw x) (f:∀l∈x,AY s.al l.toNat=true\/AY t.al l.toNat=true) (hs:Fk s x) (ht:Fk t x):Er p x=true:=by
 have c:=λl (b:l∈x)=>cC hI (n:=l.toNat) (by have:=e l b;omega);have j:=TJ (al:=t.al) e;have r:Er a (BU t.al x)=true:=k _ (TK e) ((Mh (by rw [Mr λ_ _ h=>h])).1 ht)
 let u:=x.filter λl=>AY s.al l.toNat || AY al l.toNat
 have g:Hw u:=λl f=>e l (oh.1 f).1
 have d:∀ {bl:Int},(∀l∈x,AY bl l.toNat=true->(AY s.al l.toNat || AY al l.toNat)=true)->BU bl u=BU bl x:=λ{bl} h=>by
  show List.filter _ (List.filter _ x)=List.filter _ x
  rw [rF];refine qC λl f=>?_;cases hb:AY bl l.toNat
  ·rfl
  ·rw [h l f hb];rfl
 have q:Er a u=true:=by
  rw [Lb ha g j,r]
  rw [hal,d λl _ h=>by rw [h,qH],Mr λl b h=>by
   have:=c l b;rw [h] at this
   revert this;cases AY t.al l.toNat<;>simp]
 have o:=m u g (λl b=>by have:=(oh.1 b).2;simpa using this) ((Mh (d λl _ h=>by rw [h];rfl)).2 hs) q;rw [<-o];refine Lb hI.hp e g (d λl b h=>?_).symm;have:=c l b;rw [h,qH,oM] at this
 rcases f l b with i|i
 ·rw [i];rfl
 ·rw [this,i,qH]
theorem VK{v:List Int}(y:∀l∈v,l∈Ac t.al)(ht:Fk t v)(G:LS ⟨s,p,al⟩ (Dx (BU al v))=false):∃x,Hw x/\(∀l∈x,AY s.al l.toNat=true\/AY t.al l.toNat=true)/\Fk s x/\Fk t x/\Er p x=false:=by
 have m:=GS y;obtain⟨u,A,J,I,H⟩:=(Qe (Gq hI) (TK m)).1 G
 have d:Hw u:=λl a=>by
  rcases A l a with h|h
  ·have:=DN (Gq hI) h;omega
  ·have:=Au h;omega
 obtain⟨v',w,F⟩:=gk J;have g:∀l∈v',l∈Ac t.al:=λl a=>y l (w.subset a);have b:=λ(l:Int) (h:0<=l/\l < 6)=>cC hI (n:=l.toNat) (by omega)
 have q:∀l∈u,(AY s.al l.toNat || AY al l.toNat)=true:=λl a=>by
  rcases A l a with h|h
  ·rw [(DN (Gq hI) h).2.2];rfl
  ·rw [(Au h).2.2,qH]
 have o:∀l∈v',AY t.al l.toNat=true:=λl a=>(Au (g l a)).2.2
 have e:u.filter (λl=>AY t.al l.toNat)=v'.filter λl=>AY s.al l.toNat || AY al l.toNat:=by
  have L:u.filter (λl=>AY t.al l.toNat)=BU al u:=qC λl a=>by
   have c:=q l a;rw [b l (d l a)] at c |-;revert c;cases AY s.al l.toNat<;>cases AY p.al l.toNat<;>cases AY t.al l.toNat<;>simp
  have K:v'.filter (λl=>AY s.al l.toNat || AY al l.toNat)=BU al v':=qC λl a=>by
   have c:=o l a;rw [b l (GS g l a),c];cases AY s.al l.toNat<;>cases AY p.al l.toNat<;>simp
  rw [L,K,F]
 obtain⟨x,B,k,r⟩:=merge u q o e
 have f:Hw x:=λl a=>by
  rcases r l a with h|h
  ·exact d l h
  ·exact GS g l h
 have i:∀l∈x,AY s.al l.toNat=true\/AY t.al l.toNat=true:=λl a=>by
  rcases r l a with h|h
  ·have c:=q l h
   rw [b l (d l h)] at c;revert c;cases AY s.al l.toNat<;>cases AY p.al l.toNat<;>cases AY t.al l.toNat<;>simp
  ·exact .inr (o l h)
 have j:∀ {bl:Int},(∀l∈x,AY bl l.toNat=true->(AY s.al l.toNat || AY al l.toNat)=true)->BU bl u=BU bl x:=λ{bl} h=>by
  rw [<-B]
  show List.filter _ (List.filter _ x)=List.filter _ x
  rw [rF];refine qC λl a=>?_;cases hb:AY bl l.toNat
  ·rfl
  ·rw [h l a hb];rfl
 refine⟨x,f,i,(Mh (j λl _ h=>by rw [h];rfl)).1 I,?_,?_⟩
 ·have:=ew w ht
  refine(Mh ?_).1 this;have k:BU t.al x=v':=k;rw [<-k,Mr λ_ _ h=>h]
 ·rw [<-H]
  refine Lb hI.hp f d (j λl z h=>?_).symm;have:=b l (f l z);rw [h,qH,oM] at this
  rcases i l z with c|c
  ·rw [c];rfl
  ·rw [this,c,qH]
end
section
variable {a b:AX}(ha:AJ a=true)(hb:AJ b=true)(hal:a.al=b.al)(hL:∀w,AR (A7 a.al) w->LA a w=LA b w)
include ha hb hal hL
end
theorem JG{al:Int}{u:List Int}(c:Hw u)(h:∀l∈u,AY al l.toNat=true):∀l∈u,l∈Ac al:=λl a=>by
 have:=c l a
 obtain⟨n,rfl⟩:∃n:Nat,l=n:=⟨l.toNat,by omega⟩
 have b:=h _ a;rw [io] at b;exact Eg.2 ⟨by omega,b⟩
theorem So{g:Gr}{w:List Int}(h:DD g=some w):over g w/\SF g w/\∀u,over g u->SF g u->¬slt u w:=by
 have:=DE g;rw [h] at this;exact this
theorem XW{g:Gr}(h:DD g=none):∀u,over g u->¬SF g u:=by
 have:=DE g;rw [h] at this;exact this
theorem KO{s:Sys}{a p:AX}{w:List Int}(h:DK s a p=some w):CR s a p=true/\(∀l∈w,l∈Ac (Gw .i64 s.al a.al))/\Fk s w/\Er a w=true/\Er p w=false:=by
 unfold DK at h;by_cases b:CR s a p=true
 ·rw [if_pos b] at h
  obtain⟨c,d,_⟩:=So h;exact⟨b,c,(jb b c).1 d⟩
 ·rw [if_neg b] at h;cases h
theorem WK{s:Sys}{a p:AX}(d:CR s a p=true):Jd s a p=true↔∀w,(∀l∈w,l∈Ac (Gw .i64 s.al a.al))->Fk s w->Er a w=true->Er p w=true:=by
 unfold Jd DK;rw [d,oM,if_pos rfl];constructor
 ·intro h w g c f
  cases b:DD (En (Eb s a p)) with
  | some x=>rw [b] at h;cases h
  | none=>
   have:=XW b w g;rw [jb d g] at this;cases e:Er p w
   ·exact absurd ⟨c,f,e⟩ this
   ·rfl
 ·intro h
  cases b:DD (En (Eb s a p)) with
  | none=>rfl
  | some x=>
   obtain⟨c,f,_⟩:=So b;obtain⟨e,j,i⟩:=(jb d c).1 f;rw [h x c e j] at i;cases i
theorem XF{l:List Sys}{p:AX}{w:List Int}(h:BV l p=some w):(A3 l && AJ p)=true/\(∀m∈w,m∈Ac (Bz l))/\(∀s∈l,Fk s w)/\Er p w=false:=by
 unfold BV at h;by_cases a:(A3 l && AJ p)=true
 ·rw [if_pos a] at h
  obtain⟨b,c,_⟩:=So h;exact⟨a,b,(ja a b).1 c⟩
 ·rw [if_neg a] at h;cases h
theorem Ky{l:List Sys}{p:AX}(c:(A3 l && AJ p)=true):Du l p=true↔∀w,(∀m∈w,m∈Ac (Bz l))->(∀s∈l,Fk s w)->Er p w=true:=by
 unfold Du BV;rw [c,oM,if_pos rfl];constructor
 ·intro h w e b
  cases a:DD (En (C0 l p)) with
  | some x=>rw [a] at h;cases h
  | none=>
   have:=XW a w e;rw [ja c e] at this;cases d:Er p w
   ·exact absurd ⟨b,d⟩ this
   ·rfl
 ·intro h
  cases a:DD (En (C0 l p)) with
  | none=>rfl
  | some x=>
   obtain⟨b,g,_⟩:=So a;obtain⟨d,f⟩:=(ja c b).1 g;rw [h x b d] at f;cases f
theorem Ub(n:Nat)(a:n < 64):AY 0 n=false:=by
 have:=Di (s:=0) (n:=n) (by omega) a;rw [show ((0:Nat):Int)=0 from rfl] at this;rw [this];simp
theorem HT{t:Sys}:A3 [t]=AW t:=by simp [A3]
theorem JH{s t:Sys}:A3 [s,t]=(AW s && AW t):=by simp [A3]
theorem X7{t:Sys}(ht:AW t=true){n:Nat}(a:n < 64):AY (Bz [t]) n=AY t.al n:=by
 unfold Bz;rw [HT,ht,if_pos rfl]
 show AY (Gw .i64 0 t.al) n=_
 rw [MH (by decide) (AO ht).1 a,Ub n a,qJ]
theorem X8{s t:Sys}(hs:AW s=true)(ht:AW t=true){n:Nat}(a:n < 64):AY (Bz [s,t]) n=(AY s.al n || AY t.al n):=by
 unfold Bz;rw [JH,hs,ht,rI,if_pos rfl]
 show AY (Gw .i64 (Gw .i64 0 s.al) t.al) n=_
 have b:A8 0=true:=by decide
 rw [MH (Lt b (AO hs).1) (AO ht).1 a,MH b (AO hs).1 a,Ub n a,qJ]
theorem dg{t:Sys}(ht:AW t=true){u:List Int}:(∀l∈u,l∈Ac (Bz [t]))↔∀l∈u,l∈Ac t.al:=by
 constructor
 ·intro h
  have a:=GS h
  exact JG a λl b=>by rw [<-X7 ht (by have:=a l b;omega)];exact(Au (h l b)).2.2
 ·intro h
  have a:=GS h
  exact JG a λl b=>by rw [X7 ht (by have:=a l b;omega)];exact(Au (h l b)).2.2
theorem YN{s t:Sys}(hs:AW s=true)(ht:AW t=true){u:List Int}:(∀l∈u,l∈Ac (Bz [s,t]))↔Hw u/\∀l∈u,AY s.al l.toNat=true\/AY t.al l.toNat=true:=by
 constructor
 ·intro h
  have a:=GS h;refine⟨a,λl b=>?_⟩;have:=(Au (h l b)).2.2;rw [X8 hs ht (by have:=a l b;omega),og] at this;exact this
 ·rintro⟨a,h⟩
  exact JG a λl b=>by rw [X8 hs ht (by have:=a l b;omega),og];exact h l b
theorem ie{a b:Int}(ha:A8 a=true)(hb:A8 b=true){u:List Int}:(∀l∈u,l∈Ac (Gw .i64 a b))↔Hw u/\∀l∈u,AY a l.toNat=true\/AY b l.toNat=true:=by
 constructor
 ·intro h
  have c:=GS h;refine⟨c,λl d=>?_⟩;have:=(Au (h l d)).2.2;rw [MH ha hb (by have:=c l d;omega),og] at this;exact this
 ·rintro⟨c,h⟩
  exact JG c λl d=>by rw [MH ha hb (by have:=c l d;omega),og];exact h l d
theorem Zs{s t:Sys}{w:List Int}:(∀x∈[s,t],Fk x w)↔Fk s w/\Fk t w:=by simp
theorem YO{t:Sys}{w:List Int}:(∀x∈[t],Fk x w)↔Fk t w:=by simp
theorem Uk{s t:Sys}{p a:AX}(h:EP s t p a=0):Du [s,t] p=true/\Jd s a p=true/\Du [t] a=true:=by
 unfold EP at h;split at h
 ·cases h
 rename_i c;split at h
 ·cases h
 rename_i m;split at h
 ·cases h
 rename_i G;split at h
 ·cases h
 rename_i F
 have hk:Jd s a p=true:=by simpa using G
 have b:Du [t] a=true:=by simpa using F
 refine⟨?_,hk,b⟩;rw [not_or] at c
 have n:(AW s && AJ p && AW t)=true:=by
  have o:=c.1;unfold AP at o;split at o
  ·assumption
  ·omega
 have ha:AJ a=true:=by simpa using c.2
 simp only [d4] at n;obtain⟨⟨e,f⟩,d⟩:=n;have hal:a.al=AP s p t:=Classical.not_not.1 m
 have hI:Fb s p t a.al:=⟨e,f,d,hal⟩
 have y:CR s a p=true:=by unfold CR;rw [e,ha,f];rfl
 have l:(A3 [t] && AJ a)=true:=by rw [HT,d,ha];rfl
 have k:(A3 [s,t] && AJ p)=true:=by rw [JH,e,d,f];rfl
 rw [WK y] at hk;rw [Ky l] at b;rw [Ky k];intro w x z;obtain⟨A,B⟩:=(YN e d).1 x;obtain⟨r,q⟩:=Zs.1 z;exact bK hI ha rfl (λu i j c m=>hk u ((ie (AO e).1 (AG ha).1).2 ⟨i,j⟩) c m) (λv g c=>b v ((dg d).2 g) (YO.2 c)) A B r q
theorem TF{s t:Sys}{p:AX}{al:Int}(hI:Fb s p t al){v:List Int}(g:∀l∈v,l∈Ac t.al)(ht:Fk t v)(h:LS ⟨s,p,al⟩ (Dx (BU al v))=false):Du [s,t] p=false:=by
 have a:(A3 [s,t] && AJ p)=true:=by rw [JH,hI.hs,hI.ht,hI.hp];rfl
 obtain⟨x,f,e,d,c,b⟩:=VK hI g ht h;cases hk:Du [s,t] p
 ·rfl
 ·rw [Ky a] at hk
  rw [hk x ((YN hI.hs hI.ht).2 ⟨f,e⟩) (Zs.2 ⟨d,c⟩)] at b;cases b
theorem bz{a:AX}{w:List Int}(b:∀l∈w,l∈Ac a.al):LA a (Dx w)=Er a w:=by
 unfold Er;rw [RV w 0 b];rfl
theorem XH{s t:Sys}{p a:AX}{al:Int}(hI:Fb s p t al)(ha:AJ a=true)(hal:a.al=al){u:List Int}(h:DK s a p=some u):(∀l∈BU al u,l∈Ac al)/\LA a (Dx (BU al u))=true/\LS ⟨s,p,al⟩ (Dx (BU al u))=false:=by
 obtain⟨n,i,hs,k,j⟩:=KO h;have e:=GS i;have c:=TK (al:=al) e;have d:=((ie (AO hI.hs).1 (AG ha).1).1 i).2;refine⟨c,?_,(Qe (Gq hI) c).2 ⟨u,λl b=>?_,q8 _,hs,j⟩⟩
 ·rw [bz (by rw [hal];exact c),<-k]
  exact Lb ha (TJ e) e (by rw [hal,Mr λ_ _ h=>h])
 ·have hb:=e l b
  rw [hal] at d;by_cases f:AY al l.toNat=true
  ·exact .inr (JG (u:=[l]) (by intro m b;simp at b;subst b;exact hb) (by intro m b;simp at b;subst b;exact f) l (by simp))
  ·refine .inl ?_
   unfold Cv;refine oh.2 ⟨?_,by simpa using f⟩;have g:AY s.al l.toNat=true:=(d l b).resolve_right f;exact JG (u:=[l]) (by intro m b;simp at b;subst b;exact hb) (by intro m b;simp at b;subst b;exact g) l (by simp)
theorem Hk{t:Sys}{a:AX}{v:List Int}(h:BV [t] a=some v):AW t=true/\AJ a=true/\(∀l∈v,l∈Ac t.al)/\Fk t v/\Er a v=false:=by
 obtain⟨b,c,hs,d⟩:=XF h;rw [d4,HT] at b;exact⟨b.1,b.2,(dg b.1).1 c,YO.1 hs,d⟩
theorem Wx{t:Sys}{a:AX}{v:List Int}(h:BV [t] a=some v):(∀l∈BU a.al v,l∈Ac a.al)/\LA a (Dx (BU a.al v))=false:=by
 obtain⟨i,f,e,g,d⟩:=Hk h;have c:=GS e;have b:=TK (al:=a.al) c;refine⟨b,?_⟩;rw [bz b,<-d];exact Lb f (TJ c) c (by rw [Mr λ_ _ h=>h])
end Go.Am
namespace Go.Am
open Go Go.Proofs
set_option maxHeartbeats 1000000
set_option maxRecDepth 4000
attribute [local irreducible] A6 Cz Lex Bv Aj Spec
variable {TB:BF}
def Uh(o:Option AX):E:=match o with
 | some p=>.t [(true,[.d (iD p.al),.d (CZ p.nx),.d (Fc p.ac)]),(false,[.d (bD true)])]
 | none=>.t [(true,[.d (iD 0),.d (.l []),.d (.l [])]),(false,[.d (bD false)])]
theorem Ht{t:EE}{al:Int}{A:W->Bool}(v:Kj Tryz.prog TB 123 170 t al A)(tab:A1)(f:VR tab) :
 Pure Tryz.prog TB 70 [EL t,Ef tab] (Uh (if BA A al tab then some (AZ A al tab) else none)):=by
 have x:=P5 v tab f;by_cases i:BA A al tab=true
 ·rw [if_pos i]
  rw [i] at x;obtain⟨y,V,N⟩:=Jx i;have e:=(Ek y).1;have U:=e.r1;have S:=e.rl;have N:=e.cl;have h2:=v.alph;have h3:=Cj (TB:=TB) al;have h4:Pure Tryz.prog TB 124 [EL t,BT tab.cols,BT tab.rows] (BT (AI A tab)):=KA v tab.cols tab.rows f.cl (λw R=>by have:=f.rb w R;omega) f.cb f.rl;have hla:(Ac al).length<=6:=AM al 6
  have Y:(AI A tab).length=tab.rows.length:=by simp [AI]
  refine eG Tryz.func70 rfl (by kernel_rfl) rfl ?_;intro Γ c;(repeat first|refine tA rfl ?_ |refine s2 rfl λ_ a=>?_ |refine sP rfl (x) rfl ?_ |refine aU rfl ?_ |apply Aa)
  ((refine aC rfl ?_ ?_<;>rintro⟨⟩);all_goals try (simp at a;done))
  apply aK;(repeat first|refine tX rfl ?_ |refine sP rfl (h2) rfl ?_ |refine aU rfl ?_);(refine pW rfl ?_ rfl (by rfl);refine JF 1 1 64 2 1 4 rfl rfl (by decide) rfl rfl (by rfl) (by rfl) ?_);(repeat first|refine tX rfl ?_ |refine sP rfl (h3) rfl ?_|refine sP rfl (h4) rfl ?_ |refine aU rfl ?_ |apply Aa);apply aB;refine aL (α:={k:Nat // k<=tab.rows.length}) [2,3,4,6,7,8] [0] rfl rfl (λ⟨k,hk⟩=>[(9,eI .i64 k)]) (λ⟨k,hk⟩=>[(1,.cells 64 1 (((AZ A al tab).nx.take k).map λr=>[.d (Fe r)])),(2,.cells 4 1 (((AZ A al tab).ac.take k).map λb=>[.d (bD b)])),(3,.cells 29 3 [[.d (iD al),.arr 1 1 0 k,.arr 2 1 0 k]])]) 4 (λ⟨k,hk⟩=>tab.rows.length - k) (⟨0,by omega⟩) c rfl (by (simp[cX,zC,c])) ?_;rintro⟨k,hk⟩;(try dsimp only[cA,cB])
  have X:(AZ A al tab).nx.length=tab.rows.length:=by simp [AZ]
  have hac:(AZ A al tab).ac.length=tab.rows.length:=by simp [AZ]
  by_cases I:k < tab.rows.length
  ·obtain⟨r,n⟩:=get_some I
   have Q:=get_map (g:=CQ) n;have m:=co n;have T:=f.rb r m
   have hm:(AI A tab)[k]? = some (marks A tab.cols r):=by simp [AI,n]
   have hm':=get_map (g:=CQ) hm
   have Z:(marks A tab.cols r)[(0:Int).toNat]? = some (RE (A r)):=by
    have:=e.c0;simp [marks,this]
   (repeat first|refine sN rfl ?_ |refine tX rfl ?_ |refine s2 rfl λ_ a=>?_ |refine aU rfl ?_ |apply Aa);refine Aj.cond rfl (λhb=>?_) (λhb=>?_)<;>cases hb
   rotate_left
   ·exfalso;(simp only[oZ] at *;omega)
   apply aK;refine aS (aB ?_);(repeat first|refine aU rfl ?_);(refine pW rfl ?_ rfl (by rfl);refine Bk rfl rfl rfl rfl (by simp) (by rfl) (by rfl) (by rfl) (by rfl) ?_);(repeat first|refine tX rfl ?_ |refine aU rfl ?_ |apply Aa);apply aB;refine aL (α:={j:Nat // j<=(Ac al).length}) [2,3,4,6,7,8,9] [0,1,2,3] rfl rfl (λ⟨j,L⟩=>[(10,.o (.arr 4 1 0 j)),(11,eI .i64 j)]) (λ⟨j,L⟩=>[(4,.cells 3 1 (((Ac al).take j).map λl=>[.d (iD ((C3 A tab (r++[lb l]):Nat):Int))]))]) 5 (λ⟨j,L⟩=>(Ac al).length - j) (⟨0,by omega⟩) c rfl (by (simp[cX,zC,c])) ?_;rintro⟨j,L⟩;(try dsimp only[cA,cB]);by_cases s:j < (Ac al).length
   ·obtain⟨l,K⟩:=get_some s
    have hl':=get_map (g:=Br) K;have q:=co K;have J:=Au q;have z:Pure Tryz.prog TB 127 [eI .i64 l] (eT [lb l]):=HP l J.1 (by omega);have p:=MV v tab.cols (r++[lb l]) f.cl (by simp;omega) f.cb;have H:marks A tab.cols (r++[lb l])∈AI A tab:=GU V r m (lb l) (Ow q);have M:Pure Tryz.prog TB 125 [BT (AI A tab),eT (marks A tab.cols (r++[lb l]))] (eI .i64 (C3 A tab (r++[lb l]):Nat)):=Uy (AI A tab) _ H (by omega);(repeat first|refine sN rfl ?_ |refine tX rfl ?_ |refine s2 rfl λ_ a=>?_ |refine aU rfl ?_ |apply Aa);refine Aj.cond rfl (λhb=>?_) (λhb=>?_)<;>cases hb
    rotate_left
    ·exfalso;(simp only[oZ] at *;omega)
    apply aK;refine aS (aB ?_);refine rG (He [19]) (by kernel_rfl) ?_;(repeat first|(refine sA rfl ?_ ?_;first|exact tI|simp only[oZ] at *;omega) |(refine s4 rfl ‹_› rfl ?_ ?_;omega) |refine sP rfl (z) rfl ?_|refine sP rfl (p) rfl ?_|refine sP rfl (M) rfl ?_);(refine pW rfl ?_ rfl (by rfl);refine Al rfl rfl rfl (by first| (simp;done)|(simp;(omega))) rfl (by intro r h;simp at h;subst h;rfl) (by rfl) (am rfl) (by simp;omega) ?_);(repeat first|(refine sA rfl ?_ ?_;first|exact tI|omega) |refine aU rfl ?_ |apply Aa);refine⟨⟨j+1,by omega⟩,by dsimp only;(omega),[0,1,2,3,5],?_⟩;(simp[cX,zC,c,d8,K])
   ·obtain rfl:j=(Ac al).length:=by omega
    have G:(AZ A al tab).nx.take (k+1)=(AZ A al tab).nx.take k++[(Ac al).map λl=>((C3 A tab (r++[lb l]):Nat):Int)]:=by
     rw [d8];simp [AZ,n]
    have u:(AZ A al tab).ac.take (k+1)=(AZ A al tab).ac.take k++[A r]:=by
     rw [d8];simp [AZ,n]
    rw [ge];(repeat first|refine sN rfl ?_ |refine tX rfl ?_ |refine s2 rfl λ_ a=>?_ |refine aU rfl ?_ |apply Aa);refine Aj.cond rfl (λhb=>?_) (λhb=>?_)<;>cases hb
    ·exfalso;(simp only[oZ] at *;omega)
    apply aE;refine Aj.Yw [4] [2,3,4,6,7,8,9] rfl [(10,Ak ((Ac al).map λl=>((C3 A tab (r++[lb l]):Nat):Int)))] ⟨⟨_,rfl,.o (.full (by simp) rfl (by simp [d5]) (by simp))⟩,trivial⟩ ?_;(try dsimp only[cA,cB]);(repeat first|refine tA rfl ?_ |refine aU rfl ?_);(refine pW rfl ?_ rfl (by rfl);refine Al rfl rfl rfl (by first| (simp;done)|(simp;(omega))) rfl (by intro r h;simp at h;subst h;rfl) (by rfl) (am rfl) (by simp;omega) ?_);(repeat first|refine tA rfl ?_ |apply Aa);refine rG (He [9,11]) (by kernel_rfl) ?_;(repeat first|refine tA rfl ?_ |(refine s4 rfl ‹_› rfl ?_ ?_;omega) |refine s2 rfl λ_ a=>?_);rename_i b
    have P:b=A r:=by
     cases hA:A r<;>cases b<;>simp [hA,RE] at a<;>rfl
    subst P;(refine pW rfl ?_ rfl (by rfl);refine Al rfl rfl rfl (by first| (simp;done)|(simp;(omega))) rfl (by intro r h;simp at h;subst h;rfl) (by rfl) (am rfl) (by simp;omega) ?_);(repeat first|(refine sA rfl ?_ ?_;first|exact tI|omega) |refine aU rfl ?_ |apply Aa);refine⟨⟨k+1,by omega⟩,by dsimp only;(omega),[0,5,6,3],?_⟩;(simp[cX,zC,c,G,u])
  ·obtain rfl:k=tab.rows.length:=by omega
   have F:(AZ A al tab).nx.take tab.rows.length=(AZ A al tab).nx:=gc (by simp [AZ]);have B:(AZ A al tab).ac.take tab.rows.length=(AZ A al tab).ac:=gc (by simp [AZ]);rw [F,B];(repeat first|refine sN rfl ?_ |refine tX rfl ?_ |refine s2 rfl λ_ a=>?_ |refine aU rfl ?_ |apply Aa);refine Aj.cond rfl (λhb=>?_) (λhb=>?_)<;>cases hb
   ·exfalso;(simp only[oZ] at *;omega)
   apply aE;(repeat first|refine tX rfl ?_ |refine aU rfl ?_ |apply Aa);refine Aj.settle [(4,.o (.ip [iD al,CZ (AZ A al tab).nx,Fc (AZ A al tab).ac])),(5,eB true)] ⟨⟨_,rfl,.o (.box rfl (.cons .d (.cons (.full rfl (by simp [d5]) (by simp [AZ])) (.cons (.full rfl (by simp [d5]) (by simp [AZ])) .nil))))⟩,⟨_,rfl,.o .d⟩,trivial⟩ ?_;refine aR ⟨_,rfl,rfl⟩
 ·have i:BA A al tab=false:=by simpa using i
  rw [if_neg (by simp [i])];rw [i] at x;refine eG Tryz.func70 rfl (by kernel_rfl) rfl ?_;intro Γ c;(repeat first|refine tA rfl ?_ |refine s2 rfl λ_ a=>?_ |refine sP rfl (x) rfl ?_ |refine aU rfl ?_ |apply Aa)
  ((refine aC rfl ?_ ?_<;>rintro⟨⟩);all_goals try (simp at a;done))
  (repeat first|refine tA rfl ?_|(refine Af rfl ?_;refine gA rfl ?_;first| refine gS (λ_ _=>AB rfl rfl (by rfl) (by rfl)) ?_) |refine aU rfl ?_ |apply Aa);refine Aj.settle [(4,.o (.ip [iD 0,.l [],.l []])),(5,eB false)] ⟨⟨_,rfl,.o (.box rfl (.cons .d (.cons .d (.cons .d .nil))))⟩,⟨_,rfl,.o .d⟩,trivial⟩ ?_;refine aR ⟨_,rfl,rfl⟩
def OO(A:W->Bool)(al:Int)(t:A1)(w:W):Option A1:=if A2 A al t && Gs al w then FD t w else none
theorem Qn{t:EE}{al:Int}{A:W->Bool}(n:Kj Tryz.prog TB 123 170 t al A)(tab:A1)(q:VR tab)(w:W)(y:w.length<=1048576) :
 Pure Tryz.prog TB 134 [EL t,Ef tab,eT w] (IK (OO A al tab w)):=by
 have i:=FA n tab q;have g:=Ph n w (by omega);have f:=Je (TB:=TB) tab.cols w (by have:=q.cl;omega);by_cases e:(A2 A al tab && Gs al w)=true
 ·have ha:OO A al tab w=FD tab w:=by unfold OO;rw [if_pos e]
  rw [ha];rw [d4] at e;rw [e.1] at i;rw [e.2] at g;have b:bB al tab:=(Ek e.1).1;have k:=b.r1;have l:=b.c1;have s:=b.rl;have v:=b.cl;by_cases m:tab.cols.length=20\/w∈tab.cols
  ·have p:FD tab w=none:=by unfold FD;rw [if_pos m]
   rw [p];refine eG Tryz.func134 rfl (by kernel_rfl) rfl ?_;intro Γ j;(repeat' first|refine sN rfl ?_ |refine tA rfl ?_ |(refine s2 rfl λ_ a=>?_;try (simp only[pc,ph] at a;subst a)) |refine sP rfl (i) rfl ?_|refine sP rfl (g) rfl ?_|(refine sC rfl (f) ?_;intro _ a)|(refine Af rfl ?_;refine gA rfl ?_;first| refine gS (λ_ _=>AB rfl rfl (by rfl) (by rfl)) ?_) |refine s3 rfl ?_ ?_<;>rintro rfl |refine aU rfl ?_ |apply Aa |refine rE (by kernel_rfl) ?_|(refine aC rfl ?_ ?_<;>rintro⟨⟩)|apply aK|apply aE|apply aB|refine aR ⟨_,rfl,?_⟩)
   all_goals first
    | rfl
    | (exfalso;clear i g f n;simp at *;grind;done)
    | skip
  ·have p:FD tab w=some ⟨tab.rows,tab.cols++[w]⟩:=by unfold FD;rw [if_neg m]
   rw [p];have u:decide (w∈tab.cols)=false:=decide_eq_false λh=>m (.inr h);have x:tab.cols.length≠20:=λh=>m (.inl h);rw [u] at f;refine eG Tryz.func134 rfl (by kernel_rfl) rfl ?_;intro Γ j;(repeat first|refine sN rfl ?_ |refine tA rfl ?_ |(refine s2 rfl λ_ a=>?_;try (simp only[pc,ph] at a;subst a)) |refine sP rfl (i) rfl ?_|refine sP rfl (g) rfl ?_|refine sP rfl (f) rfl ?_ |refine aU rfl ?_ |apply Aa);refine Aj.cond rfl (λhb=>?_) (λhb=>?_)<;>cases hb
   ·exfalso;(simp only[oZ] at *;omega)
   apply aK;(repeat first|refine aU rfl ?_);refine rG (nn [0,1,2,4,5,6,8,9,3,7,10,11,12,13] [3,7,10,12] [0,1,2,4,5,6,8,9]) (by kernel_rfl) ?_;(repeat first|refine tX rfl ?_|(refine Af rfl ?_;refine gA rfl ?_;first| refine gS (λ_ _=>Tk (by rfl) (by rfl)) ?_|refine gS (λ_ _=>PC rfl rfl rfl rfl rfl (by rfl) (by rfl) (by rfl) (by rfl) (by rfl)) ?_));(refine pW rfl ?_ rfl (by rfl);refine EI rfl rfl rfl (by intro r c;simp at c;obtain⟨_,_,rfl⟩:=c;rfl) (by rfl) (am rfl) (by simp;omega) (λh=>?_) (λ_=>?_))
   ·exfalso;simp at h;rw [h] at k;simp at k
   (repeat first| (refine Af rfl ?_;refine gA rfl ?_;first| refine gS (λ_ _=>Tk (by rfl) (by rfl)) ?_|refine gS (λ_ _=>PC rfl rfl rfl rfl rfl (by rfl) (by rfl) (by rfl) (by rfl) (by rfl)) ?_));(refine pW rfl ?_ rfl (by rfl);refine EI rfl rfl rfl (by intro r c;simp at c;obtain⟨_,_,rfl⟩:=c;rfl) (by rfl) (am rfl) (by simp;omega) (λh=>?_) (λ_=>?_))
   ·exfalso;simp at h;rw [h] at l;simp at l
   (refine pW rfl ?_ rfl (by rfl);refine Al rfl rfl rfl (by first| (simp;done)|(simp;(omega))) rfl (by intro r c;simp at c;subst c;rfl) (by rfl) (am rfl) (by simp;omega) ?_);(repeat first|refine tA rfl ?_|(refine Af rfl ?_;refine gA rfl ?_;first| refine gS (λ_ _=>AB rfl rfl (by rfl) (by rfl)) ?_) |apply Aa);refine Aj.settle [(6,.o (.ip [Cb tab.rows,Cb (tab.cols++[w])])),(7,eB true)] ⟨⟨_,rfl,.o (.box rfl (.cons (.full rfl (by simp [d5]) (by simp)) (.cons (.full rfl (by simp [d5]) (by simp)) .nil)))⟩,⟨_,rfl,.o .d⟩,trivial⟩ ?_;refine aR ⟨_,rfl,rfl⟩
 ·have ha:OO A al tab w=none:=by unfold OO;rw [if_neg e]
  rw [ha];refine eG Tryz.func134 rfl (by kernel_rfl) rfl ?_;intro Γ j;(repeat' first|refine sN rfl ?_ |refine tA rfl ?_ |(refine s2 rfl λ_ a=>?_;try (simp only[pc,ph] at a;subst a)) |(refine sC rfl (i) ?_;intro _ a)|(refine sC rfl (g) ?_;intro _ a)|(refine sC rfl (f) ?_;intro _ a)|(refine Af rfl ?_;refine gA rfl ?_;first| refine gS (λ_ _=>AB rfl rfl (by rfl) (by rfl)) ?_) |refine s3 rfl ?_ ?_<;>rintro rfl |refine aU rfl ?_ |apply Aa |refine rE (by kernel_rfl) ?_|(refine aC rfl ?_ ?_<;>rintro⟨⟩)|apply aK|apply aE|apply aB|refine aR ⟨_,rfl,?_⟩)
  all_goals first
   | rfl
   | (exfalso;clear i g f n;simp at *;grind;done)
   | skip
def Fu(A:W->Bool)(al:Int)(t:A1)(w:W):Option W:=if BA A al t && Gs al w then CL A t w else none
theorem Pg{al:Int}{w:W}(h:Gs al w=true):AR (A7 al) w/\w.length<=4000/\within w al=true:=by
 unfold Gs at h;rw [d4,decide_eq_true_eq] at h;exact⟨Dg h.1,h.2,h.1⟩
theorem bE{A:W->Bool}{al:Int}{t:A1}{w:W}(ha:A8 al=true)(a:BS A (A7 al) t)(c:t.rows.length<=12)(b:Gs al w=true):Kl (AZ A al t) w=MF A t w:=by
 obtain⟨e,f,d⟩:=Pg b;unfold Kl;rw [Lf ha a c,KV a e]
 show (true && (within w al && _))=_
 rw [d];rfl
theorem Vz{A:W->Bool}{t:A1}{w:W}{k q:Nat}{c:UInt8}{R:Option W}(d:w[k]? = some c)(a:R=splitAt A t (A w) q (w.drop k)) :
 (A (t.rows.getD (C3 A t (t.rows.getD q []++[c])) []++w.drop (k+1))≠A w->R=some (w.drop (k+1)))/\(A (t.rows.getD (C3 A t (t.rows.getD q []++[c])) []++w.drop (k+1))=A w->R=splitAt A t (A w) (C3 A t (t.rows.getD q []++[c])) (w.drop (k+1))):=by
 have:=Mg (L:=A) (t:=t) (b:=A w) (q:=q) d;rw [this] at a;exact⟨λh=>by rw [a,if_pos h],λh=>by rw [a,if_neg (by simpa using h)]⟩
theorem QL{t:EE}{al:Int}{A:W->Bool}(F:Kj Tryz.prog TB 123 170 t al A)(hal:0<=al->A8 al=true)(tab:A1)(N:VR tab)(w:W)(hw:w.length<=1048576) :
 Pure Tryz.prog TB 133 [EL t,Ef tab,eT w] (ZF (Fu A al tab w)):=by
 have n:=Ht F tab N;have q:=Ph F w (by omega);have h4:=F.ask w (by omega);by_cases r:BA A al tab=true
 ·rw [if_pos r] at n
  obtain⟨P,ho,f⟩:=Jx r;have d:=(Ek P).1;have ha:=hal d.pos;have Z:=Lf ha f d.rl;have H:=ON (TB:=TB) (AZ A al tab) w (by omega);by_cases i:Gs al w=true
  ·rw [i] at q
   rw [bE ha f d.rl i] at H
   have hs:Fu A al tab w=CL A tab w:=by unfold Fu;rw [r,i];rfl
   rw [hs];by_cases I:MF A tab w=A w
   ·have x:CL A tab w=none:=by unfold CL;rw [if_pos I]
    rw [x];rw [I] at H;refine eG Tryz.func133 rfl (by kernel_rfl) rfl ?_;intro Γ b;(repeat' first|refine tA rfl ?_ |(refine s2 rfl λ_ a=>?_;try (simp only[pc,ph] at a;subst a)) |refine sP rfl (n) rfl ?_|refine sP rfl (q) rfl ?_|refine sP rfl (H) rfl ?_|refine sP rfl (h4) rfl ?_ |refine aU rfl ?_ |apply Aa |refine rE (by kernel_rfl) ?_|(refine aC rfl ?_ ?_<;>rintro⟨⟩)|apply aK|apply aE|apply aB|refine aR ⟨_,rfl,?_⟩)
    all_goals first
     | rfl
     | (exfalso;grind;done)
   ·obtain⟨R,K⟩:∃R,R=CL A tab w:=⟨_,rfl⟩
    rw [<-K]
    have K:R=splitAt A tab (A w) 0 (w.drop 0):=by rw [K];unfold CL;rw [if_neg I];rfl
    obtain⟨m,hw4,_⟩:=Pg i;have hrl:=d.rl;have S:=d.r1;refine eG Tryz.func133 rfl (by kernel_rfl) rfl ?_;intro Γ b;(repeat first|refine tA rfl ?_ |refine sP rfl (n) rfl ?_|refine sP rfl (q) rfl ?_|refine sP rfl (H) rfl ?_|refine sP rfl (h4) rfl ?_ |refine aU rfl ?_ |apply Aa);refine rG (He []) (by kernel_rfl) ?_;(repeat first|refine tA rfl ?_ |(refine s2 rfl λ_ a=>?_;try (simp only[pc,ph] at a;subst a)) |refine sP rfl (n) rfl ?_|refine sP rfl (q) rfl ?_|refine sP rfl (H) rfl ?_|refine sP rfl (h4) rfl ?_ |apply Aa);refine Aj.cond rfl (λhb=>?_) (λhb=>?_)<;>cases hb
    ·exfalso;exact I (by simpa using a)
    apply aK;(repeat first|refine tA rfl ?_ |refine aU rfl ?_ |apply Aa);have h0:0 < tab.rows.length:=S;apply aB;refine aL (α:={k:Nat // k<=w.length/\R=splitAt A tab (A w) (runM A tab 0 (w.take k)) (w.drop k)/\A (tab.rows.getD (runM A tab 0 (w.take k)) []++w.drop k)=A w}) [2,3,4,8] [0] rfl rfl (λ⟨k,hk,p,G⟩=>[(10,eI .i64 (runM A tab 0 (w.take k):Nat)),(11,eI .i64 k)]) (λ⟨k,hk,p,G⟩=>[]) 1 (λ⟨k,hk,p,G⟩=>w.length - k) (⟨0,by omega,K,by simp [d.r0,runM]⟩) b rfl (by (simp[cX,zC,b]<;>rfl)) ?_;rintro⟨k,hk,p,G⟩;(try dsimp only[cA,cB]);have v:=f.run (w.take k) 0 (Iv m k) h0;by_cases V:k < w.length
    ·obtain⟨c,J⟩:=get_some V
     have Y:w[((k:Nat):Int).toNat]? = some c:=by simpa using J
     have B:=m c (co J);have z:=Ho B;have X:=Ir (TB:=TB) w k c Y
     have hnl:(AZ A al tab).nx.length=tab.rows.length:=by simp [AZ]
     have y:=JC (TB:=TB) (AZ A al tab) Z (runM A tab 0 (w.take k)) (by omega) ((c.toNat:Int) - 97) z.1 z.2;have s:=Nj (L:=A) (t:=tab) J 0;have u:=f.run (w.take (k+1)) 0 (Iv m (k+1)) h0;rw [Lr (L:=A) (al:=al) (t:=tab) v B,<-s] at y;have e:=Vz J p;rw [<-s] at e;obtain⟨M,l⟩:=get_some v;have hx1':=get_map (g:=CQ) l;obtain⟨o,j⟩:=get_some u;have hx2':=get_map (g:=CQ) j
     have e1:tab.rows.getD (runM A tab 0 (w.take k)) []=M:=by simp [l]
     have e2:tab.rows.getD (runM A tab 0 (w.take (k+1))) []=o:=by simp [j]
     have hr1b:=N.rb M (co l);have hr2b:=N.rb o (co j);rw [e1] at G;rw [e2] at e
     have U:Pure Tryz.prog TB 170 [EL t,eT (M++w.drop ((k:Nat):Int).toNat)] (eB (A w)):=by
      rw [io,<-G];exact F.ask _ (by simp;omega)
     have ek:(((k:Nat):Int)+1).toNat=k+1:=by omega
     have T:Pure Tryz.prog TB 170 [EL t,eT (o++w.drop (((k:Nat):Int)+1).toNat)] (eB (A (o++w.drop (k+1)))):=by
      rw [ek];exact F.ask _ (by simp;omega)
     have hd1:(w.drop ((k:Nat):Int).toNat).length<=1048576:=by simp;omega
     have hd2:(w.drop (((k:Nat):Int)+1).toNat).length<=1048576:=by simp;omega
     (repeat first|refine tA rfl ?_ |refine s2 rfl λ_ a=>?_ |refine aU rfl ?_ |apply Aa);refine Aj.cond rfl (λhb=>?_) (λhb=>?_)<;>cases hb
     rotate_left
     ·exfalso;(simp only[oZ] at *;omega)
     (repeat' first|(refine sA rfl ?_ ?_;first|exact tI|omega) |(refine s4 rfl ‹_› rfl ?_ ?_;omega) |refine s2 rfl λ_ a=>?_ |refine sP rfl (X) rfl ?_|refine sP rfl (y) rfl ?_|refine sP rfl (U) rfl ?_|refine sP rfl (T) rfl ?_|(refine Af rfl ?_;refine gA rfl ?_;first| refine gS (λ_ _=>Ep rfl rfl (by omega) (by omega)) ?_) |refine aU rfl ?_ |apply Aa |refine rE (by kernel_rfl) ?_|(refine aC rfl ?_ ?_<;>rintro⟨⟩)|apply aK|apply aE|apply aB|refine aR ⟨_,rfl,?_⟩)
     ·have x:=e.1 (by intro h;rw [h] at a;simp at a)
      rw [x]
      show E.t _=E.t _
      rw [ek]
     ·have Q:=e.2 (by simpa using (by simpa using a:A w=A (o++w.drop (k+1))).symm)
      have hA2:A (tab.rows.getD (runM A tab 0 (w.take (k+1))) []++w.drop (k+1))=A w:=by rw [e2];exact(by simpa using a:A w=A (o++w.drop (k+1))).symm
      refine⟨⟨k+1,by omega,Q,hA2⟩,by dsimp only;(omega),[0],?_⟩;simp[cX,zC,b]
    ·obtain rfl:k=w.length:=by omega
     rw [qp] at p;have x:R=none:=p;rw [x];(repeat first|refine tA rfl ?_ |refine s2 rfl λ_ a=>?_ |refine aU rfl ?_ |apply Aa);refine Aj.cond rfl (λhb=>?_) (λhb=>?_)<;>cases hb
     ·exfalso;(simp only[oZ] at *;omega)
     (repeat' first|refine tA rfl ?_ |refine aU rfl ?_ |apply Aa|(refine aC rfl ?_ ?_<;>rintro⟨⟩)|apply aK|apply aE|apply aB|refine aR ⟨_,rfl,?_⟩);rfl
  ·have i:Gs al w=false:=by simpa using i
   rw [i] at q
   have hs:Fu A al tab w=none:=by unfold Fu;rw [i];simp
   rw [hs];refine eG Tryz.func133 rfl (by kernel_rfl) rfl ?_;intro Γ b;(repeat' first|refine tA rfl ?_ |(refine s2 rfl λ_ a=>?_;try (simp only[pc,ph] at a;subst a)) |refine sP rfl (n) rfl ?_|refine sP rfl (q) rfl ?_ |refine aU rfl ?_ |apply Aa |refine rE (by kernel_rfl) ?_|(refine aC rfl ?_ ?_<;>rintro⟨⟩)|apply aK|apply aE|apply aB|refine aR ⟨_,rfl,?_⟩)
   all_goals first
    | rfl
    | (exfalso;grind;done)
 ·have hs:Fu A al tab w=none:=by unfold Fu;simp [r]
  rw [if_neg r] at n;rw [hs];refine eG Tryz.func133 rfl (by kernel_rfl) rfl ?_;intro Γ b;(repeat' first|refine tA rfl ?_ |(refine s2 rfl λ_ a=>?_;try (simp only[pc,ph] at a;subst a)) |refine sP rfl (n) rfl ?_ |refine aU rfl ?_ |apply Aa |refine rE (by kernel_rfl) ?_|(refine aC rfl ?_ ?_<;>rintro⟨⟩)|apply aK|apply aE|apply aB|refine aR ⟨_,rfl,?_⟩)
  all_goals first
   | rfl
   | (exfalso;grind;done)
def Im(A:W->Bool)(al:Int)(t:A1):Option A1:=if A2 A al t then Bq A (A7 al) 13 t else none
def Mj(A:W->Bool)(al:Int)(t:A1)(w:W):Option A1:=(Fu A al t w).bind λv=>(OO A al t v).bind λu=>Im A al u
theorem Xx{A:W->Bool}{al:Int}{t:A1}{w v:W}(h:Fu A al t w=some v):v.length<=w.length:=by
 unfold Fu at h;split at h
 ·obtain⟨p,_,rfl⟩:=IE h
  simp
 ·cases h
theorem fh{A:W->Bool}{al:Int}{t u:A1}{w:W}(h:OO A al t w=some u):VR u:=by
 unfold OO at h;split at h
 ·rename_i d
  rw [d4] at d;have b:=(Ek d.1).1;have f:=Pg d.2;unfold FD at h;split at h
  ·cases h
  ·injection h with h
   subst h;have c:=b.sz;have e:=b.cl;refine⟨c.rl,by simp;omega,c.rb,λx a=>?_⟩
   rcases em.1 a with a|a
   ·exact c.cb x a
   ·simp at a;subst a;omega
 ·cases h
theorem QB{t:EE}{al:Int}{A:W->Bool}(f:Kj Tryz.prog TB 123 170 t al A)(hal:0<=al->A8 al=true)(tab:A1)(g:VR tab)(w:W)(i:w.length<=1048576) :
 Pure Tryz.prog TB 74 [EL t,Ef tab,eT w] (IK (Mj A al tab w)):=by
 have d:=QL f hal tab g w i
 rcases hs:Fu A al tab w with _|v
 ·have c:Mj A al tab w=none:=by unfold Mj;rw [hs];rfl
  rw [c];rw [hs] at d;refine eG Tryz.func74 rfl (by kernel_rfl) rfl ?_;intro Γ b;(repeat' first|refine tA rfl ?_ |(refine s2 rfl λ_ a=>?_;try (simp only[pc,ph] at a;subst a)) |refine sP rfl (d) rfl ?_|(refine Af rfl ?_;refine gA rfl ?_;first| refine gS (λ_ _=>AB rfl rfl (by rfl) (by rfl)) ?_) |refine aU rfl ?_ |apply Aa|(refine aC rfl ?_ ?_<;>rintro⟨⟩)|apply aK|apply aE|apply aB|refine aR ⟨_,rfl,?_⟩)
  all_goals rfl
 ·rw [hs] at d
  have k:=Xx hs;have e:=Qn f tab g v (by omega)
  rcases ha:OO A al tab v with _|u
  ·have c:Mj A al tab w=none:=by unfold Mj;rw [hs];simp [ha]
   rw [c];rw [ha] at e;refine eG Tryz.func74 rfl (by kernel_rfl) rfl ?_;intro Γ b;(repeat' first|refine tA rfl ?_ |(refine s2 rfl λ_ a=>?_;try (simp only[pc,ph] at a;subst a)) |refine sP rfl (d) rfl ?_|refine sP rfl (e) rfl ?_|(refine Af rfl ?_;refine gA rfl ?_;first| refine gS (λ_ _=>AB rfl rfl (by rfl) (by rfl)) ?_) |refine aU rfl ?_ |apply Aa|(refine aC rfl ?_ ?_<;>rintro⟨⟩)|apply aK|apply aE|apply aB|refine aR ⟨_,rfl,?_⟩)
   all_goals rfl
  ·have c:Mj A al tab w=Im A al u:=by unfold Mj;rw [hs];simp [ha]
   rw [c];rw [ha] at e;have h:Pure Tryz.prog TB 121 [EL t,Ef u] (IK (Im A al u)):=I7 f u (fh ha)
   rcases j:Im A al u with _|x<;>rw [j] at h<;>(
    refine eG Tryz.func74 rfl (by kernel_rfl) rfl ?_;intro Γ b;(repeat' first|refine tA rfl ?_ |(refine s2 rfl λ_ a=>?_;try (simp only[pc,ph] at a;subst a)) |refine sP rfl (d) rfl ?_|refine sP rfl (e) rfl ?_|refine sP rfl (h) rfl ?_|(refine Af rfl ?_;refine gA rfl ?_;first| refine gS (λ_ _=>AB rfl rfl (by rfl) (by rfl)) ?_) |refine aU rfl ?_ |apply Aa|(refine aC rfl ?_ ?_<;>rintro⟨⟩)|apply aK|apply aE|apply aB|refine aR ⟨_,rfl,?_⟩)
    all_goals rfl)
end Go.Am
namespace Go.Am
open Go Go.Proofs
set_option maxHeartbeats 1000000
set_option maxRecDepth 4000
attribute [local irreducible] A6 Cz Lex Bv Aj Spec
section
variable {P:Program}{TB:BF}{Γ:Ctx}{d:Option Tmp}{ty:TypeId}{pos:String}{af:Array Edge}{g:Option (Nat×Bool)}{f:Env}{σ:Ab}{nx:Nat}
end
variable {TB:BF}
theorem bB.short{al:Int}{t:A1}(h:bB al t):∀(i:Nat) w,t.rows[i]? = some w->w.length<=i:=by
 intro i
 induction i using Nat.strongRecOn with
 | ind i b=>
  intro w hi
  rcases o3 i with rfl|e
  ·have:=h.r0.symm.trans hi
   injection this with this
   subst this;simp
  ·obtain⟨c,j,d,a⟩:=h.pre i w hi e
   have:=b j d _ a;rw [List.length_dropLast] at this;omega
theorem bB.bd{al:Int}{t:A1}(h:bB al t):Hd al 20000 t:=by
 refine⟨λw b=>⟨(h.rw w b).2,?_⟩,λx a=>⟨(h.cw x a).2,by have:=(h.cw x a).1;omega⟩,h.rl,h.cl⟩;obtain⟨i,hi,c⟩:=oy b;have:=h.short i w (by rw [d6 hi,c]);have:=h.rl;omega
end Go.Am
namespace Go.Am
open Go Go.Proofs
set_option maxHeartbeats 1000000
set_option maxRecDepth 4000
attribute [local irreducible] A6 Cz Lex Bv Aj Spec
variable {TB:BF}
theorem Dp(L:W->Bool)(al:Int)(t:A1):BA L al t=(A2 L al t && (Bh L (A7 al) t).isNone):=rfl
end Go.Am
namespace Go.Am
open Go
theorem bC{p:AX}(a:AJ p=true):TL (Kl p) (LA p) p.al:=λw b c=>by
 unfold Kl;rw [a,GQ b c (AG a).1];rfl
theorem bF{A L:W->Bool}{al:Int}{b:Nat}{t:A1}(h:TL A L al)(ht:Hd al b t)(hb:b<=20100)(hk:BS L (A7 al) t){w:W}(a:AR (A7 al) w):MF A t w=MF L t w:=by
 rw [<-KV (hk.mn h ht hb) a,<-KV hk a,T9 h ht hb]
theorem Xw{A L:W->Bool}{al:Int}{b:Nat}{t:A1}(h:TL A L al)(ht:Hd al b t)(hb:b<=20100)(hk:BS L (A7 al) t){w:W}(a:AR (A7 al) w)(c:w.length<=20000):CL A t w=CL L t w:=by
 have d:0 < t.rows.length:=(ce.1 hk.r0).1;unfold CL;rw [bF h ht hb hk a,h w a (by omega),NW h ht hb hk (L w) w 0 d a c]
end Go.Am
namespace Go.Am
end Go.Am
