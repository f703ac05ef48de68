/-
  Which words are safe, plainly: an unsafe one is what is seen of a word that the system can do and the property rejects.
-/
import Derived.Test.YtdipaikojjjebaaGreatDoorPart31
import Derived.Test.YtdipaikojjjebaaGreatDoorPart30
import Derived.Test.YtdipaikojjjebaaGreatDoorPart32
set_option linter.all false
namespace Go.Am
open Go
theorem FW{c:Ok}:∀ {u w:List Int} {q r:Int},Kx c (u++w) q r↔∃y,Kx c u q y/\Kx c w y r
 | [],w,q,r=>⟨λh=>⟨q,rfl,h⟩,λ⟨y,a,b⟩=>by have a:y=q:=a;subst a;exact b⟩
 | l :: u,w,q,r=>by
  constructor
  ·rintro⟨y,d,h⟩
   obtain⟨z,a,b⟩:=FW.1 h;exact⟨z,⟨y,d,a⟩,b⟩
  ·rintro⟨z,⟨y,d,a⟩,b⟩
   exact⟨y,d,FW.2 ⟨z,a,b⟩⟩
theorem OI{s:Sys}(b:AU s=true):∀ {w:List Int} {q r:Int},0<=q/\q<s.st->Kx (NB s) w q r->0<=r/\r<s.st
 | [],q,r,a,h=>by have h:r=q:=h;subst h;exact a
 | l::w,q,r,a,⟨y,c,h⟩=>OI b (JQ b a.1 a.2 c) h
theorem TY{a:AK}(ha:AD a=true):∀ {w:List Int} {q:Int},(∀l∈w,0<=l/\l<6)->0<=q/\q<a.nx.length->0<=Cu (fA a) q w/\Cu (fA a) q w<a.nx.length
 | [],q,_,c=>c
 | l::w,q,b,c=>by
  have d:=b l (by simp);exact TY ha (w:=w) (λm e=>b m (by simp[e])) (Cn ha (q:=q.toNat) (by omega) d.1 d.2)
theorem cQ{t:Ch}{F:PS}{u:W}{c:UInt8}:Ij t F (u++[c])=DD t ((c.toNat:Int)-97) (Ij t F u):=by rw[Qk];rfl
theorem Kp{s:Sys}{q l r:Int}(h:AV s.al l.toNat=true):r∈BI s q l↔∃e∈s.es,e.f=q/\e.l=l/\e.t=r:=by
 unfold BI;rw[if_pos h];simp only[d9,qX,d4,decide_eq_true_eq];constructor
 ·rintro⟨e,⟨d,c,b⟩,a⟩;exact⟨e,d,c,b,a⟩
 ·rintro⟨e,d,c,b,a⟩;exact⟨e,⟨d,c,b⟩,a⟩
section
variable {t:Ch}(ht:A9 t=true)
include ht
theorem ZZ{F0:PS}(A:CR t F0){p j:Nat}:QP t F0 p j↔∃(a b:Nat) (u:List Int),(F0 a).testBit b=true/\(∀l∈u,l∈Cg t)/\Kx (NB t.s) u b j/\(p:Int)=Cu (fA t.q) a u:=by
 constructor
 ·intro h
  induction h with
  | @base p j hb=>exact⟨p,j,[],hb,by simp,rfl,rfl⟩
  | @step p j e i o n J r=>
   obtain⟨a,b,u,z,k,c,d⟩:=r;have I:=Iq ht o;have hL:=DM ht n;have g:=i.lt ht A;have H:=Cn (Cr ht) g.1 hL.1 hL.2.1;refine⟨a,b,u++[e.l],z,λl x=>?_,?_,?_⟩
   ·rcases gc.1 x with h|h
    ·exact k l h
    ·simp at h;subst h;exact n
   ·refine FW.2 ⟨j,c,(e.t.toNat:Int),?_,rfl⟩
    exact(Kp hL.2.2).2 ⟨e,o,by omega,rfl,by omega⟩
   ·rw[JI,<-d]
    show ((Bg t.q p e.l).toNat:Int)=Bg t.q ((p:Int).toNat) e.l
    rw[d8];omega
 ·rintro⟨a,b,u,z,k,c,d⟩
  have key:∀(u:List Int) (a b:Nat),QP t F0 a b->(∀l∈u,l∈Cg t)->∀ {p j:Nat},Kx (NB t.s) u b j->(p:Int)=Cu (fA t.q) a u->QP t F0 p j:=λu=>by
   induction u with
   | nil=>
    intro a b i _ p j c d;have c:(j:Int)=b:=c;have d:(p:Int)=a:=d
    obtain rfl:j=b:=by omega
    obtain rfl:p=a:=by omega
    exact i
   | cons l u r=>
    intro a b i k p j c d;have n:=k l (by simp);have hL:=DM ht n;have g:=i.lt ht A;have H:=Cn (Cr ht) g.1 hL.1 hL.2.1;obtain⟨y,F,c⟩:=c;obtain⟨e,o,L,B,K⟩:=(Kp hL.2.2).1 F;have I:=Iq ht o;have w:=QP.step i o (by rw[B];exact n) (show e.f.toNat=b by omega)
    have v:((e.t.toNat:Nat):Int)=y:=by omega
    refine r _ _ w (λm G=>k m (by simp[G])) (by rw[v];exact c) ?_;rw[d,B]
    show Cu (fA t.q) (Bg t.q ((a:Int).toNat) l) u=_
    rw[d8];congr 1;omega
  exact key u a b (.base z) k c d
theorem fo{F:PS}(o:CR t F){l:Int}(v:0<=l/\l<6){p' j:Nat}:(WW t l F p').testBit j=true↔∃p a:Nat,(F p).testBit a=true/\Bg t.q p l=(p':Int)/\(j:Int)∈BI t.s a l:=by
 rw[LU]
 have g:∀ {p a:Nat},(F p).testBit a=true->p<t.q.nx.length:=λ{p a} h=>by
  rcases rn p t.q.nx.length with b|b
  ·exact b
  ·rw[o.z p b]at h;simp at h
 unfold Df;by_cases hb:AV t.s.al l.toNat=true
 ·simp only [hb,if_true]
  constructor
  ·rintro⟨p,b,d,c⟩
   obtain⟨e,i,⟨n,k⟩,u⟩:=DN.1 c;have r:=Iq ht i;exact⟨p,e.f.toNat,k,d,(Kp hb).2 ⟨e,i,by omega,n,by omega⟩⟩
  ·rintro⟨p,a,b,d,c⟩
   obtain⟨e,i,n,k,u⟩:=(Kp hb).1 c;have r:=Iq ht i;refine⟨p,g b,d,DN.2 ⟨e,i,⟨k,?_⟩,by omega⟩⟩;rw[show e.f.toNat=a by omega];exact b
 ·simp only [hb,if_false,tP]
  have m:∀a:Nat,BI t.s a l=[(a:Int)]:=λa=>by unfold BI;rw[if_neg hb]
  constructor
  ·rintro⟨p,b,d,c⟩
   exact⟨p,j,c,d,by rw[m];simp⟩
  ·rintro⟨p,a,b,d,c⟩
   rw[m]at c
   obtain rfl:j=a:=by simp at c;omega
   exact⟨p,g b,d,b⟩
end
def Bz(al:Int)(u:List Int):List Int:=u.filter λl=>AV al l.toNat
def WE(t:Ch)(u:List Int):Prop:=∀l∈u,l∈Cg t\/l∈Ab t.al
theorem iW{t:Ch}{l:Int}(h:l∈Cg t):AV t.al l.toNat=false:=by
 unfold Cg at h;have:=(qX.1 h).2
 simpa using this
theorem Ug{t:Ch}{u:List Int}(d:WE t u)(h:Bz t.al u=[]):∀l∈u,l∈Cg t:=λl b=>by
 rcases d l b with a|a
 ·exact a
 ·exfalso
  have c:l∈Bz t.al u:=qX.2 ⟨b,(Af a).2.2⟩;rw[h]at c;cases c
theorem Tl{t:Ch}{u:List Int}(h:∀l∈u,l∈Cg t):Bz t.al u=[]:=uz.2 λl a=>by rw[iW (h l a)];simp
theorem Zh{t:Ch}{F:PS}(f:CR t F):FQ t F=true↔∃p j:Nat,(F p).testBit j=true/\EG t.q p=false:=by
 unfold FQ;rw[s9];constructor
 ·rintro⟨p,hp,h⟩
  simp only[d4,decide_eq_true_eq,sW]at h
  have:∃j,(F p).testBit j=true:=Classical.byContradiction λd=>h.1 (HN λj=>by
   cases hb:(F p).testBit j
   ·rfl
   ·exact absurd ⟨j,hb⟩ d)
  obtain⟨j,c⟩:=this;exact⟨p,j,c,by unfold EG;rw[d8];exact h.2⟩
 ·rintro⟨p,j,a,b⟩
  have hp:p<t.q.nx.length:=by
   rcases rn p t.q.nx.length with h|h
   ·exact h
   ·rw[f.z p h]at a;simp at a
  refine⟨p,pi.2 hp,?_⟩;unfold EG at b;rw[d8]at b;simp only[d4,decide_eq_true_eq,sW];exact⟨λe=>by rw[e]at a;simp at a,b⟩
theorem Ss{t:Ch}:∀(w:List Int) {F:PS},Hv t F (C0 w)=false↔∃k,k<=w.length/\FQ t (Ij t F (C0 (w.take k)))=true
 | [],F=>by
  show (!FQ t F)=false↔_
  constructor
  ·intro h
   exact⟨0,by simp,by show FQ t F=true;simpa using h⟩
  ·rintro⟨k,_,h⟩
   have h:FQ t F=true:=by simpa[C0,Ij]using h
   rw[h];rfl
 | l :: w,F=>by
  have c:=λF=>Ss (t:=t) w (F:=F);have e:Hv t F (C0 (l::w))=(!FQ t F && Hv t (DD t (((lb l).toNat:Int)-97) F) (C0 w)):=rfl;rw[e];constructor
  ·intro h
   cases hb:FQ t F
   ·rw[hb]at h
    obtain⟨k,b,a⟩:=(c _).1 h;exact⟨k+1,by simpa using b,a⟩
   ·exact⟨0,by simp,hb⟩
  ·rintro⟨k,b,a⟩
   cases k with
   | zero=>
    have a:FQ t F=true:=a;rw[a];rfl
   | succ k=>
    have:=(c (DD t (((lb l).toNat:Int)-97) F)).2 ⟨k,by simpa using b,a⟩;rw[this,Bool.and_false]
theorem jW{α:Type}{P:List α->Prop}(c:P [])(b:∀w l,P w->P (w++[l]))(w:List α):P w:=by
 rw[<-List.reverse_reverse w]
 induction w.reverse with
 | nil=>exact c
 | cons l u a=>rw[List.reverse_cons];exact b _ l a
section
variable {t:Ch}(ht:A9 t=true)
include ht
theorem dW{F0:PS}(a:CR t F0){p j:Nat}:(SV t F0 p).testBit j=true↔∃(b c:Nat) (u:List Int),(F0 b).testBit c=true/\(∀l∈u,l∈Cg t)/\Kx (NB t.s) u c j/\(p:Int)=Cu (fA t.q) b u:=by
 rw[OH,ZZ ht a];constructor
 ·exact λh=>h.2
 ·intro h
  exact⟨((ZZ ht a).2 h).lt ht a |>.2,h⟩
theorem OZ:∀(w:List Int) {F:PS},CR t F->(∀l∈w,0<=l/\l<6)->CR t (Ij t F (C0 w))
 | [],F,h,_=>h
 | l :: w,F,h,b=>by
  have a:=b l (by simp)
  have e:Ij t F (C0 (l::w))=Ij t (DD t l F) (C0 w):=by
   show Ij t (DD t (((lb l).toNat:Int)-97) F) (C0 w)=_
   rw[Fm a.1 a.2]
  rw[e];exact OZ w (LX ht a h) λm c=>b m (by simp[c])
theorem aq:∀(w:List Int),(∀l∈w,l∈Ab t.al)->∀ {p j:Nat},((Ij t (Cq t) (C0 w) p).testBit j=true↔∃u,WE t u/\Bz t.al u=w/\Kx (NB t.s) u 0 j/\(p:Int)=Cu (fA t.q) 0 u):=λw=>by
 refine jW (P:=λw=>(∀l∈w,l∈Ab t.al)->∀ {p j:Nat},((Ij t (Cq t) (C0 w) p).testBit j=true↔∃u,WE t u/\Bz t.al u=w/\Kx (NB t.s) u 0 j/\(p:Int)=Cu (fA t.q) 0 u)) ?_ ?_ w
 ·intro _ p j
  show (SV t I8 p).testBit j=true↔_
  rw[dW ht (MJ ht)]
  have S:∀ {y z:Nat},(I8 y).testBit z=true↔y=0/\z=0:=λ{y z} => by
   unfold I8;split
   ·rename_i h
    subst h;have e:(1:Nat)=2 ^ 0:=rfl;rw[e,sJ];simp[eq_comm]
   ·rename_i h;simp[h]
  constructor
  ·rintro⟨y,z,u,b,d,x,v⟩
   obtain⟨rfl,rfl⟩:=S.1 b;exact⟨u,λl hl=>.inl (d l hl),Tl d,x,v⟩
  ·rintro⟨u,b,d,x,v⟩
   exact⟨0,0,u,S.2 ⟨rfl,rfl⟩,Ug b d,x,v⟩
 ·intro w l A H p j
  have o:=H l (by simp);have c:=Af o;have A:=λp j=>A (λm a=>H m (by simp[a])) (p:=p) (j:=j)
  have g:=OZ ht w (F:=Cq t) (GI ht) λm a=>by have:=Af (H m (by simp[a]));omega
  have e:Ij t (Cq t) (C0 (w++[l]))=SV t (WW t l (Ij t (Cq t) (C0 w))):=by
   have N:C0 (w++[l])=C0 w++[lb l]:=by simp[C0,lb]
   rw[N,cQ,Fm c.1 (by omega)];rfl
  rw[e,dW ht (Lc ht ⟨c.1,by omega⟩ g)];constructor
  ·rintro⟨p1,j1,h,b,d,x,v⟩
   obtain⟨Q,R,h5,h6,h7⟩:=(fo ht g ⟨c.1,by omega⟩).1 b;obtain⟨u,i,G,M,L⟩:=(A Q R).1 h5;refine⟨u++l::h,λm a=>?_,?_,FW.2 ⟨R,M,j1,h7,x⟩,?_⟩
   ·rcases gc.1 a with a|a
    ·exact i m a
    ·rcases lw.1 a with rfl|a
     ·exact .inr o
     ·exact .inl (d m a)
   ·unfold Bz at *
    rw[sj,G,sq (by simpa using c.2.2)];have:=Tl d;unfold Bz at this;rw[this]
   ·rw[JI,<-L,v]
    show _=Cu (fA t.q) (Bg t.q ((Q:Int).toNat) l) h
    rw[d8,h6]
  ·rintro⟨u,i,G,M,L⟩
   unfold Bz at G;obtain⟨f,u2,rfl,N,e2⟩:=List.filter_eq_append_iff.1 G;obtain⟨b,d,rfl,e3,e4,e5⟩:=List.filter_eq_cons_iff.1 e2;have r:∀m∈b,m∈Cg t:=Ug (λm a=>i m (by simp[a])) (by unfold Bz;exact uz.2 e3);have K:∀m∈d,m∈Cg t:=Ug (λm a=>i m (by simp[a])) e5;obtain⟨Z,X,c2⟩:=FW.1 M;obtain⟨n,V,k,T,c5⟩:=FW.1 c2
   have B:AU t.s=true:=by unfold A9 at ht;simp only[d4]at ht;exact ht.1
   have hst:=AN B;have I:=Cr ht;have hqn:=AB I
   have J:∀m∈f++(b++l::d),0<=m/\m<6:=λm a=>by
    rcases i m a with h|h
    ·have:=DM ht h;omega
    ·have:=Af h;omega
   have b1:=OI B ⟨by omega,by omega⟩ X;have Y:=OI B b1 V;have b3:=JQ B Y.1 Y.2 T;have a2:=TY I (w:=f++b) (q:=0) (λm a=>J m (by rcases gc.1 a with h|h<;>simp[h])) ⟨by omega,by omega⟩;have a3:=Cn I (q:=(Cu (fA t.q) 0 (f++b)).toNat) (by omega) c.1 (show l<6 by omega);refine⟨(Bg t.q (Cu (fA t.q) 0 (f++b)).toNat l).toNat,k.toNat,d,(fo ht g ⟨c.1,by omega⟩).2 ⟨(Cu (fA t.q) 0 (f++b)).toNat,n.toNat,(A _ _).2 ⟨f++b,λm a=>?_,?_,?_,by omega⟩,by omega,?_⟩,K,?_,?_⟩
   ·rcases gc.1 a with a|a
    ·exact i m (by simp[a])
    ·exact .inl (r m a)
   ·have:=Tl r
    unfold Bz at *;rw[sj,N,this,rv]
   ·rw[show ((n.toNat:Nat):Int)=n by omega]
    exact FW.2 ⟨Z,X,V⟩
   ·rw[show ((n.toNat:Nat):Int)=n by omega,show ((k.toNat:Nat):Int)=k by omega];exact T
   ·rw[show ((k.toNat:Nat):Int)=k by omega];exact c5
   ·rw[show (((Bg t.q (Cu (fA t.q) 0 (f++b)).toNat l).toNat:Nat):Int)=Bg t.q (Cu (fA t.q) 0 (f++b)).toNat l by omega,L,<-tn,JI];rfl
theorem IZ{w:List Int}(v:∀l∈w,l∈Ab t.al):LS t (C0 w)=false↔∃u,WE t u/\Bz t.al u <+: w/\E4 t.s u/\CQ t.q u=false:=by
 unfold LS;rw[Ss];constructor
 ·rintro⟨k,I,H⟩
  have d:∀l∈w.take k,l∈Ab t.al:=λl o=>v l (q7 o)
  have c:=OZ ht (w.take k) (GI ht) λm f=>by have:=Af (d m f);omega
  obtain⟨p,j,G,F⟩:=(Zh c).1 H;obtain⟨u,n,g,i,r⟩:=(aq ht _ d).1 G;exact⟨u,n,by rw[g];exact List.take_prefix _ _,⟨_,i⟩,by unfold CQ;rw[<-r];exact F⟩
 ·rintro⟨u,n,g,⟨q,i⟩,r⟩
  refine⟨(Bz t.al u).length,g.length_le,?_⟩;have e:w.take (Bz t.al u).length=Bz t.al u:=(List.prefix_iff_eq_take.1 g).symm;rw[e];have x:∀l∈Bz t.al u,l∈Ab t.al:=λl o=>v l (g.subset o)
  have y:AU t.s=true:=by unfold A9 at ht;simp only[d4]at ht;exact ht.1
  have A:=AN y;have z:=Cr ht;have B:=AB z
  have c:=OZ ht (Bz t.al u) (GI ht) λm f=>by have:=Af (x m f);omega
  have b:=OI y (⟨by omega,by omega⟩:(0:Int)<=0/\(0:Int)<t.s.st) i
  have a:=TY z (w:=u) (q:=0) (λm f=>by
   rcases n m f with h|h
   ·have:=DM ht h;omega
   ·have:=Af h;omega) ⟨by omega,by omega⟩
  refine(Zh c).2 ⟨(Cu (fA t.q) 0 u).toNat,q.toNat,(aq ht _ x).2 ⟨u,n,rfl,?_,by omega⟩,?_⟩
  ·rw[show ((q.toNat:Nat):Int)=q by omega];exact i
  ·rw[show (((Cu (fA t.q) 0 u).toNat:Nat):Int)=Cu (fA t.q) 0 u by omega];exact r
end
theorem Jn{s:Sys}:∀ {u:List Int} {q r:Int},Kx (NB s) u q r↔Kx (NB s) (Bz s.al u) q r
 | [],q,r=>Iff.rfl
 | l :: u,q,r=>by
  have c:=λq=>Jn (s:=s) (u:=u) (q:=q) (r:=r);by_cases hb:AV s.al l.toNat=true
  ·have e:Bz s.al (l::u)=l::Bz s.al u:=sq hb
   rw[e];exact⟨λ⟨y,a,b⟩=>⟨y,a,(c y).1 b⟩,λ⟨y,a,b⟩=>⟨y,a,(c y).2 b⟩⟩
  ·have e:Bz s.al (l::u)=Bz s.al u:=tO hb
   have d:NB s q l=[q]:=by show BI s q l=_;unfold BI;rw[if_neg hb]
   rw[e,<-c q];constructor
   ·rintro⟨y,a,b⟩
    rw[d]at a
    obtain rfl:y=q:=by simpa using a
    exact b
   ·intro h
    exact⟨q,by rw[d];simp,h⟩
theorem Mu{s:Sys}{u v:List Int}(h:Bz s.al u=Bz s.al v):E4 s u↔E4 s v:=by
 unfold E4;constructor
 ·rintro⟨q,a⟩;exact⟨q,Jn.2 (h▸Jn.1 a)⟩
 ·rintro⟨q,a⟩;exact⟨q,Jn.2 (h.symm▸Jn.1 a)⟩
theorem Qj{a:AK}(ha:AD a=true):∀ {u:List Int} {q:Int},(∀l∈u,0<=l/\l<6)->0<=q/\q<a.nx.length->Cu (fA a) q u=Cu (fA a) q (Bz a.al u)
 | [],q,_,_=>rfl
 | l :: u,q,c,f=>by
  have d:=c l (by simp);have h:=Cn ha (q:=q.toNat) (by omega) d.1 d.2;have b:=λq=>Qj ha (u:=u) (q:=q) λm g=>c m (by simp[g]);by_cases hb:AV a.al l.toNat=true
  ·have e:Bz a.al (l::u)=l::Bz a.al u:=sq hb
   rw[e];exact b _ h
  ·have e:Bz a.al (l::u)=Bz a.al u:=tO hb
   have i:Bg a q.toNat l=q:=by unfold Bg;rw[if_neg hb];omega
   rw[e]
   show Cu (fA a) (Bg a q.toNat l) u=_
   rw[i];exact b _ f
def Gx(u:List Int):Prop:=∀l∈u,0<=l/\l<6
theorem Gs{a:AK}(ha:AD a=true){u v:List Int}(c:Gx u)(b:Gx v)(h:Bz a.al u=Bz a.al v):CQ a u=CQ a v:=by
 have d:=AB ha;unfold CQ;rw[Qj ha c ⟨by omega,by omega⟩,Qj ha b ⟨by omega,by omega⟩,h]
theorem O5{al:Int}{u:List Int}(a:Gx u):Gx (Bz al u):=λl b=>a l (qX.1 b).1
theorem QG{al:Int}{u:List Int}(a:Gx u):∀l∈Bz al u,l∈Ab al:=λl b=>by
 obtain⟨d,c⟩:=qX.1 b;have:=a l d
 obtain⟨n,rfl⟩:∃n:Nat,l=n:=⟨l.toNat,by omega⟩
 exact Dj.2 ⟨by omega,c⟩
theorem Fs{al:Int}{u:List Int}(a:∀l∈u,l∈Ab al):Gx u:=λl b=>by have:=Af (a l b);omega
theorem Ku{al bl:Int}{u:List Int}(h:∀l∈u,AV al l.toNat=true->AV bl l.toNat=true):Bz al (Bz bl u)=Bz al u:=by
 unfold Bz;rw[uP];refine tV λl a=>?_;cases ha:AV al l.toNat
 ·rfl
 ·rw[h l a ha];rfl
theorem jE{al:Int}:∀ {v w:List Int},w <+: Bz al v->∃v',v' <+: v/\Bz al v'=w:=λ{v w} ⟨z,h⟩=>by
 obtain⟨a,c,rfl,b,_⟩:=List.filter_eq_append_iff.1 h.symm;exact⟨a,um _ _,b⟩
theorem g8{s:Sys}{u v:List Int}(h:u <+: v)(a:E4 s v):E4 s u:=by
 obtain⟨z,rfl⟩:=h;obtain⟨q,b⟩:=a;obtain⟨y,c,_⟩:=FW.1 b;exact⟨y,c⟩
theorem merge{A B:Int->Bool}:∀(u:List Int) {v:List Int},(∀l∈u,A l=true)->(∀l∈v,B l=true)->u.filter B=v.filter A->∃x:List Int,x.filter A=u/\x.filter B=v/\∀l∈x,l∈u\/l∈v
 | [],v,_,b,h=>⟨v,h.symm,List.filter_eq_self.2 b,λl n=>.inr n⟩
 | l :: u, v,g,b,h=>by
  have i:=g l (by simp);by_cases c:B l=true
  ·rw [sq c]at h
   obtain⟨k,j,rfl,p,q,o⟩:=List.filter_eq_cons_iff.1 h.symm;obtain⟨x,f,e,d⟩:=merge u (v:=j) (λm a=>g m (by simp[a])) (λm a=>b m (by simp[a])) o.symm;refine⟨k++l::x,?_,?_,λm a=>?_⟩
   ·rw[sj,uz.2 p,sq i,f];rfl
   ·rw[sj,List.filter_eq_self.2 λm a=>b m (by simp[a]),sq c,e]
   ·rcases gc.1 a with a|a
    ·exact .inr (by simp[a])
    ·rcases lw.1 a with rfl|a
     ·exact .inl (by simp)
     ·rcases d m a with h|h
      ·exact .inl (by simp[h])
      ·exact .inr (by simp[h])
  ·rw [tO c]at h
   obtain⟨x,f,e,d⟩:=merge u (v:=v) (λm a=>g m (by simp[a])) b h;refine⟨l::x,?_,?_,λm a=>?_⟩
   ·rw[sq i,f]
   ·rw[tO c,e]
   ·rcases lw.1 a with rfl|a
    ·exact .inl (by simp)
    ·rcases d m a with h|h
     ·exact .inl (by simp[h])
     ·exact .inr h
theorem MO{a b:Int}(ha:A1 a=true)(hb:A1 b=true){n:Nat}(c:n<64):AV (Gu .i64 a b) n=(AV a n || AV b n):=by
 unfold A1 at ha hb;simp only[decide_eq_true_eq]at ha hb
 obtain⟨x,rfl⟩:∃x:Nat,a=x:=⟨a.toNat,by omega⟩
 obtain⟨y,rfl⟩:∃y:Nat,b=y:=⟨b.toNat,by omega⟩
 have h:=JX (a:=x) (b:=y) (by omega) (by omega);rw[h.1,Dd (by omega) c,Dd (by omega) c,Dd (by omega) c,sD]
theorem iI{a b:Int}(ha:A1 a=true)(hb:A1 b=true){n:Nat}(c:n<64):AV (Gk .i64 a b) n=(AV a n && AV b n):=by
 unfold A1 at ha hb;simp only[decide_eq_true_eq]at ha hb
 obtain⟨x,rfl⟩:∃x:Nat,a=x:=⟨a.toNat,by omega⟩
 obtain⟨y,rfl⟩:∃y:Nat,b=y:=⟨b.toNat,by omega⟩
 have h:=LF (a:=x) (b:=y) (by omega) (by omega);have d:x &&& y<64:=Nat.lt_of_le_of_lt uJ (by omega);rw[h,Dd (by omega) c,Dd (by omega) c,Dd (by omega) c,tR]
structure Ec (s:Sys) (p:AK) (t:Sys) (al:Int):Prop where
 hs:AU s=true
 hp:AD p=true
 ht:AU t=true
 hal:al=Bm s p t
section
variable {s t:Sys}{p:AK}{al:Int}(hI:Ec s p t al)
include hI
theorem eH{n:Nat}(a:n<64):AV al n=((AV s.al n || AV p.al n) && AV t.al n):=by
 have c:=(AN hI.hs).1;have b:=(AB hI.hp).1;have d:=(AN hI.ht).1;rw[hI.hal];unfold Bm;rw[hI.hs,hI.hp,hI.ht];simp only[uR,if_true];rw[iI (LG c b) d a,MO c b a]
theorem U0:A1 al=true:=by
 have g:=(AN hI.hs).1;have f:=(AB hI.hp).1;have i:=(AN hI.ht).1;have h:=LG g f;rw[hI.hal];unfold Bm;rw[hI.hs,hI.hp,hI.ht];simp only[uR,if_true];unfold A1 at *;simp only[decide_eq_true_eq] at *
 obtain⟨x,d⟩:∃x:Nat,Gu .i64 s.al p.al=x:=⟨(Gu .i64 s.al p.al).toNat,by omega⟩
 obtain⟨y,c⟩:∃y:Nat,t.al=y:=⟨t.al.toNat,by omega⟩
 have:=LF (a:=x) (b:=y) (by omega) (by omega);have e:x &&& y<64:=Nat.lt_of_le_of_lt uJ (by omega);rw[d,c,this];omega
theorem Hq:A9 ⟨s,p,al⟩=true:=by
 unfold A9;rw[hI.hs,hI.hp,U0 hI];rfl
theorem dL{a:AK}(ha:AD a=true)(hal:a.al=al)(o:∀u,Gx u->(∀l∈u,AV s.al l.toNat=true\/AV al l.toNat=true)->E4 s u->CQ a u=true->CQ p u=true)
 (m:∀v,(∀l∈v,l∈Ab t.al)->E4 t v->CQ a v=true) {x:List Int} (e:Gx x) (f:∀l∈x,AV s.al l.toNat=true\/AV t.al l.toNat=true) (k:E4 s x) (ht:E4 t x):CQ p x=true:=by
 have c:=λl (b:l∈x)=>eH hI (n:=l.toNat) (by have:=e l b;omega);have j:=O5 (al:=t.al) e;have w:CQ a (Bz t.al x)=true:=m _ (QG e) ((Mu (by rw[Ku λ_ _ h=>h])).1 ht)
 let u:=x.filter λl=>AV s.al l.toNat || AV al l.toNat
 have g:Gx u:=λl f=>e l (qX.1 f).1
 have d:∀ {bl:Int},(∀l∈x,AV bl l.toNat=true->(AV s.al l.toNat || AV al l.toNat)=true)->Bz bl u=Bz bl x:=λ{bl} h=>by
  show List.filter _ (List.filter _ x)=List.filter _ x
  rw[uP];refine tV λl f=>?_;cases hb:AV bl l.toNat
  ·rfl
  ·rw[h l f hb];rfl
 have r:CQ a u=true:=by
  rw[Gs ha g j,w]
  rw [hal,d λl _ h=>by rw[h,t6],Ku λl b h=>by
   have:=c l b;rw[h]at this
   revert this;cases AV t.al l.toNat<;>simp]
 have q:=o u g (λl b=>by have:=(qX.1 b).2;simpa using this) ((Mu (d λl _ h=>by rw[h];rfl)).2 k) r;rw[<-q];refine Gs hI.hp e g (d λl b h=>?_).symm;have:=c l b;rw[h,t6,ro]at this
 rcases f l b with i|i
 ·rw[i];rfl
 ·rw[this,i,t6]
theorem WL{v:List Int}(y:∀l∈v,l∈Ab t.al)(ht:E4 t v)(G:LS ⟨s,p,al⟩ (C0 (Bz al v))=false):∃x,Gx x/\(∀l∈x,AV s.al l.toNat=true\/AV t.al l.toNat=true)/\E4 s x/\E4 t x/\CQ p x=false:=by
 have m:=Fs y;obtain⟨u,A,J,I,H⟩:=(IZ (Hq hI) (QG m)).1 G
 have d:Gx u:=λl a=>by
  rcases A l a with h|h
  ·have:=DM (Hq hI) h;omega
  ·have:=Af h;omega
 obtain⟨v',w,F⟩:=jE J;have g:∀l∈v',l∈Ab t.al:=λl a=>y l (w.subset a);have b:=λ(l:Int) (h:0<=l/\l<6)=>eH hI (n:=l.toNat) (by omega)
 have q:∀l∈u,(AV s.al l.toNat || AV al l.toNat)=true:=λl a=>by
  rcases A l a with h|h
  ·rw[(DM (Hq hI) h).2.2];rfl
  ·rw[(Af h).2.2,t6]
 have o:∀l∈v',AV t.al l.toNat=true:=λl a=>(Af (g l a)).2.2
 have e:u.filter (λl=>AV t.al l.toNat)=v'.filter λl=>AV s.al l.toNat || AV al l.toNat:=by
  have L:u.filter (λl=>AV t.al l.toNat)=Bz al u:=tV λl a=>by
   have c:=q l a;rw[b l (d l a)]at c |-;revert c;cases AV s.al l.toNat<;>cases AV p.al l.toNat<;>cases AV t.al l.toNat<;>simp
  have K:v'.filter (λl=>AV s.al l.toNat || AV al l.toNat)=Bz al v':=tV λl a=>by
   have c:=o l a;rw[b l (Fs g l a),c];cases AV s.al l.toNat<;>cases AV p.al l.toNat<;>simp
  rw[L,K,F]
 obtain⟨x,B,k,r⟩:=merge u q o e
 have f:Gx x:=λl a=>by
  rcases r l a with h|h
  ·exact d l h
  ·exact Fs g l h
 have i:∀l∈x,AV s.al l.toNat=true\/AV t.al l.toNat=true:=λl a=>by
  rcases r l a with h|h
  ·have c:=q l h
   rw[b l (d l h)]at c;revert c;cases AV s.al l.toNat<;>cases AV p.al l.toNat<;>cases AV t.al l.toNat<;>simp
  ·exact .inr (o l h)
 have j:∀ {bl:Int},(∀l∈x,AV bl l.toNat=true->(AV s.al l.toNat || AV al l.toNat)=true)->Bz bl u=Bz bl x:=λ{bl} h=>by
  rw[<-B]
  show List.filter _ (List.filter _ x)=List.filter _ x
  rw[uP];refine tV λl a=>?_;cases hb:AV bl l.toNat
  ·rfl
  ·rw[h l a hb];rfl
 refine⟨x,f,i,(Mu (j λl _ h=>by rw[h];rfl)).1 I,?_,?_⟩
 ·have:=g8 w ht
  refine(Mu ?_).1 this;have k:Bz t.al x=v':=k;rw[<-k,Ku λ_ _ h=>h]
 ·rw[<-H]
  refine Gs hI.hp f d (j λl z h=>?_).symm;have:=b l (f l z);rw[h,t6,ro]at this
  rcases i l z with c|c
  ·rw[c];rfl
  ·rw[this,c,t6]
end
theorem Hs{al:Int}{u:List Int}(c:Gx u)(h:∀l∈u,AV al l.toNat=true):∀l∈u,l∈Ab al:=λl a=>by
 have:=c l a
 obtain⟨n,rfl⟩:∃n:Nat,l=n:=⟨l.toNat,by omega⟩
 have b:=h _ a;rw[d8]at b;exact Dj.2 ⟨by omega,b⟩
theorem SJ{g:Gr}{w:List Int}(h:Dy g=some w):over g w/\Rs g w/\∀u,over g u->Rs g u->¬slt u w:=by
 have:=Dz g;rw[h]at this;exact this
theorem Ze{g:Gr}(h:Dy g=none):∀u,over g u->¬Rs g u:=by
 have:=Dz g;rw[h]at this;exact this
theorem Ll{s:Sys}{a p:AK}{w:List Int}(h:DK s a p=some w):BT s a p=true/\(∀l∈w,l∈Ab (Gu .i64 s.al a.al))/\E4 s w/\CQ a w=true/\CQ p w=false:=by
 unfold DK at h;by_cases b:BT s a p=true
 ·rw[if_pos b]at h
  obtain⟨c,d,_⟩:=SJ h;exact⟨b,c,(lJ b c).1 d⟩
 ·rw[if_neg b]at h;cases h
theorem KV{s:Sys}{a p:AK}(d:BT s a p=true):Gl s a p=true↔∀w,(∀l∈w,l∈Ab (Gu .i64 s.al a.al))->E4 s w->CQ a w=true->CQ p w=true:=by
 unfold Gl DK;rw[d,ro,if_pos rfl];constructor
 ·intro h w g c f
  cases b:Dy (Ei (DW s a p)) with
  | some x=>rw[b]at h;cases h
  | none=>
   have:=Ze b w g;rw[lJ d g]at this;cases e:CQ p w
   ·exact absurd ⟨c,f,e⟩ this
   ·rfl
 ·intro h
  cases b:Dy (Ei (DW s a p)) with
  | none=>rfl
  | some x=>
   obtain⟨c,f,_⟩:=SJ b;obtain⟨e,j,i⟩:=(lJ d c).1 f;rw[h x c e j]at i;cases i
theorem YS{l:List Sys}{p:AK}{w:List Int}(h:BV l p=some w):(AX l && AD p)=true/\(∀m∈w,m∈Ab (Bt l))/\(∀s∈l,E4 s w)/\CQ p w=false:=by
 unfold BV at h;by_cases a:(AX l && AD p)=true
 ·rw[if_pos a]at h
  obtain⟨b,c,_⟩:=SJ h;exact⟨a,b,(lI a b).1 c⟩
 ·rw[if_neg a]at h;cases h
theorem GW{l:List Sys}{p:AK}(c:(AX l && AD p)=true):Cy l p=true↔∀w,(∀m∈w,m∈Ab (Bt l))->(∀s∈l,E4 s w)->CQ p w=true:=by
 unfold Cy BV;rw[c,ro,if_pos rfl];constructor
 ·intro h w e b
  cases a:Dy (Ei (CO l p)) with
  | some x=>rw[a]at h;cases h
  | none=>
   have:=Ze a w e;rw[lI c e]at this;cases d:CQ p w
   ·exact absurd ⟨b,d⟩ this
   ·rfl
 ·intro h
  cases a:Dy (Ei (CO l p)) with
  | none=>rfl
  | some x=>
   obtain⟨b,g,_⟩:=SJ a;obtain⟨d,f⟩:=(lI c b).1 g;rw[h x b d]at f;cases f
theorem Uz(n:Nat)(a:n<64):AV 0 n=false:=by
 have:=Dd (s:=0) (n:=n) (by omega) a;rw[show ((0:Nat):Int)=0 from rfl]at this;rw[this];simp
theorem Ft{t:Sys}:AX [t]=AU t:=by simp[AX]
theorem J9{s t:Sys}:AX [s,t]=(AU s && AU t):=by simp[AX]
theorem Zj{t:Sys}(ht:AU t=true){n:Nat}(a:n<64):AV (Bt [t]) n=AV t.al n:=by
 unfold Bt;rw[Ft,ht,if_pos rfl]
 show AV (Gu .i64 0 t.al) n=_
 rw[MO (by decide) (AN ht).1 a,Uz n a,ua]
theorem Zk{s t:Sys}(a:AU s=true)(ht:AU t=true){n:Nat}(b:n<64):AV (Bt [s,t]) n=(AV s.al n || AV t.al n):=by
 unfold Bt;rw[J9,a,ht,uR,if_pos rfl]
 show AV (Gu .i64 (Gu .i64 0 s.al) t.al) n=_
 have c:A1 0=true:=by decide
 rw[MO (LG c (AN a).1) (AN ht).1 b,MO c (AN a).1 b,Uz n b,ua]
theorem fJ{t:Sys}(ht:AU t=true){u:List Int}:(∀l∈u,l∈Ab (Bt [t]))↔∀l∈u,l∈Ab t.al:=by
 constructor
 ·intro h
  have a:=Fs h
  exact Hs a λl b=>by rw[<-Zj ht (by have:=a l b;omega)];exact(Af (h l b)).2.2
 ·intro h
  have a:=Fs h
  exact Hs a λl b=>by rw[Zj ht (by have:=a l b;omega)];exact(Af (h l b)).2.2
theorem ZK{s t:Sys}(c:AU s=true)(ht:AU t=true){u:List Int}:(∀l∈u,l∈Ab (Bt [s,t]))↔Gx u/\∀l∈u,AV s.al l.toNat=true\/AV t.al l.toNat=true:=by
 constructor
 ·intro h
  have a:=Fs h;refine⟨a,λl b=>?_⟩;have:=(Af (h l b)).2.2;rw[Zk c ht (by have:=a l b;omega),qW]at this;exact this
 ·rintro⟨a,h⟩
  exact Hs a λl b=>by rw[Zk c ht (by have:=a l b;omega),qW];exact h l b
theorem fK{a b:Int}(ha:A1 a=true)(hb:A1 b=true){u:List Int}:(∀l∈u,l∈Ab (Gu .i64 a b))↔Gx u/\∀l∈u,AV a l.toNat=true\/AV b l.toNat=true:=by
 constructor
 ·intro h
  have c:=Fs h;refine⟨c,λl d=>?_⟩;have:=(Af (h l d)).2.2;rw[MO ha hb (by have:=c l d;omega),qW]at this;exact this
 ·rintro⟨c,h⟩
  exact Hs c λl d=>by rw[MO ha hb (by have:=c l d;omega),qW];exact h l d
theorem aN{s t:Sys}{w:List Int}:(∀x∈[s,t],E4 x w)↔E4 s w/\E4 t w:=by simp
theorem ZL{t:Sys}{w:List Int}:(∀x∈[t],E4 x w)↔E4 t w:=by simp
theorem UL{s t:Sys}{p a:AK}(h:Cm s t p a=0):Cy [s,t] p=true/\Gl s a p=true/\Cy [t] a=true:=by
 unfold Cm at h;split at h
 ·cases h
 rename_i c;split at h
 ·cases h
 rename_i m;split at h
 ·cases h
 rename_i G;split at h
 ·cases h
 rename_i F
 have hk:Gl s a p=true:=by simpa using G
 have b:Cy [t] a=true:=by simpa using F
 refine⟨?_,hk,b⟩;rw[not_or]at c
 have n:(AU s && AD p && AU t)=true:=by
  have o:=c.1;unfold Bm at o;split at o
  ·assumption
  ·omega
 have ha:AD a=true:=by simpa using c.2
 simp only[d4]at n;obtain⟨⟨e,f⟩,d⟩:=n;have hal:a.al=Bm s p t:=Classical.not_not.1 m
 have hI:Ec s p t a.al:=⟨e,f,d,hal⟩
 have y:BT s a p=true:=by unfold BT;rw[e,ha,f];rfl
 have l:(AX [t] && AD a)=true:=by rw[Ft,d,ha];rfl
 have k:(AX [s,t] && AD p)=true:=by rw[J9,e,d,f];rfl
 rw[KV y]at hk;rw[GW l]at b;rw[GW k];intro w x z;obtain⟨A,B⟩:=(ZK e d).1 x;obtain⟨r,q⟩:=aN.1 z;exact dL hI ha rfl (λu i j c m=>hk u ((fK (AN e).1 (AB ha).1).2 ⟨i,j⟩) c m) (λv g c=>b v ((fJ d).2 g) (ZL.2 c)) A B r q
theorem Ud{s t:Sys}{p:AK}{al:Int}(hI:Ec s p t al){v:List Int}(g:∀l∈v,l∈Ab t.al)(ht:E4 t v)(h:LS ⟨s,p,al⟩ (C0 (Bz al v))=false):Cy [s,t] p=false:=by
 have a:(AX [s,t] && AD p)=true:=by rw[J9,hI.hs,hI.ht,hI.hp];rfl
 obtain⟨x,f,e,d,c,b⟩:=WL hI g ht h;cases hk:Cy [s,t] p
 ·rfl
 ·rw[GW a]at hk
  rw[hk x ((ZK hI.hs hI.ht).2 ⟨f,e⟩) (aN.2 ⟨d,c⟩)]at b;cases b
theorem WZ{a:AK}{w:List Int}(b:∀l∈w,l∈Ab a.al):LA a (C0 w)=CQ a w:=by
 unfold CQ;rw[Nx w 0 b];rfl
theorem YU{s t:Sys}{p a:AK}{al:Int}(hI:Ec s p t al)(ha:AD a=true)(hal:a.al=al){u:List Int}(h:DK s a p=some u):(∀l∈Bz al u,l∈Ab al)/\LA a (C0 (Bz al u))=true/\LS ⟨s,p,al⟩ (C0 (Bz al u))=false:=by
 obtain⟨o,i,j,n,k⟩:=Ll h;have e:=Fs i;have c:=QG (al:=al) e;have d:=((fK (AN hI.hs).1 (AB ha).1).1 i).2;refine⟨c,?_,(IZ (Hq hI) c).2 ⟨u,λl b=>?_,td _,j,k⟩⟩
 ·rw[WZ (by rw[hal];exact c),<-n]
  exact Gs ha (O5 e) e (by rw[hal,Ku λ_ _ h=>h])
 ·have hb:=e l b
  rw[hal]at d;by_cases f:AV al l.toNat=true
  ·exact .inr (Hs (u:=[l]) (by intro m b;simp at b;subst b;exact hb) (by intro m b;simp at b;subst b;exact f) l (by simp))
  ·refine .inl ?_
   unfold Cg;refine qX.2 ⟨?_,by simpa using f⟩;have g:AV s.al l.toNat=true:=(d l b).resolve_right f;exact Hs (u:=[l]) (by intro m b;simp at b;subst b;exact hb) (by intro m b;simp at b;subst b;exact g) l (by simp)
theorem Hl{t:Sys}{a:AK}{v:List Int}(h:BV [t] a=some v):AU t=true/\AD a=true/\(∀l∈v,l∈Ab t.al)/\E4 t v/\CQ a v=false:=by
 obtain⟨b,d,c,e⟩:=YS h;rw[d4,Ft]at b;exact⟨b.1,b.2,(fJ b.1).1 d,ZL.1 c,e⟩
theorem Xm{t:Sys}{a:AK}{v:List Int}(h:BV [t] a=some v):(∀l∈Bz a.al v,l∈Ab a.al)/\LA a (C0 (Bz a.al v))=false:=by
 obtain⟨i,f,e,g,d⟩:=Hl h;have c:=Fs e;have b:=QG (al:=a.al) c;refine⟨b,?_⟩;rw[WZ b,<-d];exact Gs f (O5 c) c (by rw[Ku λ_ _ h=>h])
end Go.Am
namespace Go.Am
def HG(a:AK)(q:Int):Int:=(SY a).getD q.toNat 0
def Cz(a:AK)(k:Nat):AK:=⟨a.al,(Bw (FV a) k).map λq=>(a.nx.getD q []).map (HG a),(Bw (FV a) k).map λq=>a.ac.getD q false⟩
def DZ(a:AK):AK:=Cz a a.nx.length
def JB(a:AK):AK:=Ub (DZ a)
structure Hx (a:AK):Prop where
 b:Kw a
 n1:1<=a.nx.length
 ac:a.ac.length=a.nx.length
theorem Hx.pD{a:AK}(h:Hx a):∀(w:W) {q:Int},AL (BA a.al) w->0<=q/\q<((a.nx.length:Nat):Int)->0<=Bk a q w/\Bk a q w<((a.nx.length:Nat):Int)
 | [],q,_,e=>e
 | c::w,q,d,e=>by
  have f:=LK (d c (by simp));exact Hx.pD h w (λx g=>d x (by simp[g])) (Ds h.b (q:=q.toNat) (by omega) f.1 f.2)
theorem kr(a:AK)(w:W):LA a w=EG a (Bk a 0 w):=rfl
section
variable {a:AK}(h:Hx a)
include h
theorem Jm{q:Nat}(f:q<a.nx.length):∃x,(FV a)[q]?=some x/\HG a q=DY (FV a) x/\0<=HG a q/\HG a q<((DZ a).nx.length:Nat):=by
 have d:=MR h.b h.n1 h.ac;obtain⟨x,c⟩:=get_some (l:=FV a) (k:=q) (by have:=d.len;omega)
 have e:HG a q=DY (FV a) x:=by unfold HG SY;rw[d8];exact JD c
 have i:=OR (co c)
 have g:(DZ a).nx.length=(uq (FV a)).length:=by
  unfold DZ Cz;simp only[gt];rw[C7,kw (by have:=d.len;omega)]
 exact⟨x,c,e,by omega,by omega⟩
theorem Xo{q r:Nat}(f:q<a.nx.length)(d:r<a.nx.length):HG a q=HG a r↔Xa a q r:=by
 have i:=MR h.b h.n1 h.ac;obtain⟨x,c,e,_⟩:=Jm h f;obtain⟨y,g,j,_⟩:=Jm h d;rw[<-i.iff h.b f d,e,j,c,g];exact⟨λk=>by rw[PW (co c) k],λk=>by injection k with k;rw[k]⟩
theorem UE:HG a 0=0:=by
 have c:=h.n1;obtain⟨x,b,e,_⟩:=Jm h (q:=0) (by omega);have:=(OQ b).2 (by simp[uq,uniq]);have e:HG a 0=DY (FV a) x:=e;rw[e,this];rfl
theorem gv{q:Nat}(g:q<a.nx.length):∃r:Nat,r<a.nx.length/\(Bw (FV a) a.nx.length)[(HG a q).toNat]?=some r/\Xa a q r:=by
 have j:=MR h.b h.n1 h.ac;obtain⟨x,d,e,p,o⟩:=Jm h g
 have i:(DZ a).nx.length=(Bw (FV a) a.nx.length).length:=by simp[DZ,Cz]
 obtain⟨r,f⟩:=get_some (l:=Bw (FV a) a.nx.length) (k:=(HG a q).toNat) (by omega);obtain⟨m,y,n,c⟩:=Fv _ _ _ _ f;rw[kw (by have:=j.len;omega)]at c;rw[e,PV (co d)]at c
 injection c with c
 subst c;exact⟨r,m,f,(j.iff h.b g m).1 (d.trans n.symm)⟩
theorem ah{i:Nat}(hi:i<(DZ a).nx.length):∃r:Nat,r<a.nx.length/\HG a r=i:=by
 have n:=MR h.b h.n1 h.ac
 have d:(DZ a).nx.length=(Bw (FV a) a.nx.length).length:=by simp[DZ,Cz]
 obtain⟨r,m⟩:=get_some (l:=Bw (FV a) a.nx.length) (k:=i) (by omega);obtain⟨g,y,c,f⟩:=Fv _ _ _ _ m;rw[kw (by have:=n.len;omega)]at f;obtain⟨x,j,e,_⟩:=Jm h g
 rw[j]at c;injection c with c;subst c
 refine⟨r,g,?_⟩;rw[e];exact ZF f
theorem mu:Hx (DZ a)/\(DZ a).nx.length<=a.nx.length:=by
 have n:=MR h.b h.n1 h.ac;have hb:=h.b
 have m:(DZ a).nx.length=(uq (FV a)).length:=by
  unfold DZ Cz;simp only[gt];rw[C7,kw (by have:=n.len;omega)]
 have z:=JR (FV a);have w:=n.len;have v:=h.n1;obtain⟨x,u,e,B,A⟩:=Jm h (q:=0) (by omega);refine⟨⟨⟨by have:=hb.1;omega,λq f=>?_⟩,by omega,by simp[DZ,Cz]⟩,by omega⟩;have f:q<((Bw (FV a) a.nx.length).map λq=>(a.nx.getD q []).map (HG a)).length:=f;rw[gt]at f;obtain⟨r,j⟩:=get_some f;obtain⟨s,_⟩:=Fv _ _ _ _ j;have d:=Yy hb s;refine⟨((Ab a.al).map (Bg a r)).map (HG a),?_,by simp;rfl,λk y c=>?_⟩
 ·show ((Bw (FV a) a.nx.length).map _)[q]?=_
  rw[f6,j,rM,Ej d]
 ·rw [f6,f6]at c
  cases i:(Ab a.al)[k]? with
  | none=>rw[i]at c;cases c
  | some l=>
   rw[i]at c
   injection c with c
   have g:=Af (co i);have t:=Ds hb s g.1 (by omega);obtain⟨_,_,_,p,o⟩:=Jm h (q:=(Bg a r l).toNat) (by omega);rw[show (((Bg a r l).toNat:Nat):Int)=Bg a r l by omega]at p o;subst c;exact⟨p,o⟩
theorem gk{q:Nat}(g:q<a.nx.length){l:Int}(f:l∈Ab a.al):Bg (DZ a) (HG a q).toNat l=HG a (Bg a q l):=by
 obtain⟨r,j,n,m⟩:=gv h g;have c:=Af f;have d:=Yy h.b j
 have e:Bg (DZ a) (HG a q).toNat l=HG a (Bg a r l):=by
  unfold Bg;rw[show AV (DZ a).al l.toNat=true from c.2.2,c.2.2,if_pos rfl,if_pos rfl]
  show (((Bw (FV a) a.nx.length).map λq=>(a.nx.getD q []).map (HG a)).getD _ []).getD _ 0=_
  rw[jp,jp,f6,n,rM,sr,f6,Ej d]
  show Option.getD (Option.map (HG a) ((Ab a.al).map (Bg a r))[(AI a.al l.toNat).length]?) 0=HG a (((Ab a.al).map (Bg a r)).getD (AI a.al l.toNat).length 0)
  rw[jp,f6,Nk f];rfl
 rw[e];have p:=Ds h.b g c.1 (by omega);have o:=Ds h.b j c.1 (by omega);have i:=m.step f;rw[d8,d8]at i
 have:=(Xo h (q:=(Bg a r l).toNat) (r:=(Bg a q l).toNat) (by omega) (by omega)).2 (by
  rw[show (((Bg a r l).toNat:Nat):Int)=Bg a r l by omega,show (((Bg a q l).toNat:Nat):Int)=Bg a q l by omega]
  exact λw k=>(i w k).symm)
 rw[show (((Bg a r l).toNat:Nat):Int)=Bg a r l by omega,show (((Bg a q l).toNat:Nat):Int)=Bg a q l by omega]at this;exact this
theorem gj{q:Nat}(b:q<a.nx.length):EG (DZ a) (HG a q)=EG a q:=by
 obtain⟨r,i,g,f⟩:=gv h b;have e:EG a q=EG a r:=f [] (λc d=>by cases d);rw[e];unfold EG
 show ((Bw (FV a) a.nx.length).map λq=>a.ac.getD q false).getD _ false=_
 rw[jp,f6,g,d8];rfl
theorem ZY:∀(w:W) {q:Nat},q<a.nx.length->AL (BA a.al) w->Bk (DZ a) (HG a q) w=HG a (Bk a q w)
 | [],q,_,_=>rfl
 | c::w,q,i,g=>by
  obtain⟨l,j,rfl⟩:=d9.1 (g c (by simp));have e:=Af j;have m:=Ds h.b i e.1 (by omega);have f:=ZY w (q:=(Bg a q l).toNat) (by omega) λd k=>g d (by simp[k]);rw[show (((Bg a q l).toNat:Nat):Int)=Bg a q l by omega]at f
  show Bk (DZ a) (Bg (DZ a) (HG a q).toNat (((lb l).toNat:Int)-97)) w=HG a (Bk a (Bg a ((q:Int).toNat) (((lb l).toNat:Int)-97)) w)
  rw[Fm e.1 (by omega),d8,gk h i j];exact f
theorem TU{q:Nat}(c:q<a.nx.length){w:W}(b:AL (BA a.al) w):EG (DZ a) (Bk (DZ a) (HG a q) w)=EG a (Bk a q w):=by
 have:=h.pD w (q:=(q:Int)) b (by omega);rw[ZY h w c b];have e:=gj h (q:=(Bk a q w).toNat) (by omega);rwa[show (((Bk a q w).toNat:Nat):Int)=Bk a q w by omega]at e
theorem mw{w:W}(b:AL (BA a.al) w):LA (DZ a) w=LA a w:=by
 have c:=h.n1;have:=TU h (q:=0) (by omega) b;rw[show (((0:Nat):Int))=0 from rfl,UE h]at this;exact this
theorem mx{i j:Nat}(hi:i<(DZ a).nx.length)(f:j<(DZ a).nx.length)(d:Xa (DZ a) i j):i=j:=by
 obtain⟨q,e,k⟩:=ah h hi;obtain⟨r,b,g⟩:=ah h f;rw[<-k,<-g]at d
 have:=(Xo h e b).2 λw c=>by
  have:=d w c;rwa[TU h e c,TU h b c]at this
 omega
end
structure mZ (a m:AK):Prop where
 al:m.al=a.al
 g:Hx m
 n2:m.nx.length<=a.nx.length
 lang:∀w,AL (BA a.al) w->LA m w=LA a w
 rc:∀i:Nat,i<m.nx.length->∃w,AL (BA a.al) w/\Bk m 0 w=i
 ds:∀i j:Nat,i<m.nx.length->j<m.nx.length->Xa m i j->i=j
theorem oY{a:AK}(h:Hx a)(u:∀i j:Nat,i<a.nx.length->j<a.nx.length->Xa a i j->i=j){i j:Nat}(hi:i<(Ub a).nx.length)(g:j<(Ub a).nx.length)(o:Xa (Ub a) i j):i=j:=by
 obtain⟨nd,rows,_,n,F,p,e⟩:=YM h.b h.n1;have B:=n.len;rw[e]at hi g o;have hi:i<rows.length:=hi;have g:j<rows.length:=g;obtain⟨x,f⟩:=get_some (l:=nd) (k:=i) (by omega);obtain⟨y,d⟩:=get_some (l:=nd) (k:=j) (by omega)
 have key:∀ {k:Nat} {z:Int},nd[k]?=some z->∀ {w:W},AL (BA a.al) w->EG ⟨a.al,rows,nd.map (EG a)⟩ (Bk ⟨a.al,rows,nd.map (EG a)⟩ k w)=EG a (Bk a z w):=λ{k z} q {w} c=>by
  obtain⟨m,A,v⟩:=Ma n (ac:=nd.map (EG a)) w c q;rw[A]
  show (nd.map (EG a)).getD ((m:Int).toNat) false=_
  rw[d8,jp,f6,v];rfl
 have t:=p x (co f);have r:=p y (co d)
 have s:=u x.toNat y.toNat (by omega) (by omega) λw c=>by
  have:=o w c;rw[key f c,key d c]at this;rw[show ((x.toNat:Nat):Int)=x by omega,show ((y.toNat:Nat):Int)=y by omega];exact this
 obtain rfl:x=y:=by omega
 exact(tU (by omega) n.nodup).1 (f.trans d.symm)
theorem fg{a:AK}(h:Hx a):mZ a (JB a):=by
 obtain⟨c,o⟩:=mu h;obtain⟨m,l,n,k,g⟩:=qP c.b c.n1;unfold JB;exact⟨oX _,⟨m,l,k⟩,by omega,λw f=>by rw[mY c.b c.n1 f];exact mw h f,g,λi j hi e d=>oY c (λi j hi e d=>mx h hi e d) hi e d⟩
theorem canon{a x:AK}(h:Hx a)(K:Hx x)(hal:x.al=a.al)(lang:∀w,AL (BA a.al) w->LA x w=LA a w)(rc:∀i:Nat,i<x.nx.length->∃w,AL (BA a.al) w/\Bk x 0 w=i)(ds:∀i j:Nat,i<x.nx.length->j<x.nx.length->Xa x i j->i=j):Ub x=JB a:=by
 obtain⟨Q,g2⟩:=mu h;have hn1:=h.n1;have F:=K.n1
 obtain⟨wd,d⟩:∃wd:Int->W,∀i:Int,0<=i/\i<((x.nx.length:Nat):Int)->AL (BA a.al) (wd i)/\Bk x 0 (wd i)=i:=by
  refine⟨λi=>if hi:0<=i/\i<((x.nx.length:Nat):Int) then Classical.choose (rc i.toNat (by omega)) else [],λi hi=>?_⟩;have:=Classical.choose_spec (rc i.toNat (by omega));simp only[hi,and_self,dite_true];exact⟨this.1,by rw[this.2];omega⟩
 have m:∀ {w:W},AL (BA a.al) w->0<=Bk a 0 w/\Bk a 0 w<((a.nx.length:Nat):Int):=λk=>h.pD _ k (by omega)
 have I:∀ {u v:W},AL (BA a.al) u->AL (BA a.al) v->AL (BA a.al) (u++v):=λhu hv c o=>by
  rcases gc.1 o with o|o
  ·exact hu c o
  ·exact hv c o
 have z:∀ {p q:Int},(0<=p/\p<((a.nx.length:Nat):Int))->(0<=q/\q<((a.nx.length:Nat):Int))->(HG a p=HG a q↔Xa a p q):=λ{p q} hp G=>by
  have:=Xo h (q:=p.toNat) (r:=q.toNat) (by omega) (by omega);rwa[show ((p.toNat:Nat):Int)=p by omega,show ((q.toNat:Nat):Int)=q by omega]at this
 have n:∀ {i:Int} {w:W},(0<=i/\i<((x.nx.length:Nat):Int))->AL (BA a.al) w->EG a (Bk a (Bk a 0 (wd i)) w)=EG x (Bk x i w):=λ{i w} hi k=>by
  obtain⟨B,J⟩:=d i hi;have:=lang (wd i++w) (I B k);rw[kr,kr,Mo,Mo,J]at this;exact this.symm
 have L:Ab x.al=Ab a.al:=by rw[hal]
 have N:∀q l:Int,(0<=q/\q<((x.nx.length:Nat):Int))->l∈Ab a.al->0<=fA x q l/\fA x q l<((x.nx.length:Nat):Int):=λq l G A=>by
  have t:=Af A;exact Ds K.b (q:=q.toNat) (by omega) t.1 (by omega)
 have iso:=fz (lim:=x.nx.length+(DZ a).nx.length) (f:=fA x) (g:=fA (DZ a)) (ls:=Ab a.al) (R:=λi=>0<=i/\i<((x.nx.length:Nat):Int)) (φ:=λi=>HG a (Bk a 0 (wd i))) (s:=0)
  (λi j hi V e=>by
   have e2:=(z (m (d i hi).1) (m (d j V).1)).1 e
   have:=ds i.toNat j.toNat (by omega) (by omega) λw k=>by
    rw[hal]at k;rw[show ((i.toNat:Nat):Int)=i by omega,show ((j.toNat:Nat):Int)=j by omega,<-n hi k,<-n V k];exact e2 w k
   omega)
  (λq l G A=>by
   have t:=Af A;have B:=N q l G A;refine⟨B,?_⟩;have J:=m (d q G).1;have Y:=gk h (q:=(Bk a 0 (wd q)).toNat) (by omega) A;rw[show (((Bk a 0 (wd q)).toNat:Nat):Int)=Bk a 0 (wd q) by omega]at Y
   show _=Bg (DZ a) (HG a (Bk a 0 (wd q))).toNat l
   rw[Y];have h4:=Ds h.b (q:=(Bk a 0 (wd q)).toNat) (by omega) t.1 (by omega);refine(z (m (d _ B).1) h4).2 λw k=>?_;rw[n B k]
   have P:AL (BA a.al) (lb l::w):=λc o=>by
    rcases lw.1 o with rfl|o
    ·exact d9.2 ⟨l,A,rfl⟩
    ·exact k c o
   have X:=n G P
   have e:∀(y:AK) (p:Int),Bk y p (lb l::w)=Bk y (Bg y p.toNat l) w:=λy p=>by
    show Bk y (Bg y p.toNat (((lb l).toNat:Int)-97)) w=_
    rw[Fm t.1 (by omega)]
   rw[e,e]at X
   exact X.symm)
  (show (0:Int)<=0/\(0:Int)<((x.nx.length:Nat):Int) by omega)
 have e0:HG a (Bk a 0 (wd 0))=0:=by
  refine Eq.trans ?_ (UE h)
  have Z:(0:Int)<=0/\(0:Int)<((x.nx.length:Nat):Int):=by omega
  refine(z (q:=0) (m (d 0 Z).1) (by omega)).2 λw k=>?_;rw[n Z k];exact lang w k
 simp only[e0]at iso;obtain⟨nd,rows,S,n2,n3,n4,n5⟩:=YM K.b F;obtain⟨nd',rows',T,m2,m3,m4,m5⟩:=YM Q.b Q.n1;rw[L]at S;have M:Ab (DZ a).al=Ab a.al:=rfl;rw[M]at T;obtain⟨_,_,n6⟩:=J8 F S;obtain⟨_,_,m6⟩:=J8 Q.n1 T;rw[n6 _ (by omega),m6 _ (by omega)]at iso;simp only[rM,Option.some.injEq,Prod.mk.injEq]at iso;obtain⟨i1,i2⟩:=iso;unfold JB;rw[n5,m5,i1,i2,rL]
 have e:nd.map (EG x)=nd.map (EG (DZ a)∘λi=>HG a (Bk a 0 (wd i))):=rB λi hi=>by
  have H:=n4 i hi;have B:=m (d i H).1;have J:=gj h (q:=(Bk a 0 (wd i)).toNat) (by omega);rw[show (((Bk a 0 (wd i)).toNat:Nat):Int)=Bk a 0 (wd i) by omega]at J
  show EG x i=EG (DZ a) (HG a (Bk a 0 (wd i)))
  rw[J];exact(n H (w:=[]) (λc o=>by cases o)).symm
 rw[e]
 show (⟨x.al,_,_⟩:AK)=⟨a.al,_,_⟩
 rw[hal]
theorem mI{x:AK}(c:Hx x)(rc:∀i:Nat,i<x.nx.length->∃w,AL (BA x.al) w/\Bk x 0 w=i):(Ub x).nx.length=x.nx.length:=by
 obtain⟨nd,rows,p,a,o,n,f⟩:=YM c.b c.n1;have q:=a.len
 have key:∀i:Nat,i<x.nx.length->(i:Int)∈nd:=λi hi=>by
  obtain⟨w,k,e⟩:=rc i hi;obtain⟨j,r,d⟩:=Ma a (ac:=[]) w k a.st;rw[e]at d;exact co d
 have := Fq (l:=(List.range x.nx.length).map Int.ofNat) (m:=nd) (by
  unfold List.Nodup;rw[se]
  exact List.nodup_range.imp λh e=>h (by injection e)) λy g=>by
   obtain⟨i,hi,rfl⟩:=d9.1 g;exact key i (pi.1 hi)
 rw[f]
 show rows.length=_
 simp at this;omega
def qp(k:Nat):List Int:=(List.range k).map λ(i:Nat)=>(i:Int)
section
variable {α:Type}[DecidableEq α]
def cZ(f:α->Int->Option α):Option α->Int->Option α
 | none,_=>none
 | some q,l=>f q l
def Tf(f:α->Int->Option α):Option α->W->Option α
 | o,[]=>o
 | o,c::w=>Tf f (cZ f o ((c.toNat:Int)-97)) w
end
section
variable {p:AK}(hp:AD p=true)
include hp
end
theorem jj{a:AK}(h:Hx a):(JB (JB a)).nx.length=(JB a).nx.length:=by
 have b:=fg h
 have c:∀i:Nat,i<(JB a).nx.length->∃w,AL (BA (JB a).al) w/\Bk (JB a) 0 w=i:=λi hi=>by
  obtain⟨w,e,d⟩:=b.rc i hi;exact⟨w,by rw[b.al];exact e,d⟩
 have:=canon b.g b.g rfl (λ_ _=>rfl) c b.ds;rw[<-this];exact mI b.g c
end Go.Am
namespace Go.Am
open Go
structure Uk (a:AK) (cs:List Int) (n k:Nat):Prop where
 len:cs.length=a.nx.length
 qp:∀x∈cs,0<=x/\x<100
 cnt:n=0\/n=(uq cs).length
 fuel:a.nx.length<=k+n
 eq:bm a (k+1) cs n=FV a
def NU(a:AK)(cs:List Int):List W:=(CB a cs).map Xy
theorem bK{a:AK}{cs:List Int}{q:Nat}(h:q<a.nx.length):(NU a cs)[q]?=some (Xy (Jt a cs q)):=by
 unfold NU;rw[f6,BD h];rfl
theorem bL(a:AK)(cs:List Int):(NU a cs).length=a.nx.length:=by simp[NU,Fi]
theorem UR{cs:List Int}(h:∀x∈cs,0<=x/\x<100)(i:Nat):0<=cs.getD i 0/\cs.getD i 0<100:=by
 rw[jp]
 cases a:cs[i]? with
 | none=>exact⟨ux _,by show (0:Int)<100;omega⟩
 | some x=>exact h x (co a)
theorem U9{a:AK}{cs:List Int}(h:∀x∈cs,0<=x/\x<100)(q:Nat):∀x∈Jt a cs q,0<=x/\x<100:=λx b=>by
 unfold Jt at b
 rcases lw.1 b with rfl|b
 ·exact UR h q
 ·obtain⟨y,_,rfl⟩:=d9.1 b
  exact UR h _
theorem Vi{a:AK}{cs:List Int}(h:∀x∈cs,0<=x/\x<100):∀x y,x∈CB a cs->y∈CB a cs->Xy x=Xy y->x=y:=λx y c b e=>by
 obtain⟨q,_,rfl⟩:=d9.1 c;obtain⟨r,_,rfl⟩:=d9.1 b;exact eO (U9 h q) (U9 h r) (by simp[Jt]) (by simp[Jt]) e
theorem Xz{a:AK}{cs:List Int}(h:∀x∈cs,0<=x/\x<100):E9 (NU a cs)=E9 (CB a cs):=fC (Vi h)
theorem eQ{a:AK}{cs:List Int}(h:∀x∈cs,0<=x/\x<100):(uq (NU a cs)).length=(uq (CB a cs)).length:=by
 unfold NU;rw[ij (Vi h),gt]
theorem fD{a:AK}(h:a.nx.length<=64)(cs:List Int):∀x∈E9 (CB a cs),0<=x/\x<100:=λx c=>by
 obtain⟨y,b,rfl⟩:=d9.1 c;have e:=OR b;have d:=JR (CB a cs);rw[Fi]at d;omega
theorem Uk.zero{a:AK}(h:Hx a):Uk a (IC a) 0 a.nx.length:=
 ⟨by simp[IC,h.ac],λx c=>by
  obtain⟨b,_,rfl⟩:=d9.1 c;cases b
  ·exact⟨ux _,by show (0:Int)<100;omega⟩
  ·exact⟨by show (0:Int)<=1;omega,by show (1:Int)<100;omega⟩,.inl rfl,by omega,rfl⟩
theorem Uk.step{a:AK}(h:Hx a){cs:List Int}{n k:Nat}(hi:Uk a cs n k) :
 ((uq (CB a cs)).length=n/\SY a=E9 (CB a cs))\/((uq (CB a cs)).length≠n/\1<=k/\Uk a (E9 (CB a cs)) (uq (CB a cs)).length (k-1)):=by
 have hb:=h.b.1;have g:=h.n1;have d:=hi.eq;have c:=YQ (λk:List Int=>k.headD 0) (CB a cs);rw[kD hi.len]at c;have i:=JR (CB a cs);rw[Fi]at i;unfold bm at d;by_cases e:(uq (CB a cs)).length=n
 ·rw[if_pos e]at d
  exact .inl ⟨e,by unfold SY;rw[d]⟩
 ·rw[if_neg e]at d
  have j:=hi.fuel;have f:=hi.cnt
  have hk:1<=k:=by omega
  refine .inr ⟨e,hk,by simp[E9,Fi],fD hb cs,.inr (aQ _).symm,?_,?_⟩
  ·rcases f with f|f<;>omega
  ·rw[show k-1+1=k by omega];exact d
theorem bE(u:List W)(x:W):(x∈u->Gq (Uh u) x=some ((pE u x:Nat):Int))/\(x∉u->Gq (Uh u) x=none):=by
 rw[bC];unfold nD;exact⟨λh=>if_pos h,λh=>if_neg h⟩
theorem jr{l:List W}{k:Nat}{x:W}(h:l[k]?=some x):(x∈uq (l.take k)->DY l x=((pE (uq (l.take k)) x:Nat):Int))/\(x∉uq (l.take k)->DY l x=(uq (l.take k)).length):=
 ⟨λa=>((OQ h).1 a).1,(OQ h).2⟩
theorem Sp{α:Type}[DecidableEq α]{l:List α}{k:Nat}{x:α}(h:l[k]?=some x):(x∈uq (l.take k)->Bw l (k+1)=Bw l k)/\(x∉uq (l.take k)->Bw l (k+1)=Bw l k++[k]):=by
 constructor
 ·intro a
  simp only[Bw,h,if_pos a]
 ·intro a
  simp only[Bw,h,if_neg a]
theorem c7(l:List Int)(x:Int):EE (l++[x])=EE l++(44::EM x.toNat):=by simp[EE]
theorem Pq(n:Nat):(EM n).length<=2:=by unfold EM;split<;>simp
theorem c8(l:List Int):(EE l).length<=3*l.length:=by
 induction l with
 | nil=>simp[EE]
 | cons x l a=>
  have:=Pq x.toNat
  have e:EE (x::l)=44::EM x.toNat++EE l:=by simp[EE]
  rw[e];simp;omega
theorem eP(a:AK)(cs:List Int)(q:Nat):Xy (Jt a cs q)=EM (cs.getD q 0).toNat++EE ((a.nx.getD q []).map λx=>cs.getD x.toNat 0):=rfl
theorem Yu{a:AK}(h:Hx a){k:Nat}(hk:k<a.nx.length) :
 (HG a k<((Cz a k).nx.length:Nat)/\Cz a (k+1)=Cz a k)\/(¬HG a k<((Cz a k).nx.length:Nat)/\Cz a (k+1)=⟨a.al,(Cz a k).nx++[(a.nx.getD k []).map (HG a)],(Cz a k).ac++[a.ac.getD k false]⟩):=by
 obtain⟨x,d,e,_⟩:=Jm h hk
 have b:(Cz a k).nx.length=(uq ((FV a).take k)).length:=by simp[Cz,C7]
 obtain⟨g,f⟩:=OQ d;by_cases c:x∈uq ((FV a).take k)
 ·refine .inl ⟨by rw[e,b];exact(g c).2,?_⟩
  unfold Cz;rw[(Sp d).1 c]
 ·refine .inr ⟨by rw[e,b,f c];omega,?_⟩
  unfold Cz;rw[(Sp d).2 c];simp
theorem cI(a:AK):∀k,(Cz a k).nx.length<=k:=λk=>by
 have:(Cz a k).nx.length=(uq ((FV a).take k)).length:=by simp[Cz,C7]
 have b:=JR ((FV a).take k);simp at b;omega
theorem VO(a:AK)(k:Nat):(Cz a k).ac.length=(Cz a k).nx.length:=by simp[Cz]
theorem dZ{a:AK}(h:Hx a):(SY a).length=a.nx.length:=by
 have:=(MR h.b h.n1 h.ac).len;simp[SY,E9,this]
end Go.Am
namespace Go.Am
open Go Go.Proofs
set_option maxHeartbeats 1000000
set_option maxRecDepth 4000
attribute [local irreducible] A5 Ck Lex Br Aj Spec
variable {TB:BJ}
theorem ig{a:AK}{q l:Int}(d:0<=q/\q<a.nx.length)(b:l∈Ab a.al):Pure Tryz.prog TB 172 [eI .i64 q,eI .i64 l,.o (.ip [.l (Dq a)])] (eI .i64 (fA a q l)):=by
 have b:=Af b;have ta:=Ks (a:=a) (q:=q.toNat) (by omega)
 have el:((l.toNat:Nat):Int)=l:=by omega
 have ra:=Ih (h:=λl=>Bg a q.toNat l) b.1 (by omega);simp only[el]at ra;refine eN Tryz.func172 rfl (by kernel_rfl) rfl ?_;intro U c;(repeat first|(refine sA rfl ?_ ?_;first|exact tI|omega)|(refine s4 rfl ‹_› rfl ?_ ?_;omega)|(refine Al rfl ?_;refine gA rfl ?_;first|refine gS (λ_ _=>DO rfl ra) ?_)|refine aU rfl ?_|apply Aa);refine aR ⟨_,rfl,rfl⟩
theorem ki{a:AK}(h:Hx a):Pure Tryz.prog TB 117 [Bh a] (Bh (Ub a)):=by
 have A:=h.b.1;have m:=h.n1;have B:=h.ac;have j:=Of (TB:=TB) a h.b;have s:=CJ (TB:=TB) a.al;obtain⟨nd,rows,I,H,J,G,F⟩:=YM h.b h.n1
 have e:Pure Tryz.prog TB 56 [eI .i64 0,Ak (Ab a.al),eI .i64 a.nx.length,.o (.fn 172 [.ip [.l (Dq a)]])] (br (HC a.nx.length (fA a) (Ab a.al) 0)):=by
  refine N6 (lim:=a.nx.length) (R:=λq=>0<=q/\q<((a.nx.length:Nat):Int)) ⟨m,A⟩ (AJ _ 6) (by omega) (λq l f i=>?_) (λq l f i=>ig f i) rfl (λr=>rfl);have i:=Af i;exact Ds h.b (q:=q.toNat) (by omega) i.1 (by omega)
 rw[I]at e;rw[F];have z:=H.len;refine eG Tryz.func117 rfl (by kernel_rfl) rfl ?_;intro U c;(repeat first|refine tA rfl ?_|refine sP rfl (j) rfl ?_|refine aU rfl ?_|apply Aa);refine Aj.AA [1] [(1,.o (.ip (AE a))),(2,.o (.ptr 0 3 0 0)),(3,.o (.ip [.l (Dq a)]))] ⟨⟨_,rfl,.inl rfl⟩,⟨_,rfl,.inl rfl⟩,⟨_,rfl,.inr (.o (.box rfl (Eb.refl [.l (Dq a)])))⟩,trivial⟩ ?_;have p:(List.range a.nx.length).length=a.nx.length:=ut;rw[<-p]at e;refine rG (Hz []) (by kernel_rfl) ?_;(repeat first|refine sN rfl ?_|refine tA rfl ?_|refine sP rfl (s) rfl ?_|refine sP rfl (e) rfl ?_|refine aU rfl ?_|apply Aa);(refine pW rfl ?_ rfl (by rfl);refine Gd 2 1 4 rfl rfl rfl (by rfl) (by rfl) ?_);(repeat first|refine sN rfl ?_|refine tA rfl ?_|refine aU rfl ?_|apply Aa);apply aB;refine aL (α:={k:Nat // k<=nd.length}) [1,2,7,27,28] [0] rfl rfl (λ⟨k,hk⟩=>[(29,eI .i64 k)]) (λ⟨k,hk⟩=>[(3,.cells 29 3 [[.d (iD a.al),.d (Ce rows),.arr 2 1 0 k]]),(2,.cells 4 1 (((nd.take k).map (EG a)).map AO))]) 4 (λ⟨k,hk⟩=>nd.length-k) (⟨0,by omega⟩) c rfl (by (simp[cX,zC,c,eC,BM,Ae])) ?_;rintro⟨k,hk⟩;(try dsimp only[cA,cB]);by_cases n:k<nd.length
 ·obtain⟨q,f⟩:=get_some n
  have y:=get_map (g:=Bc) f;have x:=G q (co f);obtain⟨bb,hb⟩:=get_some (l:=a.ac) (k:=q.toNat) (by omega);have u:=get_map (g:=Jk) hb;have t:EG a q=bb:=Ej hb
  have ht:nd.take (k+1)=nd.take k++[q]:=by rw[i7,f];rfl
  rw[d8]at u;(repeat first|refine s2 rfl λ_ v=>?_|refine aU rfl ?_|apply Aa)
  ((refine aC rfl ?_ ?_<;>rintro⟨⟩);all_goals try(exfalso;(simp only[oZ] at *;omega)))
  apply aK;refine aS (aB ?_);(repeat first|refine tA rfl ?_|(refine s4 rfl ‹_› rfl ?_ ?_;omega)|refine aU rfl ?_|apply Aa);refine rG (Hz [8,10]) (by kernel_rfl) ?_;(repeat first|refine tA rfl ?_|(refine s4 rfl ‹_› rfl ?_ ?_;omega));(refine pW rfl ?_ rfl (by rfl);refine Au rfl rfl rfl (by first|(simp;done)|(simp;(omega))) rfl (by intro r w;simp at w;subst w;rfl) (by rfl) (ce rfl) (by simp;omega) ?_);(repeat first|(refine sA rfl ?_ ?_;first|exact tI|omega)|refine aU rfl ?_|apply Aa);refine⟨⟨k+1,by omega⟩,by dsimp only;(omega),[0,1,4,3],?_⟩;simp[cX,zC,c,eC,BM,Ae,ht,t]
 ·obtain rfl:k=nd.length:=by omega
  rw[i8];(repeat first|refine s2 rfl λ_ v=>?_|refine aU rfl ?_|apply Aa)
  ((refine aC rfl ?_ ?_<;>rintro⟨⟩);all_goals try(exfalso;(simp only[oZ] at *;omega)))
  apply aE;refine Aj.AA [2,3] [(2,.o (.ptr 0 3 0 0)),(7,.o (.ip [iD a.al,Ce rows,FP (nd.map (EG a))]))] ⟨⟨_,rfl,.inl rfl⟩,⟨_,rfl,.inr (.o (.box rfl (.cons .d (.cons .d (.cons (.full rfl (by simp[d5]) (by simp)) .nil)))))⟩,trivial⟩ ?_;(repeat first|refine tA rfl ?_|refine aU rfl ?_|apply Aa);(subst_vars;exact aR ⟨_,rfl,rfl⟩)
end Go.Am
