/-
  Arrays of arrays of the call's own: the inner ones lie sealed, one of them at a time is taken out and put back.
-/
import Derived.Test.YtbfgijpfhgmepaaGreatDoorPart15
import Derived.Test.YtbfgijpfhgmepaaGreatDoorPart6
import Derived.Test.YtbfgijpfhgmepaaGreatDoorPart14
import Derived.Test.YtbfgijpfhgmepaaGreatDoorPart8
import Derived.Test.YtbfgijpfhgmepaaGreatDoorPart5
set_option linter.constructorNameAsVariable false
set_option linter.unusedSectionVars false
set_option linter.unusedSimpArgs false
set_option linter.unusedVariables false
namespace Go.Am
open Go
abbrev Iy:=List (Value×List Int)
def sI(l:Iy):List (Value×List Value):=l.map λx=>(x.1,x.2.map (.int .i64))
def AA(l:Iy):List (List C):=l.map λx=>[.d (.v x.1)]
abbrev Lq(xs:List Int):List (List C):=xs.map AD
theorem dY{V:View}{i k off n:Nat}{v:Value}(h:AG V (.arr i k off n) v):(V.nl i/\off=0/\n=0/\v=.slice none 0 0)\/(¬V.nl i/\off+n<=V.cap i/\v=.slice (some ⟨V.ρ i,off*k,none⟩) n (V.cap i - off)):=by
 cases h with
 | nil _ h=>exact .inl ⟨h,rfl,rfl,rfl⟩
 | arr _ b a=>exact .inr ⟨b,a,rfl⟩
theorem Ky(l m:Iy):sI (l++m)=sI l++sI m:=nY
theorem AW(l m:Iy):AA (l++m)=AA l++AA m:=nY
theorem CI(l:Iy):(AA l).length=l.length:=gt _
theorem Uu(r:Nat->Nat)(l:Iy):(AA l).map (C.Cv r)=AA l:=by
 unfold AA;rw [n7];rfl
theorem cx(l:List Int):(Lq l).length=l.length:=gt _
section
variable {P:Program}{TB:Bz}{Z:Ctx}{N:Nat}{V:View}{σ:Ab}{a i s:Nat}{T Ta:TypeId}{R1 R2:List (List C)}{xs:List Int}{l1 l2:Iy}
theorem WK{l:Iy}{x:Value×List Value}(h:x∈sI l):∃y∈l,x=(y.1,y.2.map (.int .i64)):=by
 obtain⟨y,a,rfl⟩:=d9.1 h;exact⟨y,a,rfl⟩
theorem Inv.put(h:Inv TB Z V σ)(ha:look σ a=some (.cells Ta 1 (R1++[.arr i 1 0 xs.length]::R2)))(hi:look σ i=some (.cells T 1 (Lq xs)))(P:look σ s=some (.sld T (sI (l1++l2)))) :
 ∃v,Inv TB Z V ((a,.cells Ta 1 (R1++[.d (.v v)]::R2))::(s,.sld T (sI (l1++(v,xs)::l2)))::kill i σ):=by
 have has:a≠s:=λe=>by rw [e,P] at ha;cases ha
 have Y:i≠s:=λe=>by rw [e,P] at hi;cases hi
 have hai:a≠i:=λe=>by
  rw [e,hi] at ha
  injection ha with ha;injection ha with _ _ ha
  have B:(Lq xs)[R1.length]? = some [.arr i 1 0 xs.length]:=by rw [ha];simp
  rw [i9,d7] at B;obtain⟨x,_,A⟩:=B;cases A
 rcases h.st.obj a _ ha with ⟨_,h0⟩|⟨hna,cur,R,N,h4,h5,h6,h7⟩
 ·simp at h0
 obtain⟨v,hv,Q⟩:=h7 R1.length [.arr i 1 0 xs.length] 0 (.arr i 1 0 xs.length) (by simp) rfl;have Q:=dY Q
 have hsl:Pr v=true:=by rcases Q with ⟨_,_,_,rfl⟩|⟨_,_,rfl⟩<;>rfl
 have I:∀b,Kb v b->¬V.nl i/\b=V.ρ i:=by
  rintro b ⟨o,n,c,rfl⟩
  rcases Q with ⟨_,_,_,p⟩|⟨m,_,p⟩
  ·cases p
  ·injection p with p;injection p with p;injection p with p;exact⟨m,p⟩
 have K:KJ V.w T v (xs.map (.int .i64)):=by
  rcases h.st.obj i _ hi with ⟨G,z⟩|⟨hni,cur',z,F,g4,g5,g6,g7⟩
  ·have:xs=[]:=by simpa using z
   subst this
   rcases Q with ⟨_,_,_,rfl⟩|⟨m,_⟩
   ·exact .inl ⟨rfl,rfl⟩
   ·exact absurd G m
  ·rcases Q with ⟨m,_⟩|⟨_,hle,rfl⟩
   ·exact absurd m hni
   ·refine .inr ⟨V.ρ i,V.cap i,cur',by simp,z,by simpa using F,by rw [cx] at g4;simpa using g4,g5,λj x M=>?_⟩
    rw [i9,d7] at M;obtain⟨n,m,rfl⟩:=M;obtain⟨w,p,hcw⟩:=g7 j [.d (.v (.int .i64 n))] 0 (.d (.v (.int .i64 n))) (by simp [Lq,m]) rfl;have:w=.int .i64 n:=AG.val hcw;subst this;exact⟨by simpa using p,rfl⟩
 refine⟨v,?_⟩;have look':∀id o,look ((a,.cells Ta 1 (R1++[.d (.v v)]::R2))::(s,.sld T (sI (l1++(v,xs)::l2)))::kill i σ) id=some o->
  (id=a/\o=.cells Ta 1 (R1++[.d (.v v)]::R2))\/(id=s/\o=.sld T (sI (l1++(v,xs)::l2)))\/(id≠a/\id≠s/\id≠i/\look σ id=some o):=λid o f=>by
  rw [Az] at f;by_cases B:a=id
  ·rw [if_pos B] at f;injection f with f;exact .inl ⟨B.symm,f.symm⟩
  ·rw [if_neg B,Az] at f
   by_cases R:s=id
   ·rw [if_pos R] at f;injection f with f;exact .inr (.inl ⟨R.symm,f.symm⟩)
   ·rw [if_neg R,Fi] at f
    by_cases N:id=i
    ·rw [if_pos N] at f;cases f
    ·rw [if_neg N] at f;exact .inr (.inr ⟨Ne.symm B,Ne.symm R,N,f⟩)
 have hsb:∀b,EJ V s (.sld T (sI (l1++(v,xs)::l2))) b->EJ V s (.sld T (sI (l1++l2))) b\/(¬V.nl i/\b=V.ρ i):=by
  rintro b ⟨x,A,hb⟩;obtain⟨y,l,rfl⟩:=WK A
  rcases em.1 l with l|l
  ·exact .inl ⟨_,d9.2 ⟨y,nw _ l,rfl⟩,hb⟩
  ·rcases ng.1 l with rfl|l
   ·exact .inr (I b hb)
   ·exact .inl ⟨_,d9.2 ⟨y,nC _ l,rfl⟩,hb⟩
 have t:=h.st.obj s _ P
 have H:∀x∈sI (l1++l2),∀b,Kb x.1 b->¬Kb v b:=λx A b hb u=>by
  obtain⟨m,rfl⟩:=I b u;exact h.st.inj s i _ _ P hi (Ne.symm Y) t.1 m _ ⟨x,A,hb⟩ rfl
 have src:∀id o,look ((a,.cells Ta 1 (R1++[.d (.v v)]::R2))::(s,.sld T (sI (l1++(v,xs)::l2)))::kill i σ) id=some o->¬V.nl id->∀b,EJ V id o b->∃g J,look σ g=some J/\¬V.nl g/\EJ V g J b/\(g=id\/g=i/\id=s):=λid o f m b hb=>by
  rcases look' id o f with ⟨rfl,rfl⟩|⟨rfl,rfl⟩|⟨_,_,_,f⟩
  ·exact⟨_,_,ha,m,hb,.inl rfl⟩
  ·rcases hsb b hb with hb|⟨B,rfl⟩
   ·exact⟨_,_,P,m,hb,.inl rfl⟩
   ·exact⟨_,_,hi,B,rfl,.inr ⟨rfl,rfl⟩⟩
  ·exact⟨_,_,f,m,hb,.inl rfl⟩
 have noi:∀id o,look ((a,.cells Ta 1 (R1++[.d (.v v)]::R2))::(s,.sld T (sI (l1++(v,xs)::l2)))::kill i σ) id=some o->id≠i:=λid o f=>by
  rcases look' id o f with ⟨rfl,rfl⟩|⟨rfl,rfl⟩|⟨_,_,N,_⟩
  ·exact hai
  ·exact Ne.symm Y
  ·exact N
 refine⟨h.os,h.tape,h.output,h.old,h.iLt,h.iNew,h.ext,⟨λid o f=>?_,λid o f=>?_,λid o f m b hb=>?_,λid id' o o' f U X m hn' b hb u=>?_⟩,λid o f m b hb=>?_,h.tabs,h.hid.same rfl (λ_ h=>h) (λ_ h=>.inl h) λb ⟨id,o,f,m,hb⟩=>let ⟨g,J,G,z,F,_⟩:=src id o f m b hb;⟨g,J,G,z,F⟩⟩
 ·rcases look' id o f with ⟨rfl,rfl⟩|⟨rfl,rfl⟩|⟨_,_,_,f⟩
  ·refine .inr ⟨hna,cur,R,N,by simpa using h4,h5,λr L=>?_,λq r j c hq M=>?_⟩
   ·rcases em.1 L with L|L
    ·exact h6 r (nw _ L)
    ·rcases ng.1 L with rfl|L
     ·rfl
     ·exact h6 r (nC _ (ny _ L))
   ·by_cases hq0:q=R1.length
    ·subst hq0
     simp at hq;subst hq
     have hj0:j=0:=by have:=(ce.1 M).1;simp at this;omega
     subst hj0;simp at M;subst M;exact⟨v,hv,.d (.v hsl)⟩
    ·refine h7 q r j c ?_ M
     rw [<-hq]
     rcases nG q R1.length with h8|h8
     ·rw [f7 h8,f7 h8]
     ·rw [gc h8,gc h8]
      obtain⟨k,hk⟩:∃k,q - R1.length=k+1:=⟨q - R1.length - 1,by omega⟩
      rw [hk];rfl
  ·refine⟨t.1,?_,λx A=>?_⟩
   ·have hp:=t.2.1
    rw [Ky,oV] at hp;rw [Ky,oV];refine⟨hp.1,nP.2 ⟨λy l b hb u=>H y (by rw [Ky];exact nC _ l) b u hb,hp.2.1⟩,λx A y l=>?_⟩
    rcases ng.1 l with rfl|l
    ·exact λb hb=>H x (by rw [Ky];exact nw _ A) b hb
    ·exact hp.2.2 x A y l
   ·obtain⟨y,l,rfl⟩:=WK A
    rcases em.1 l with l|l
    ·exact t.2.2 _ (d9.2 ⟨y,nw _ l,rfl⟩)
    ·rcases ng.1 l with rfl|l
     ·exact K
     ·exact t.2.2 _ (d9.2 ⟨y,nC _ l,rfl⟩)
  ·exact h.st.obj id o f
 ·rcases look' id o f with ⟨rfl,rfl⟩|⟨rfl,rfl⟩|⟨_,_,_,f⟩
  ·exact h.st.lt _ _ ha
  ·exact h.st.lt _ _ P
  ·exact h.st.lt _ _ f
 ·obtain⟨g,J,G,z,F,_⟩:=src id o f m b hb
  exact h.st.free _ _ G z b F
 ·obtain⟨g,J,G,z,F,g4⟩:=src id o f m b hb
  obtain⟨S,o0',g1',g2',g3',g4'⟩:=src id' o' U hn' b u;refine h.st.inj g S _ _ G g1' ?_ z g2' b F g3';have n1:=noi id o f;have n2:=noi id' o' U;rintro rfl
  rcases g4 with rfl|⟨rfl,rfl⟩<;>rcases g4' with rfl|⟨e1,rfl⟩
  ·exact X rfl
  ·exact n1 e1
  ·exact n2 rfl
  ·exact X rfl
 ·obtain⟨g,J,G,z,F,_⟩:=src id o f m b hb
  exact h.live _ _ G z b F
theorem Aj.put{c:Code}{Q:Exit->Env->Ab->Nat->Prop}{f:Env}{nx:Nat}(a i s:Nat)(R1 R2:List (List C))(xs:List Int)(l1 l2:Iy)(ha:look σ a=some (.cells Ta 1 (R1++[.arr i 1 0 xs.length]::R2)))(hi:look σ i=some (.cells T 1 (Lq xs)))(g:look σ s=some (.sld T (sI (l1++l2))))
 (h:∀v,Aj P TB Z N c Q f ((a,.cells Ta 1 (R1++[.d (.v v)]::R2))::(s,.sld T (sI (l1++(v,xs)::l2)))::kill i σ) nx):Aj P TB Z N c Q f σ nx:=by
 intro V ac b;obtain⟨v,e⟩:=b.inv.put ha hi g;exact h v V ac ⟨b.env,b.lt,b.size,e,b.nx,b.defers⟩
theorem Inv.take{v:Value}(h:Inv TB Z V σ)(ha:look σ a=some (.cells Ta 1 (R1++[.d (.v v)]::R2)))(hs:look σ s=some (.sld T (sI (l1++(v,xs)::l2)))) :
 ∃V',V'.w=V.w/\V'.nx=V.nx+1/\Ext V V'/\Inv TB Z V' ((a,.cells Ta 1 (R1++[.arr V.nx 1 0 xs.length]::R2))::(V.nx,.cells T 1 (Lq xs))::(s,.sld T (sI (l1++l2)))::σ):=by
 have has:a≠s:=λe=>by rw [e,hs] at ha;cases ha
 have p:=h.st.obj s _ hs;have hsn:=h.st.lt _ _ hs;have l:=h.st.lt _ _ ha;have K:((v,xs.map (.int .i64)):Value×List Value)∈sI (l1++(v,xs)::l2):=d9.2 ⟨(v,xs),by simp,rfl⟩
 obtain⟨u,cap,nl,hb0,hcr,hob⟩:∃u cap nl,(¬nl->Kb v u)/\AG (Ax V u cap nl V.w) (.arr V.nx 1 0 xs.length) v/\CE (Ax V u cap nl V.w) V.nx (.cells T 1 (Lq xs)):=by
  rcases p.2.2 _ K with ⟨m,G⟩|⟨b,cap,cur,m,G,z,h4,h5,h6⟩
  ·have m:v=.slice none 0 0:=m
   have hx0:xs=[]:=by simpa using G
   subst m;subst hx0;exact⟨0,0,True,λh=>absurd trivial h,.nil (by simp [Ax]) (by simp [Ax]),.inl ⟨by simp [Ax],rfl⟩⟩
  ·have m:v=.slice (some ⟨b,0,none⟩) (xs.map (Value.int .i64)).length cap:=m
   rw [gt] at m h4;refine⟨b,cap,False,λ_=>⟨_,_,_,m⟩,?_,.inr ⟨by simp [Ax],cur,by simpa [Ax] using G,by simpa [Ax] using z,by simpa [Ax] using h4,by simpa [Ax] using h5,λr A=>?_,λq r j c Y L=>?_⟩⟩
   ·rw [m]
    have:=@AG.arr (Ax V b cap False V.w) V.nx 1 0 xs.length (by simp [Ax]) (by simp [Ax]) (by simpa [Ax] using h4)
    simpa [Ax] using this
   ·obtain⟨n,_,rfl⟩:=d9.1 A;rfl
   ·rw [i9,d7] at Y
    obtain⟨n,t,rfl⟩:=Y
    have R:j=0:=by have:=(ce.1 L).1;simp at this;omega
    subst R;simp at L;subst L;exact⟨.int .i64 n,by simpa using (h6 q (.int .i64 n) (by simp [t])).1,.d (.v rfl)⟩
 have e:Ext V (Ax V u cap nl V.w):=EN (jp _) λ_ _=>rfl
 have hρ:(Ax V u cap nl V.w).ρ V.nx=u:=by simp [Ax]
 have hnl:(Ax V u cap nl V.w).nl V.nx↔nl:=by simp [Ax]
 refine⟨Ax V u cap nl V.w,rfl,rfl,e,?_⟩;have look':∀id o,look ((a,.cells Ta 1 (R1++[.arr V.nx 1 0 xs.length]::R2))::(V.nx,.cells T 1 (Lq xs))::(s,.sld T (sI (l1++l2)))::σ) id=some o->
  (id=a/\o=.cells Ta 1 (R1++[.arr V.nx 1 0 xs.length]::R2))\/(id=V.nx/\o=.cells T 1 (Lq xs))\/(id=s/\o=.sld T (sI (l1++l2)))\/(id≠a/\id≠s/\look σ id=some o):=λid o f=>by
  rw [Az] at f;by_cases m:a=id
  ·rw [if_pos m] at f;injection f with f;exact .inl ⟨m.symm,f.symm⟩
  ·rw [if_neg m,Az] at f
   by_cases G:V.nx=id
   ·rw [if_pos G] at f;injection f with f;exact .inr (.inl ⟨G.symm,f.symm⟩)
   ·rw [if_neg G,Az] at f
    by_cases z:s=id
    ·rw [if_pos z] at f;injection f with f;exact .inr (.inr (.inl ⟨z.symm,f.symm⟩))
    ·rw [if_neg z] at f;exact .inr (.inr (.inr ⟨Ne.symm m,Ne.symm z,f⟩))
 have J:∀x∈sI (l1++l2),x∈sI (l1++(v,xs)::l2):=λx i=>by
  obtain⟨y,P,rfl⟩:=WK i;refine d9.2 ⟨y,?_,rfl⟩
  rcases em.1 P with P|P
  ·exact nw _ P
  ·exact nC _ (ny _ P)
 have hp:=p.2.1;rw [Ky,oV] at hp;have hp2:=nP.1 hp.2.1
 have M:∀x∈sI (l1++l2),∀b,Kb x.1 b->¬Kb v b:=λx i b hb F=>by
  rw [Ky] at i
  rcases em.1 i with i|i
  ·exact hp.2.2 x i _ (pc ..) b hb F
  ·exact hp2.1 x i b F hb
 have src:∀id o,look ((a,.cells Ta 1 (R1++[.arr V.nx 1 0 xs.length]::R2))::(V.nx,.cells T 1 (Lq xs))::(s,.sld T (sI (l1++l2)))::σ) id=some o->¬(Ax V u cap nl V.w).nl id->∀b,EJ (Ax V u cap nl V.w) id o b->
  ∃g N,look σ g=some N/\¬V.nl g/\EJ V g N b/\(g=id\/g=s/\id=V.nx/\Kb v b)/\(id=s->∃x∈sI (l1++l2),Kb x.1 b):=λid o f t b hb=>by
  rcases look' id o f with ⟨rfl,rfl⟩|⟨rfl,rfl⟩|⟨rfl,rfl⟩|⟨_,z,f⟩
  ·exact⟨_,_,ha,λh=>t ((e.nl _ l).2 h),by have:b=_:=hb;rw [e.ρ _ l] at this;exact this,.inl rfl,λe=>absurd e has⟩
  ·have hb:b=_:=hb
   rw [hρ] at hb;subst hb;have hv:=hb0 λh=>t (hnl.2 h);exact⟨_,_,hs,p.1,⟨_,K,hv⟩,.inr ⟨rfl,rfl,hv⟩,λe=>by omega⟩
  ·obtain⟨x,i,hb⟩:=hb
   exact⟨_,_,hs,p.1,⟨x,J x i,hb⟩,.inl rfl,λ_=>⟨x,i,hb⟩⟩
  ·have hlt:=h.st.lt _ _ f
   exact⟨_,_,f,λh=>t ((e.nl _ hlt).2 h),(AB e hlt).1 hb,.inl rfl,λe=>absurd e z⟩
 refine⟨h.os,h.tape,h.output,h.old,h.iLt,h.iNew,h.ext.trans e,⟨λid o f=>?_,λid o f=>?_,λid o f t b hb=>?_,λid id' o o' f ho' hne t hn' b hb F=>?_⟩,λid o f t b hb=>?_,h.tabs,h.hid.same rfl (λ_ h=>h) (λ_ h=>.inl h) λb ⟨id,o,f,t,hb⟩=>let ⟨g,N,X,U,S,_⟩:=src id o f t b hb;⟨g,N,X,U,S⟩⟩
 ·rcases look' id o f with ⟨rfl,rfl⟩|⟨rfl,rfl⟩|⟨rfl,rfl⟩|⟨_,_,f⟩
  ·rcases h.st.obj _ _ ha with ⟨_,h0⟩|⟨hna,cur,G,z,h4,h5,h6,h7⟩
   ·simp at h0
   refine .inr ⟨λh=>hna ((e.nl _ l).1 h),cur,by rw [e.ρ _ l];exact G,by rw [e.cap _ l];exact z,by rw [e.cap _ l];simpa using h4,by rw [e.cap _ l];exact h5,λr A=>?_,λq r j c Y L=>?_⟩
   ·rcases em.1 A with A|A
    ·exact h6 r (nw _ A)
    ·rcases ng.1 A with rfl|A
     ·rfl
     ·exact h6 r (nC _ (ny _ A))
   ·by_cases hq0:q=R1.length
    ·subst hq0
     simp at Y;subst Y
     have R:j=0:=by have:=(ce.1 L).1;simp at this;omega
     subst R;simp at L;subst L;obtain⟨w,hw,hc⟩:=h7 R1.length [.d (.v v)] 0 (.d (.v v)) (by simp) rfl;have hw2:w=v:=AG.val hc;subst hw2;exact⟨w,hw,hcr⟩
    ·obtain⟨w,hw,hc⟩:=h7 q r j c (by
      rw [<-Y]
      rcases nG q R1.length with h8|h8
      ·rw [f7 h8,f7 h8]
      ·rw [gc h8,gc h8]
       obtain⟨k,hk⟩:∃k,q - R1.length=k+1:=⟨q - R1.length - 1,by omega⟩
       rw [hk];rfl) L
     exact⟨w,hw,hc.ext e⟩
  ·exact hob
  ·refine⟨λh=>p.1 ((e.nl _ hsn).1 h),?_,λx i=>p.2.2 x (J x i)⟩
   rw [Ky,oV];exact⟨hp.1,hp2.2,λx i y P=>hp.2.2 x i y (ny _ P)⟩
  ·exact(h.st.obj id o f).AQ e (h.st.lt id o f) λ_ _ _=>rfl
 ·rcases look' id o f with ⟨rfl,rfl⟩|⟨rfl,rfl⟩|⟨rfl,rfl⟩|⟨_,_,f⟩
  ·exact oW l
  ·exact pv _
  ·exact oW hsn
  ·exact oW (h.st.lt _ _ f)
 ·obtain⟨g,N,X,U,S,_⟩:=src id o f t b hb
  exact h.st.free _ _ X U b S
 ·obtain⟨g,N,X,U,S,g4,g5⟩:=src id o f t b hb
  obtain⟨I,o0',g1',g2',g3',H,g5'⟩:=src id' o' ho' hn' b F;by_cases B:g=I
  ·rcases g4 with g4|⟨k1,k2,k3⟩<;>rcases H with H|⟨k1',k2',k3'⟩
   ·exact hne (by rw [<-g4,<-H,B])
   ·obtain⟨x,i,Q⟩:=g5 (by rw [<-g4,B,k1'])
    exact M x i b Q k3'
   ·obtain⟨x,i,Q⟩:=g5' (by rw [<-H,<-B,k1])
    exact M x i b Q k3
   ·exact hne (by rw [k2,k2'])
  ·exact h.st.inj g I _ _ X g1' B U g2' b S g3'
 ·obtain⟨g,N,X,U,S,_⟩:=src id o f t b hb
  exact h.live _ _ X U b S
theorem Aj.take{c:Code}{Q:Exit->Env->Ab->Nat->Prop}{f:Env}{nx:Nat}(a s:Nat)(R1 R2:List (List C))(v:Value)(xs:List Int)(l1 l2:Iy)(ha:look σ a=some (.cells Ta 1 (R1++[.d (.v v)]::R2)))(g:look σ s=some (.sld T (sI (l1++(v,xs)::l2))))
 (h:Aj P TB Z N c Q f ((a,.cells Ta 1 (R1++[.arr nx 1 0 xs.length]::R2))::(nx,.cells T 1 (Lq xs))::(s,.sld T (sI (l1++l2)))::σ) (nx+1)):Aj P TB Z N c Q f σ nx:=by
 intro V ac b;obtain⟨V',j,i,e,hi⟩:=b.inv.take ha g;have:=h V' ac ⟨b.env.ext e,b.lt,b.size,by have:=b.nx;subst this;exact hi,by rw [i,b.nx],b.defers⟩;rw [j] at this;exact this
theorem Aj.dr{c:Code}{Q:Exit->Env->Ab->Nat->Prop}{f:Env}{nx:Nat}(T:TypeId)(h:Aj P TB Z N c Q f ((nx,.sld T (sI []))::σ) (nx+1)):Aj P TB Z N c Q f σ nx:=by
 intro V ac k;have hi:=k.inv;have e:Ext V (Ax V 0 0 False V.w):=EN (jp _) λ_ _=>rfl;have p:=k.nx;subst p
 have look':∀id o,look ((V.nx,.sld T (sI []))::σ) id=some o->(id=V.nx/\o=.sld T (sI []))\/(id≠V.nx/\look σ id=some o):=λid o a=>by
  rw [Az] at a;by_cases d:V.nx=id
  ·rw [if_pos d] at a;injection a with a;exact .inl ⟨d.symm,a.symm⟩
  ·rw [if_neg d] at a;exact .inr ⟨Ne.symm d,a⟩
 have src:∀id o,look ((V.nx,.sld T (sI []))::σ) id=some o->∀b,EJ (Ax V 0 0 False V.w) id o b->look σ id=some o/\EJ V id o b/\((Ax V 0 0 False V.w).nl id↔V.nl id):=λid o a b hb=>by
  rcases look' id o a with ⟨rfl,rfl⟩|⟨_,a⟩
  ·obtain⟨x,m,_⟩:=hb;cases m
  ·have l:=hi.st.lt _ _ a
   exact⟨a,(AB e l).1 hb,e.nl _ l⟩
 refine h (Ax V 0 0 False V.w) ac ⟨k.env.ext e,k.lt,k.size,?_,rfl,k.defers⟩;refine⟨hi.os,hi.tape,hi.output,hi.old,hi.iLt,hi.iNew,hi.ext.trans e,⟨λid o a=>?_,λid o a=>?_,λid o a g b hb=>?_,λid id' o o' a n q g r b hb s=>?_⟩,λid o a g b hb=>?_,hi.tabs,hi.hid.same rfl (λ_ h=>h) (λ_ h=>.inl h) λb ⟨id,o,a,g,hb⟩=>let ⟨d,j,i⟩:=src id o a b hb;⟨id,o,d,λh=>g (i.2 h),j⟩⟩
 ·rcases look' id o a with ⟨rfl,rfl⟩|⟨_,a⟩
  ·exact⟨by simp [Ax],List.Pairwise.nil,λx m=>by cases m⟩
  ·exact(hi.st.obj id o a).AQ e (hi.st.lt id o a) λ_ _ _=>rfl
 ·rcases look' id o a with ⟨rfl,rfl⟩|⟨_,a⟩
  ·exact pv _
  ·exact oW (hi.st.lt _ _ a)
 ·obtain⟨d,j,i⟩:=src id o a b hb
  exact hi.st.free _ _ d (λh=>g (i.2 h)) b j
 ·obtain⟨d,j,i⟩:=src id o a b hb
  obtain⟨v,u,t⟩:=src id' o' n b s;exact hi.st.inj _ _ _ _ d v q (λh=>g (i.2 h)) (λh=>r (t.2 h)) b j u
 ·obtain⟨d,j,i⟩:=src id o a b hb
  exact hi.live _ _ d (λh=>g (i.2 h)) b j
def C.NM:C->Bool
 | .d (.v _)|.d (.l [])|.arr ..|.ptr ..|.mp _|.fn _ []=>true
 | _=>false
def O.NM:O->Prop
 | .cells _ _ rows=>∀r∈rows,∀c∈r,C.NM c=true
 | _=>True
def E.NM:E->Prop
 | .o c=>C.NM c=true
 | .a cs=>∀c∈cs,C.NM c=true
 | .t xs=>∀x∈xs,∀c∈x.2,C.NM c=true
 | .e=>True
def lz(σ:Ab):Prop:=∀x∈σ,O.NM x.2
theorem lz.get{σ:Ab}(h:lz σ){id:Nat}{o:O}(a:look σ id=some o):O.NM o:=by
 induction σ with
 | nil=>cases a
 | cons x r b=>
  obtain⟨k,y⟩:=x;rw [Az] at a;by_cases hk:k=id
  ·rw [if_pos hk] at a;injection a with a;subst a;exact h _ (pc ..)
  ·rw [if_neg hk] at a;exact b (λz c=>h z (ny _ c)) a
structure Ti (V V':View):Prop where
 ρ:V'.ρ=V.ρ
 cap:V'.cap=V.cap
 nl:V'.nl=V.nl
 nx:V'.nx=V.nx
 w:V'.w=V.w
theorem AG.NM{V V':View}(s:Ti V V'){c:C}{v:Value}(h:AG V c v)(i:c.NM=true):AG V' c v:=by
 cases h with
 | @d x v h=>
  cases h with
  | v h=>exact .d (.v h)
  | nil=>exact .d .nil
  | e h=>exact .d (.e h)
  | @l rows b o k cap vs hb a g m r q=>
   cases rows with
   | nil=>exact .d (.e g)
   | cons=>cases i
  | p=>cases i
 | nil a g=>exact .nil (by rw [s.nx];exact a) (by rw [s.nl];exact g)
 | @arr id k off len a g m=>rw [<-s.ρ,<-s.cap];exact .arr (by rw [s.nx];exact a) (by rw [s.nl];exact g) (by rw [s.cap];exact m)
 | ptr a g=>rw [<-s.ρ];exact .ptr (by rw [s.nx];exact a) (by rw [s.nl];exact g)
 | @fn f cap vs a g=>
  cases cap with
  | nil=>exact .fn a λj c v n=>by simp at n
  | cons=>cases i
 | mp a=>rw [<-s.ρ];exact .mp (by rw [s.nx];exact a)
 | mv=>cases i
theorem Bl.NM{V V':View}(s:Ti V V'){e:E}{v:Value}(h:Bl V e v)(i:e.NM):Bl V' e v:=by
 cases e with
 | o c=>exact AG.NM s h i
 | a cs=>obtain⟨vs,n,m,l⟩:=h;exact⟨vs,n,m,λj c v d f=>(l j c v d f).NM s (i c (co d))⟩
 | t xs=>
  obtain⟨vs,n,m,l⟩:=h;refine⟨vs,n,m,λj x v d f=>?_⟩;have q:=l j x v d f;have p:=i x (co d);obtain⟨b,cs⟩:=x;cases b
  ·obtain⟨c,g,k⟩:=q
   have g:cs=[c]:=g;subst g;exact⟨c,rfl,k.NM s (p c (by simp))⟩
  ·obtain⟨ws,g,k,r⟩:=q
   exact⟨ws,g,k,λj c v d f=>(r j c v d f).NM s (p c (co d))⟩
 | e=>exact h
theorem CE.NM{V V':View}(s:Ti V V'){id:Nat}{o:O}(h:CE V id o)(f:o.NM):CE V' id o:=by
 cases o with
 | cells T k rows=>
  rcases h with ⟨b,a⟩|⟨d,cur,a,u,t,q,p,n⟩
  ·exact .inl ⟨by rw [s.nl];exact b,a⟩
  ·refine .inr ⟨by rw [s.nl];exact d,cur,by rw [s.w,s.ρ];exact a,by rw [s.cap];exact u,by rw [s.cap];exact t,by rw [s.cap];exact q,p,λi r j c hi e=>?_⟩
   obtain⟨v,m,g⟩:=n i r j c hi e;exact⟨v,m,g.NM s (f r (co hi) c (co e))⟩
 | mp es=>obtain⟨d,ents,clock,b,a⟩:=h;exact⟨by rw [s.nl];exact d,ents,clock,by rw [s.w,s.ρ];exact b,a⟩
 | sld T l=>exact⟨by rw [s.nl];exact h.1,by rw [s.w];exact h.2⟩
section
variable {o:Oper}{f:Env}{nx:Nat}
theorem aP{V:View}{S:Tj}(h:Inv TB Z V σ)(c:ND TB V σ S):Inv TB (Fg (FR V σ) (FR V σ) [] S) (FR V σ) []:=
 ⟨rfl,rfl,rfl,λ_ _ _=>rfl,λb hb=>by
  rcases hb with hb|⟨id,o,e,d,hb⟩
  ·exact h.iLt b hb
  ·exact(h.st.obj id o e).blt d hb,λ_ h=>.inl h,Ext.refl _,Ev,λid o f=>(by cases f),λx a=>⟨.inl (h.tabs x a).1,(h.tabs x a).2⟩,⟨S,⟨c.r,λb hb=>.inl (c.ji b hb),λb hb hi=>hi.elim (c.bi b hb) λ⟨id,o,e,d,a⟩=>c.ap b ⟨id,o,e,d,a⟩ hb,λb ⟨_,_,h,_⟩=>by cases h⟩,λb hb=>.inl hb,λb hb=>.inr (.inr hb)⟩⟩
theorem Zs{V V':View}{σ':Ab}{S:Tj}(d:Inv TB Z V σ)(M:ND TB V σ S)(G:∀b,S.J b->Z.J b\/Z.V.w.heap.size<=b\/Z.F b)(m:∀b,S.B b->Z.V.w.heap.size<=b\/Z.F b)(l:Ext (FR V σ) V')(hi:Inv TB (Fg (FR V σ) (FR V σ) [] S) V' σ')(A:lz σ') :
 ∃V3,Ti V' V3/\Ext V V3/\Inv TB Z V3 (σ'++σ):=by
 have s:Ti V' { V' with I:=λb=>V.I b\/(V'.I b/\(V.w.heap.size<=b\/S.B b)) } := ⟨rfl,rfl,rfl,rfl,rfl⟩
 have e:Ext V { V' with I:=λb=>V.I b\/(V'.I b/\(V.w.heap.size<=b\/S.B b)) } := ⟨λ_ h=>.inl h,λb hb=>l.heap b (.inl hb),l.size,l.ρ,l.cap,l.nl,l.nx⟩
 have bs:∀ {id:Nat} {o:O} {b:Nat},EJ { V' with I:=λb=>V.I b\/(V'.I b/\(V.w.heap.size<=b\/S.B b)) } id o b↔EJ V' id o b:=λ{id o b} => by cases o<;>exact Iff.rfl
 have k:∀id o,look σ' id=some o->¬V'.nl id->∀b,EJ V' id o b->V.w.heap.size<=b\/S.B b:=λid o a f b hb=>by
  rcases hi.live id o a f b hb with h|h|h
  ·exact .inl h
  ·obtain⟨_,_,h,_⟩:=h;cases h
  ·exact .inr h
 have q:∀id o,look σ id=some o->¬V.nl id->∀b,EJ V id o b->(V.w.heap.size<=b\/S.B b)->False:=λid o a f b hb h=>by
  rcases h with h|h
  ·have:=(d.st.obj _ _ a).blt f hb;omega
  ·exact M.ap b ⟨id,o,a,f,hb⟩ h
 refine⟨_,s,e,⟨hi.os.trans d.os,hi.tape.trans d.tape,hi.output.trans d.output,λb hb L=>(hi.old b (lw hb d.ext.size) (λh=>h.elim (λ⟨_,_,h,_⟩=>by cases h) λh=>(m b h).elim (λh=>by omega) L)).trans (d.old b hb L),λb hb=>?_,λb hb=>?_,d.ext.trans e,⟨λid o a=>?_,λid o a=>?_,λid o a f b hb hI=>?_,λid id' o o' j g y f n b hb p=>?_⟩,λid o a f b hb=>?_,λx K=>⟨.inl (d.tabs x K).1,(hi.tabs x K).2⟩,?_⟩⟩
 ·rcases hb with hb|hb
  ·exact hi.iLt b (l.i b (.inl hb))
  ·exact hi.iLt b hb.1
 ·rcases hb with hb|hb
  ·exact d.iNew b hb
  ·rcases hb.2 with h|h
   ·exact .inr (.inl (li d.ext.size h))
   ·exact .inr (m b h)
 ·rcases Cz a with a|a
  ·exact(hi.st.obj id o a).NM s (A.get a)
  ·exact(d.st.obj id o a).AQ e (d.st.lt id o a) λf b hb=>l.heap b (.inr ⟨id,o,a,f,hb⟩)
 ·rcases Cz a with a|a
  ·exact hi.st.lt id o a
  ·exact lw (d.st.lt id o a) l.nx
 ·rcases Cz a with a|a
  ·have u:=hi.st.free id o a f b (bs.1 hb)
   rcases hI with hI|hI
   ·exact u (l.i b (.inl hI))
   ·exact u hI.1
  ·have c:=d.st.lt id o a
   have hb:=(AB e c).1 hb;have f:¬V.nl id:=λh=>f ((e.nl id c).2 h)
   rcases hI with hI|hI
   ·exact d.st.free id o a f b hb hI
   ·exact q id o a f b hb hI.2
 ·rcases Cz j with j|j<;>rcases Cz g with g|g
  ·exact hi.st.inj _ _ _ _ j g y f n b (bs.1 hb) (bs.1 p)
  ·have u:=k id o j f b (bs.1 hb)
   have c:=d.st.lt _ _ g;exact q _ _ g (λh=>n ((e.nl _ c).2 h)) b ((AB e c).1 p) u
  ·have u:=k id' o' g n b (bs.1 p)
   have c:=d.st.lt _ _ j;exact q _ _ j (λh=>f ((e.nl _ c).2 h)) b ((AB e c).1 hb) u
  ·have c:=d.st.lt _ _ j
   have t:=d.st.lt _ _ g;exact d.st.inj _ _ _ _ j g y (λh=>f ((e.nl _ c).2 h)) (λh=>n ((e.nl _ t).2 h)) b ((AB e c).1 hb) ((AB e t).1 p)
 ·rcases Cz a with a|a
  ·rcases k id o a f b (bs.1 hb) with h|h
   ·exact .inl (li d.ext.size h)
   ·exact m b h
  ·have c:=d.st.lt _ _ a
   exact d.live id o a (λh=>f ((e.nl _ c).2 h)) b ((AB e c).1 hb)
 ·obtain⟨S1,v,H,P⟩:=hi.hid
  have N:∀b,S1.B b->V.w.heap.size<=b\/S.B b:=λb hb=>by
   rcases P b hb with h|h|h
   ·exact .inl h
   ·obtain⟨_,_,h,_⟩:=h;cases h
   ·exact .inr h
  refine⟨S1,⟨v.r,λb hb=>?_,λb hb hI=>v.bi b hb (hI.elim (λh=>l.i b (.inl h)) λh=>h.1),λb ⟨id,o,a,f,hb⟩ z=>?_⟩,λb hb=>?_,λb hb=>?_⟩
  ·rcases H b hb with h|h|h|h
   ·exact .inl (M.ji b h)
   ·exact .inr ⟨v.ji b hb,.inl h⟩
   ·obtain⟨_,_,h,_⟩:=h;cases h
   ·exact .inr ⟨v.ji b hb,.inr h⟩
  ·rcases Cz a with a|a
   ·exact v.ap b ⟨id,o,a,f,bs.1 hb⟩ z
   ·have c:=d.st.lt _ _ a
    exact q _ _ a (λh=>f ((e.nl _ c).2 h)) b ((AB e c).1 hb) (N b z)
  ·rcases H b hb with h|h|h|h
   ·exact G b h
   ·exact .inr (.inl (li d.ext.size h))
   ·obtain⟨_,_,h,_⟩:=h;cases h
   ·exact .inr (m b h)
  ·rcases N b hb with h|h
   ·exact .inl (li d.ext.size h)
   ·exact m b h
theorem eU{V:View}{a:Act}{L:List (Nat×E)}(h:Inv TB Z V σ)(c:Vp σ f L)(i:IN V o f a):IN (FR V σ) o (look L) a:=λt e ht b=>by
 obtain⟨y,g,d⟩:=c.get t e b;exact d.rel h (i t y ht g)
theorem AX.Qd{x:E}(L:List (Nat×E))(n:Vp σ f L)(h:∀Z',AX P TB Z' o (look L) [] nx x)(c:x.NM):AX P TB Z o f σ nx x:=by
 intro V a q b p;obtain⟨S,k,i,j⟩:=b.hid;refine Oper.wp_mono ?_ (h (Fg (FR V σ) (FR V σ) [] S) (FR V σ) a (eU b n q) (aP b k) p);rintro a' w' ⟨V',v,rfl,rfl,m,hi,l,d⟩;obtain⟨V3,s,e,g⟩:=Zs b k i j m hi (λx d=>by cases d);exact⟨V3,v,s.w,rfl,e,g,by rw [s.nx];exact l,d.NM s c⟩
end
def GN(σ:Ab):List Nat->Ab
 | []=>[]
 | i::r=>match look σ i with
  | some o=>(i,o)::GN σ r
  | none=>GN σ r
theorem Es{σ:Ab}:∀ {ids:List Nat} {id:Nat} {o:O},look (GN σ ids) id=some o->id∈ids/\look σ id=some o
 | [],_,_,h=>by cases h
 | i :: r,id,o,h=>by
  unfold GN at h;split at h
  ·rename_i o' a
   rw [Az] at h;by_cases hi:i=id
   ·rw [if_pos hi] at h;injection h with h;subst h;subst hi;exact⟨pc ..,a⟩
   ·rw [if_neg hi] at h
    have:=Es h;exact⟨ny _ this.1,this.2⟩
  ·have:=Es h
   exact⟨ny _ this.1,this.2⟩
def ax(σi:Ab)(f:Env):List (Nat×E)->Prop
 | []=>True
 | (t,e')::L=>(∃e,f t=some e/\(e=e'\/EZ σi e e'))/\ax σi f L
theorem ax.get{σi:Ab}{f:Env}:∀ {L:List (Nat×E)},ax σi f L->∀t e',look L t=some e'->∃e,f t=some e/\(e=e'\/EZ σi e e')
 | [],_,t,e,h=>by cases h
 | (k,x)::L,a,t,e,h=>by
  rw [Az] at h;by_cases hk:k=t
  ·rw [if_pos hk] at h;injection h with h;subst h;subst hk;exact a.1
  ·rw [if_neg hk] at h;exact ax.get a.2 t e h
theorem Aj.AE{c:Code}{Q:Exit->Env->Ab->Nat->Prop}{f:Env}{nx:Nat}(ids:List Nat)(L:List (Nat×E))(w:ax (GN σ ids) f L)(h:Aj P TB Z N c Q (look L) (BU ids σ) nx):Aj P TB Z N c Q f σ nx:=by
 intro V a l;have hi:=l.inv;have i:∀id o,look (GN σ ids) id=some o->look σ id=some o:=λid o h=>(Es h).2;have u:Inv TB Z V (GN σ ids):=hi.sub i;have e:Ext V (FR V (GN σ ids)):=KN;refine h (FR V (GN σ ids)) a ⟨λt x p=>?_,λt x p=>?_,l.size,?_,l.nx,l.defers⟩
 ·obtain⟨y,q,g⟩:=w.get t x p
  rcases g with rfl|g
  ·exact(l.env t _ q).ext e
  ·exact g.rel u (l.env t y q)
 ·obtain⟨y,q,_⟩:=w.get t x p
  exact l.lt t y q
 ·refine⟨hi.os,hi.tape,hi.output,hi.old,?_,?_,hi.ext.trans e,⟨?_,?_,?_,?_⟩,?_,λx p=>⟨.inl (hi.tabs x p).1,(hi.tabs x p).2⟩,hi.hid.same rfl (λ_ h=>.inl h) (λb hb=>hb.elim .inl λ⟨id,o,d,j,v⟩=>.inr ⟨id,o,i _ _ d,j,v⟩) λb ⟨id,o,d,j,hb⟩=>have g:=(A4 ids σ id o d).2;⟨id,o,g,j,(AB e (hi.st.lt id o g)).1 hb⟩⟩
  ·rintro b (hb|⟨id,o,d,j,hb⟩)
   ·exact hi.iLt b hb
   ·exact(hi.st.obj id o (i _ _ d)).blt j hb
  ·rintro b (hb|⟨id,o,d,j,hb⟩)
   ·exact hi.iNew b hb
   ·exact .inr (hi.live id o (i _ _ d) j b hb)
  ·intro id o d
   have:=(A4 ids σ id o d).2;exact(hi.st.obj id o this).AQ e (hi.st.lt id o this) λ_ _ _=>rfl
  ·intro id o d;exact hi.st.lt id o (A4 ids σ id o d).2
  ·intro id o d j b k hb
   obtain⟨q,g⟩:=A4 ids σ id o d;have k:=(AB e (hi.st.lt id o g)).1 k
   rcases hb with hb|⟨id',o',n,m,v⟩
   ·exact hi.st.free id o g j b k hb
   ·have z:=Es n
    exact hi.st.inj id id' o o' g z.2 (λe=>q (e ▸ z.1)) j m b k v
  ·intro id id' o o' d n s j m b hb k
   have g:=(A4 ids σ id o d).2;have r:=(A4 ids σ id' o' n).2;exact hi.st.inj id id' o o' g r s j m b ((AB e (hi.st.lt id o g)).1 hb) ((AB e (hi.st.lt id' o' r)).1 k)
  ·intro id o d j b hb
   have g:=(A4 ids σ id o d).2;exact hi.live id o g j b ((AB e (hi.st.lt id o g)).1 hb)
theorem FZ.MB{a s:Nat}{T Ta:TypeId}{l:Iy}(ha:look σ a=some (.cells Ta 1 (AA l)))(e:look σ s=some (.sld T (sI l))):FZ σ (.arr a 1 0 l.length) (CW (l.map (·.2))):=by
 refine .rows ha (by simp) (CI l) λi r' hi=>?_;simp only [i9,d7] at hi;obtain⟨x,⟨y,b,rfl⟩,rfl⟩:=hi;refine⟨[.d (.v y.1)],by simp [AA,b],.cons ?_ .nil⟩;have c:FZ σ (.d (.v y.1)) (.l ((y.2.map (Value.int .i64)).map λx=>[D.v x])):=.sld e (d9.2 ⟨y,co b,rfl⟩);rw [n7] at c;exact c
theorem Aj.Sx{c:Code}{Q:Exit->Env->Ab->Nat->Prop}{f:Env}{nx:Nat}(a i s:Nat)(l:Iy)(xs:List Int)(ha:look σ a=some (.cells Ta 1 (AA l++[[.arr i 1 0 xs.length]])))(hi:look σ i=some (.cells T 1 (Lq xs)))(b:look σ s=some (.sld T (sI l)))
 (h:∀v,Aj P TB Z N c Q f ((a,.cells Ta 1 (AA (l++[(v,xs)])))::(s,.sld T (sI (l++[(v,xs)])))::kill i σ) nx):Aj P TB Z N c Q f σ nx:=
 Aj.put a i s (AA l) [] xs l [] ha hi (by rw [nO];exact b) λv=>by
  have:=h v;rw [AW] at this;exact this
theorem O4{l:Iy}{k:Nat}{y:Value×List Int}(h:l[k]? = some y):l=l.take k++y::l.drop (k+1)/\(l.take k).length=k:=by
 obtain⟨hk,rfl⟩:=ce.1 h;refine⟨?_,by rw [oO];omega⟩;rw [<-pi hk,nZ]
theorem SL{α:Type}{l1 l2:List α}{x y:α}{k:Nat}(h:l1.length=k):(l1++x::l2).set k y=l1++y::l2:=by
 subst h;simp
theorem Aj.je{c:Code}{Q:Exit->Env->Ab->Nat->Prop}{f:Env}{nx:Nat}(a s:Nat)(l:Iy)(k:Nat)(y:Value×List Int)(hk:l[k]? = some y)(ha:look σ a=some (.cells Ta 1 (AA l)))(g:look σ s=some (.sld T (sI l)))
 (h:Aj P TB Z N c Q f ((a,.cells Ta 1 ((AA l).set k [.arr nx 1 0 y.2.length]))::(nx,.cells T 1 (Lq y.2))::(s,.sld T (sI (l.eraseIdx k)))::σ) (nx+1)):Aj P TB Z N c Q f σ nx:=by
 obtain⟨b,i⟩:=O4 hk;obtain⟨v,xs⟩:=y
 have e:AA l=AA (l.take k)++[.d (.v v)]::AA (l.drop (k+1)):=by
  have:=congrArg AA b;rw [AW] at this;exact this
 refine Aj.take a s (AA (l.take k)) (AA (l.drop (k+1))) v xs (l.take k) (l.drop (k+1)) (by rw [<-e];exact ha) (by rw [<-b];exact g) ?_
 have m:(AA l).set k [.arr nx 1 0 xs.length]=AA (l.take k)++[.arr nx 1 0 xs.length]::AA (l.drop (k+1)):=by
  rw [e,SL (by rw [CI,i])]
 have j:l.eraseIdx k=l.take k++l.drop (k+1):=qp ..;rw [m,j] at h;exact h
theorem Aj.putAt{c:Code}{Q:Exit->Env->Ab->Nat->Prop}{f:Env}{nx:Nat}(a i s:Nat)(l:Iy)(k:Nat)(y:Value×List Int)(hk:l[k]? = some y)(xs:List Int)(ha:look σ a=some (.cells Ta 1 ((AA l).set k [.arr i 1 0 xs.length])))(hi:look σ i=some (.cells T 1 (Lq xs)))(b:look σ s=some (.sld T (sI (l.eraseIdx k))))
 (h:∀v,Aj P TB Z N c Q f ((a,.cells Ta 1 (AA (l.set k (v,xs))))::(s,.sld T (sI (l.set k (v,xs))))::kill i σ) nx):Aj P TB Z N c Q f σ nx:=by
 obtain⟨g,e⟩:=O4 hk
 have n:AA l=AA (l.take k)++[.d (.v y.1)]::AA (l.drop (k+1)):=by
  have:=congrArg AA g;rw [AW] at this;exact this
 rw [n,SL (by rw [CI,e])] at ha;rw [show l.eraseIdx k=l.take k++l.drop (k+1) from qp ..] at b;refine Aj.put a i s (AA (l.take k)) (AA (l.drop (k+1))) xs (l.take k) (l.drop (k+1)) ha hi b λv=>?_
 have j:l.set k (v,xs)=l.take k++(v,xs)::l.drop (k+1):=by
  have this:l.set k (v,xs)=(l.take k++y::l.drop (k+1)).set k (v,xs):=congrArg (λm=>List.set m k (v,xs)) g;rw [this,SL e]
 have:=h v;rw [j,AW] at this;exact this
theorem AR.Be{g:FuncId}{m nx:Nat}{args:List E}{post:E->Ab->Nat->Prop}
 (h:AR P TB g m σ nx args (λx d c=>∃(l:List Nat) (x':E) (a:Ab),((∀i,i < m->l[i]? = some i)/\l.Nodup)/\x=x'.Be (nm l c)/\A8 (nm l c) d a/\post x' a l.length)):AR P TB g m σ nx args post:=
 ⟨h.1, λV vs S n ha=>(h.2 V vs S n ha).mono λe w' ⟨V',v,x,σ',w,u,s,r,l,x',a,j,q,p,o⟩=>by
  have k:Cq TB (Fg V (Ko V m) σ S) 1 V' (look [(0,x)]) σ' V'.nx { tmps:=#[v],defers:=[] } := by
   refine⟨λt y b=>?_,λt y b=>?_,rfl,s,rfl,rfl⟩
   ·rw [Az] at b
    by_cases ht:0=t
    ·rw [if_pos ht] at b;injection b with b;subst b;subst ht;exact r
    ·rw [if_neg ht] at b;cases b
   ·rw [Az] at b
    by_cases ht:0=t
    ·subst ht;exact qU
    ·rw [if_neg ht] at b;cases b
  obtain⟨V'',z,f⟩:=k.Be l [(0,x')] a j.1 j.2 ⟨by rw [<-q];rfl,trivial⟩ p;refine⟨V'',v,x',a,w,z.trans u,f.inv,f.env 0 x' rfl,?_⟩
  rw [f.nx];exact o⟩
theorem E9{m:Nat}{σ σ':Ab}(i:Nat)(a:m=2 ^ i)(h:look σ' i=look σ i):Kept m σ σ':=λid hb=>by
 subst a;rw [oM] at hb;have:i=id:=of_decide_eq_true hb;subst this;exact h
theorem JX{m:Nat}{σ σ':Ab}(i j:Nat)(a:m=2 ^ i ||| 2 ^ j)(h:look σ' i=look σ i)(b:look σ' j=look σ j):Kept m σ σ':=λid hb=>by
 subst a;rw [oK,nq,oM,oM,decide_eq_true_eq,decide_eq_true_eq] at hb
 rcases hb with hb|hb
 ·subst hb;exact h
 ·subst hb;exact b
theorem Ls{l1 l2:Iy}{c:C}{k:Nat}(h:l1.length=k):(AA l1++[c]::AA l2)[k]? = some [c]:=by
 subst h;rw [gc (by rw [CI];exact jp _),CI];simp
theorem eR [j:C7 P] {g:FuncId} {fn:Func} {c:Code} {nx:Nat} {args:List E} {post:E->Ab->Nat->Prop} (f:P.funcs[g]? = some fn) (hb:fn.body=some c) (a:(fn.name == "runtime.NumGoroutine")=false)
 (ha:Nat.ble args.length fn.ntmps=true) (h:∀Z:Ctx,Z.V.nx=nx->Aj P TB Z fn.ntmps c (aA j.T fn.results (λx e d=>∃(l:List Nat) (x':E) (b:Ab),((∀i,i < nx->l[i]? = some i)/\l.Nodup)/\x=x'.Be (nm l d)/\A8 (nm l d) e b/\post x' b l.length)) (look (Ck 0 args)) σ nx):Spec P TB g σ nx args post:=
 AR.Ho (AR.Be (AR.QY (jp _) f hb a (am ha) h))
end
theorem cN:(∀(r:Nat->Nat) (l:Iy),(AA l).map (C.Cv r)=AA l)/\(∀(α:Type) (b:Bool) (x y:α),(bif b then x else y)=if b=true then x else y)/\∀a b:Nat,(Nat.beq a b=true)=(a=b):=
 ⟨Uu,λ_ b _ _=>by cases b<;>rfl,λ_ _=>Nat.beq_eq⟩
end Go.Am
namespace Go.Am
open Go
set_option linter.unusedVariables false
variable {TB:Bz}
section
variable {P:Program}{Z:Ctx}{d:Option Tmp}{ty:TypeId}{pos:String}{af:Array Edge}{g:Option (Nat×Bool)}{f:Env}{σ:Ab}{nx:Nat}
theorem Pa{t:TypeId}{z:List Value}{fl:List (Nat×Nat)}{parts:Array (Nat×Operand)}{es:List E}{qs:List (Nat×List C)}[X:BM P t z][hf:Ez P t fl](R:JP f (parts.toList.map (·.2))=some es)(Y:FJ fl parts.toList es=some qs)
 (M:z.all Pr=true) (N:(qs.all λx=>Nat.ble (x.1+x.2.length) z.length)=true):AX P TB Z ⟨d,.build t parts,ty,pos,af,g⟩ f σ nx (.a (BN qs (z.map λv=>C.d (.v v)))):=
 AO λV ρ h1 _=>by
  obtain⟨i,zv,hi,A,s⟩:=Hp X.out;have Q:=Dk (V:=V) (ρ:=ρ) parts.toList es qs (λx J e he=>h1.get (by simp only [Op.operands];simpa using J) he) R Y
  have I:C8 V (z.map λv=>C.d (.v v)) zv.cells:=by
   refine⟨by rw [gt,<-s];simp,λj c v T S=>?_⟩;simp only [i9,d7] at T;obtain⟨u,k,rfl⟩:=T
   have:u=v:=by
    rw [<-s] at k;simp only [n8] at k;rw [k] at S;exact Option.some.inj S
   subst this;exact .d (.v (f9.1 M u (co k)))
  obtain⟨cells,G,h4⟩:=GD _ _ _ _ Q I (λx J=>by rw [gt];exact IW _ _ N x J);have r:=hf.out
  have b:(parts.map λ(i,x)=>(i,ρ x)).toList=parts.toList.map λ(i,x)=>(i,ρ x):=by simp
  refine⟨.agg cells,?_,cells,rfl,h4⟩
  have hb : (Instr.build t (parts.map λ(i,x)=>(i,ρ x))).run P V.w=.ok (.agg cells) V.w:=by
   unfold jR at r;split at r
   ·rename_i fs k
    have L:∀(l:List Field) (ll:List (Nat×Nat)),(l.mapM λf=>(P.info? f.type).map λi=>(f.offset,i.size))=some ll->∀w,((l.mapM λf=>do pure (f.offset,<-sizeOf f.type)):Sem (List (Nat×Nat))).run P w=.ok ll w:=by
     intro l
     induction l with
     | nil=>intro ll h w;simp at h;subst h;simp [go_sem]
     | cons y l H=>
      intro ll h w;simp only [po,qy,nh,d7] at h;obtain⟨p,⟨ii,o,rfl⟩,ll',h5,U⟩:=h;simp at U;subst U
      have K:(sizeOf y.type).run P w=.ok ii.size w:=by simp [sizeOf,typeInfo,o,go_sem]
      have ihh:=H ll' h5 w;simp only [bind_pure_comp] at ihh;simp only [po,nc,K,kw,bind_pure_comp,pI,ihh]
    have B:=L fs.toList fl r V.w
    have m:(zeroValue t).run P V.w=.ok zv V.w:=by simp [zeroValue,typeInfo,hi,A,go_sem]
    have ha:((fs.mapM λf=>do pure (f.offset,<-sizeOf f.type)):Sem (Array (Nat×Nat))).run P V.w=.ok fl.toArray V.w:=by
     rw [pZ,pI,B];rfl
    rw [<-b] at G;simp only [Instr.build,nc,m,kw,run_underlying k,ha];simp only [od];rw [G];rfl
   ·rename_i n e k
    simp only [d7] at r;obtain⟨ii,o,rfl⟩:=r
    have m:(zeroValue t).run P V.w=.ok zv V.w:=by simp [zeroValue,typeInfo,hi,A,go_sem]
    have K:(sizeOf e).run P V.w=.ok ii.size V.w:=by simp [sizeOf,typeInfo,o,go_sem]
    have q:∀(ps:List (Nat×Value)) (c c':Array Value),Instr.fill (λi=>((List.range n).map λj=>(j*ii.size,ii.size))[i]?) c ps=some c'->Instr.fill (λi=>some (i*ii.size,ii.size)) c ps=some c':=by
     intro ps
     induction ps with
     | nil=>intro c c' h;simpa [Instr.fill] using h
     | cons p ps H=>
      intro c c' h;obtain⟨i',v'⟩:=p;unfold Instr.fill at h |-;by_cases F:i' < n
      ·simp only [i9,pC F,pf] at h
       simp only at h |-;split at h
       ·cases h
       ·rename_i hno
        rw [if_neg hno];exact H _ _ (by simpa only [i9] using h)
      ·simp [F] at h
    rw [<-b] at G;simp only [Instr.build,nc,m,kw,run_underlying k,K];rw [q _ _ _ G];rfl
   ·cases r
  show ((do let v <-Instr.build t (parts.map λ(i,x)=>(i,ρ x));pure (Go.Next.value v):Sem Go.Next)).run P V.w=_
  simp only [nc,hb,kw];rfl
end
theorem XQ{P:Program}{Z:Ctx}{o:Oper}{L:List (Nat×E)}{σ:Ab}{nx:Nat}{K:E->Ab->Nat->Prop}{b:Option Addr}(t:Tmp)(j:look L t=some (.o (.d (.v (.slice b 0 0)))))(h:Cb P TB Z o (look ((t,.e)::L)) σ nx K):Cb P TB Z o (look L) σ nx K:=by
 intro V a i l k;refine h V a ?_ l k;intro t' e' f c;rw [Az] at c;by_cases g:t=t'
 ·subst g
  rw [if_pos rfl] at c
  injection c with c
  subst c;exact⟨b,AG.val (i t _ f j)⟩
 ·rw [if_neg g] at c
  exact i t' e' f c
theorem cy{P:Program}{Z:Ctx}{ops:Array Oper}{fl:Fl}{i n:Nat}{L:List (Nat×E)}{σ:Ab}{nx:Nat}{K:Env->Ab->Nat->Prop}{op:Op}{ty:TypeId}{pos:String}{af:Array Edge}{g:Option (Nat×Bool)}
 (h:Cb P TB Z ⟨none,op,ty,pos,af,g⟩ (look L) σ nx (λ_ σ' nx'=>Kept (fl i - 1000) σ σ'/\Lex P TB Z ops (Av fl (i+1) n) K (look L) σ' nx')) (b:BB ops ⟨none,op,ty,pos,af,g⟩ (look L)=some true) (c:Nat.ble 10 (fl i)=true/\Nat.ble 1000 (fl i)=true):Bh P TB Z ops ⟨none,op,ty,pos,af,g⟩ fl i n K L σ nx:=
 λa=>XZ a b c h
end Go.Am
namespace Go.Am
open Go Go.Proofs
instance:gb Tryz.prog 64:=⟨by kernel_rfl⟩
end Go.Am
namespace Go.Am
open Go
set_option linter.unusedVariables false
set_option linter.unusedSimpArgs false
inductive FL (σ:Ab) (ids:List Nat):List C->List C->Prop
 | nil:FL σ ids [] []
 | cons {c c':C} {cs cs':List C}:FC σ ids c c'->FL σ ids cs cs'->FL σ ids (c::cs) (c'::cs')
theorem FL.len{σ:Ab}{ids:List Nat}{l l':List C}(h:FL σ ids l l'):l'.length=l.length:=by
 induction h with
 | nil=>rfl
 | cons _ _ a=>simp [a]
theorem FL.get{σ:Ab}{ids:List Nat}{l l':List C}(h:FL σ ids l l'):∀(j:Nat) c',l'[j]? = some c'->∃c,l[j]? = some c/\FC σ ids c c':=by
 induction h with
 | nil=>intro j c' h;simp at h
 | @cons f e cs cs' d _ b=>
  intro j c' a
  cases j with
  | zero=>simp at a;subst a;exact⟨f,rfl,d⟩
  | succ j=>exact b j c' (by simpa using a)
def Qs(σ:Ab)(ids:List Nat):Ab->Prop
 | []=>True
 | (id,.cells T k [r'])::S=>(∃r,look σ id=some (.cells T k [r])/\id∉ids/\FL σ ids r r')/\Qs σ ids S
 | _=>False
theorem Qs.get{σ:Ab}{ids:List Nat}:∀ {S:Ab},Qs σ ids S->∀id o',look S id=some o'->∃T k r r',o'=.cells T k [r']/\look σ id=some (.cells T k [r])/\id∉ids/\FL σ ids r r'
 | [],_,id,o',h=>by cases h
 | (i, o)::S,a,id,o',h=>by
  match o,a with
  | .cells T k [r'],a=>
   rw [Az] at h;by_cases hi:i=id
   ·rw [if_pos hi] at h
    injection h with h
    subst h;subst hi;obtain⟨r,d,c,b⟩:=a.1;exact⟨T,k,r,r',rfl,d,c,b⟩
   ·rw [if_neg hi] at h
    exact Qs.get a.2 id o' h
section
variable {P:Program}{TB:Bz}{Z:Ctx}{N:Nat}{σ:Ab}
theorem Cq.NZ{V:View}{f:Env}{nx:Nat}{a:Act}(h:Cq TB Z N V f σ nx a)(ids:List Nat)(L:List (Nat×E))(S:Ab)(J:El σ ids f L)(u:Qs σ ids S):Cq TB Z N (Kg V σ ids) (look L) S nx a:=by
 have e:Ext V (Kg V σ ids):=N0;have hi:=h.inv;refine⟨λt x m=>?_,λt x m=>?_,h.size,?_,h.nx,h.defers⟩
 ·obtain⟨y,g,w⟩:=J.get t x m
  exact w.rel h.inv (h.env t y g)
 ·obtain⟨y,g,_⟩:=J.get t x m
  exact h.lt t y g
 ·refine⟨hi.os,hi.tape,hi.output,hi.old,?_,?_,hi.ext.trans e,⟨?_,?_,?_,?_⟩,?_,λx m=>⟨.inl (hi.tabs x m).1,(hi.tabs x m).2⟩,hi.hid.same rfl (λ_ h=>.inl h) (λb hb=>hb.elim .inl λ⟨id,o,_,d,l,B⟩=>.inr ⟨id,o,d,l,B⟩) λb ⟨id,o,d,l,hb⟩=>?_⟩
  ·rintro b (hb|⟨id,o,_,d,l,hb⟩)
   ·exact hi.iLt b hb
   ·exact(hi.st.obj id o d).blt l hb
  ·rintro b (hb|⟨id,o,_,d,l,hb⟩)
   ·exact hi.iNew b hb
   ·exact .inr (hi.live id o d l b hb)
  ·intro id o d
   obtain⟨T,k,r,r',rfl,g,w,M⟩:=u.get id o d
   rcases hi.st.obj id _ g with ⟨K,F⟩|⟨h0,cur,K,F,h6,h7,h8,Y⟩
   ·cases F
   ·refine .inr ⟨h0,cur,K,F,h6,h7,λx m=>?_,λi x j c' s R=>?_⟩
    ·simp at m;subst m;rw [M.len];exact h8 r (by simp)
    ·have A:i=0:=by have:=(ce.1 s).1;simp at this;omega
     subst A;simp at s;subst s;obtain⟨c,X,U⟩:=M.get j c' R;obtain⟨v,I,H⟩:=Y 0 r j c rfl X;exact⟨v,I,U.rel hi H⟩
  ·intro id o d
   obtain⟨T,k,r,r',_,g,_,_⟩:=u.get id o d;exact hi.st.lt id _ g
  ·intro id o d l b n hb
   obtain⟨T,k,r,r',rfl,g,w,_⟩:=u.get id o d
   rcases hb with hb|⟨id',o',Q,q,p,B⟩
   ·exact hi.st.free id _ g l b n hb
   ·exact hi.st.inj id id' _ o' g q (λe=>w (e ▸ Q)) l p b n B
  ·intro id id' o o' d q z l p b hb n
   obtain⟨T,k,r,r',rfl,g,_,_⟩:=u.get id o d;obtain⟨T2,k2,r2,P,rfl,G,_,_⟩:=u.get id' o' q;exact hi.st.inj id id' _ _ g G z l p b hb n
  ·intro id o d l b hb
   obtain⟨T,k,r,r',rfl,g,_,_⟩:=u.get id o d;exact hi.live id _ g l b hb
  ·obtain⟨T,k,r,r',rfl,g,_,_⟩:=u.get id o d
   exact⟨id,_,g,l,hb⟩
theorem Aj.NZ{c:Code}{Q:Exit->Env->Ab->Nat->Prop}{f:Env}{nx:Nat}(ids:List Nat)(L:List (Nat×E))(S:Ab)(e:El σ ids f L)(d:Qs σ ids S)(h:Aj P TB Z N c Q (look L) S nx):Aj P TB Z N c Q f σ nx:=
 λV a b=>h (Kg V σ ids) a (b.NZ ids L S e d)
theorem X7{d:Option Tmp}{ty:TypeId}{pos:String}{af:Array Edge}{g:Option (Nat×Bool)}{f:Env}{nx:Nat}{t k e:TypeId}{x y:Operand}{id:Nat}{l:List (List UInt8×Int)}{s:List UInt8}[B:KH P t k e][hk:DQ P k][K:Qq P e (.int .i64 0)](M:ev f x=some (.o (.mp id)))(L:ev f y=some (eT s))(N:look σ id=some (.mp (IH l))) :
 AX P TB Z ⟨d,.lookup t x y false,ty,pos,af,g⟩ f σ nx (eI .i64 ((CQ l s).getD 0)):=
 AO λV ρ A hi=>by
  have J:=A.get (by simp [Op.operands]) M;have I:ρ y=.string ⟨s.toArray⟩:=AG.val (A.get (by simp [Op.operands]) L);generalize z:ρ x=v at J
  cases J with
  | mp Q=>
   obtain⟨X,ents,clock,H,S⟩:=hi.st.obj id _ N;obtain⟨r,R,h⟩:=KY s l ents.toList 0 S;have a:=K.out;simp only [nh] at a;obtain⟨i,p,m⟩:=a
   have j:(zeroValue e).run P V.w=.ok (.int .i64 0) V.w:=by simp [zeroValue,typeInfo,p,m,go_sem]
   have b:(Instr.findKey k (.string ⟨s.toArray⟩) ents.toList).run P V.w=.ok r V.w:=by simp [Instr.findKey,run_underlying hk.out,R,go_sem]
   have c:=Kc hk.out ents.isEmpty ⟨s.toArray⟩ V.w;refine⟨.int .i64 ((CQ l s).getD 0),?_,.d (.v rfl)⟩
   cases r with
   | none=>
    have u:CQ l s=none:=by simpa using h.symm
    simp [execOp,z,I,Instr.lookup,run_underlying B.out,MapKept.run_getObj_map H,c,b,j,u,go_sem]
   | some q=>
    obtain⟨n,u,G⟩:∃n,CQ l s=some n/\q.2=.int .i64 n:=by
     cases F:CQ l s with
     | none=>rw [F] at h;simp at h
     | some n=>rw [F] at h;exact⟨n,rfl,by simpa using h⟩
    obtain⟨U,T⟩:=q;simp only at G;subst G;simp [execOp,z,I,Instr.lookup,run_underlying B.out,MapKept.run_getObj_map H,c,b,u,go_sem]
end
end Go.Am
namespace Go.Am
set_option linter.unusedVariables false
abbrev W:=List UInt8
structure A0 where
 rows:List W
 cols:List W
def QR(b:Bool):UInt8:=if b then 43 else 45
theorem XN{a b:Bool}(h:QR a=QR b):a=b:=by cases a<;>cases b<;>first|rfl|(simp [QR] at h)
def marks(L:W->Bool)(cols:List W)(w:W):W:=cols.map λc=>QR (L (w++c))
theorem bP{L:W->Bool}{cols:List W}{u w:W}:marks L cols u=marks L cols w↔∀c∈cols,L (u++c)=L (w++c):=by
 unfold marks;rw [ph];exact⟨λh c a=>XN (h c a),λh c a=>by rw [h c a]⟩
def AJ(L:W->Bool)(t:A0):List W:=t.rows.map (marks L t.cols)
def CM(ls:List UInt8)(rows:List W):List W:=rows.flatMap λr=>ls.map λl=>r++[l]
def Bg(L:W->Bool)(ls:List UInt8)(t:A0):Option W:=(CM ls t.rows).find? λw=>!(AJ L t).contains (marks L t.cols w)
def Bo(L:W->Bool)(ls:List UInt8):Nat->A0->Option A0
 | 0,_=>none
 | n+1,t=>match Bg L ls t with
  | none=>some t
  | some w=>if t.rows.length=12 then none else Bo L ls n ⟨t.rows++[w],t.cols⟩
def AT(ls:List UInt8)(w:W):Prop:=∀c∈w,c∈ls
structure TOk (L:W->Bool) (ls:List UInt8) (t:A0):Prop where
 r0:t.rows[0]? = some []
 c0:t.cols[0]? = some []
 pre:∀(i:Nat) w,t.rows[i]? = some w->0 < i->w≠[]/\∃j,j < i/\t.rows[j]? = some w.dropLast
 onR:∀w∈t.rows,AT ls w
 onC:∀c∈t.cols,AT ls c
 nd:(AJ L t).Nodup
 ndC:t.cols.Nodup
theorem Il{L:W->Bool}{ls:List UInt8}{t:A0}{w:W}(h:Bg L ls t=some w):(∃r∈t.rows,∃l∈ls,w=r++[l])/\marks L t.cols w∉AJ L t:=by
 have d:=List.find?_some h;have a:=List.mem_of_find?_eq_some h;unfold CM at a;simp only [ow,d9] at a;obtain⟨r,b,l,c,rfl⟩:=a;exact⟨⟨r,b,l,c,rfl⟩,by simpa using d⟩
theorem GL{L:W->Bool}{ls:List UInt8}{t:A0}(h:Bg L ls t=none):∀r∈t.rows,∀l∈ls,marks L t.cols (r++[l])∈AJ L t:=by
 intro r a l b;have c:=pe.1 h (r++[l]) (by unfold CM;simp only [ow,d9];exact⟨r,a,l,b,rfl⟩)
 simpa using c
theorem TOk.push{L:W->Bool}{ls:List UInt8}{t:A0}{w:W}(h:TOk L ls t)(p:Bg L ls t=some w):TOk L ls ⟨t.rows++[w],t.cols⟩:=by
 obtain⟨⟨r,n,l,s,rfl⟩,q⟩:=Il p;have z:0 < t.rows.length:=(ce.1 h.r0).1;refine⟨by rw [f7 z];exact h.r0,h.c0,λi w hi o=>?_,λw d=>?_,h.onC,?_,h.ndC⟩
 ·by_cases k:i < t.rows.length
  ·rw [f7 k] at hi
   obtain⟨y,j,x,v⟩:=h.pre i w hi o;exact⟨y,j,x,by rw [f7 (by omega)];exact v⟩
  ·rw [gc (by omega)] at hi
   have m:i=t.rows.length:=by
    have:=(ce.1 hi).1;simp at this;omega
   subst m;simp at hi;subst hi;obtain⟨j,g,u⟩:=nB n;refine⟨by simp,j,g,?_⟩;rw [f7 g,List.dropLast_concat,d6 g,u]
 ·rcases em.1 d with d|d
  ·exact h.onR w d
  ·simp at d
   subst d;intro c f
   rcases em.1 f with f|f
   ·exact h.onR r n c f
   ·simp at f;subst f;exact s
 ·unfold AJ
  rw [nY,o3];refine⟨h.nd,by simp,λa ha b hb=>?_⟩;simp at hb;subst hb;intro e;exact q (e ▸ ha)
structure Fin (L:W->Bool) (ls:List UInt8) (n:Nat) where
 st:W->Nat
 lt:∀w,AT ls w->st w < n
 same:∀u w v,AT ls u->AT ls w->AT ls v->st u=st w->L (u++v)=L (w++v)
theorem Ul:∀(n:Nat) (l:List Nat),l.Nodup->(∀x∈l,x < n)->l.length<=n
 | 0,l,_,h=>by cases l with
  | nil=>simp
  | cons x l=>have:=h x (by simp);omega
 | n + 1,l,c,h=>by
  have d:=Ul n (l.erase n) (c.erase n) λx a=>by
   have g:=h x (List.mem_of_mem_erase a)
   have f:x≠n:=λe=>by subst e;exact(List.Nodup.not_mem_erase c) a
   omega
  by_cases b:n∈l
  ·rw [List.length_erase_of_mem b] at d;omega
  ·rw [List.erase_of_not_mem b] at d;omega
def Da(L:W->Bool)(t:A0)(w:W):Nat:=(AJ L t).idxOf (marks L t.cols w)
def runM(L:W->Bool)(t:A0):Nat->W->Nat
 | i,[]=>i
 | i,c::w=>runM L t (Da L t ((t.rows.getD i [])++[c])) w
theorem UF(L:W->Bool)(t:A0):∀(u w:W) (i:Nat),runM L t i (u++w)=runM L t (runM L t i u) w
 | [],_,_=>rfl
 | c::u,w,i=>UF L t u w _
structure BX (L:W->Bool) (ls:List UInt8) (t:A0):Prop extends TOk L ls t where
 cl:∀r∈t.rows,∀l∈ls,marks L t.cols (r++[l])∈AJ L t
theorem BX.idx{L:W->Bool}{ls:List UInt8}{t:A0}(h:BX L ls t){i:Nat}{r:W}{l:UInt8}(hi:t.rows[i]? = some r)(b:l∈ls):∃r',t.rows[Da L t (r++[l])]? = some r'/\marks L t.cols r'=marks L t.cols (r++[l]):=by
 have e:=h.cl r (co hi) l b;have a:Da L t (r++[l]) < (AJ L t).length:=List.idxOf_lt_length_iff.2 e;have d:(AJ L t)[Da L t (r++[l])]'a=marks L t.cols (r++[l]):=List.getElem_idxOf a
 have c:Da L t (r++[l]) < t.rows.length:=by simpa [AJ] using a
 refine⟨t.rows[Da L t (r++[l])],d6 c,?_⟩;rw [<-d];simp [AJ]
theorem BX.run{L:W->Bool}{ls:List UInt8}{t:A0}(h:BX L ls t):∀(w:W) (i:Nat),AT ls w->i < t.rows.length->runM L t i w < t.rows.length
 | [],_,_,hi=>hi
 | c::w,i,a,hi=>by
  have b:t.rows[i]? = some t.rows[i]:=d6 hi;obtain⟨_,f,_⟩:=h.idx b (a c (by simp))
  have e:t.rows.getD i []=t.rows[i]:=by simp [b]
  show runM L t (Da L t (t.rows.getD i []++[c])) w < _
  rw [e];exact h.run w _ (λx d=>a x (by simp [d])) (ce.1 f).1
def splitAt(L:W->Bool)(t:A0)(b:Bool):Nat->W->Option W
 | _,[]=>none
 | i,c::v=>if L (t.rows.getD (Da L t ((t.rows.getD i [])++[c])) []++v)≠b then some v else splitAt L t b (Da L t ((t.rows.getD i [])++[c])) v
end Go.Am
namespace Go.Am
open Go Go.Proofs
set_option maxHeartbeats 1000000
attribute [local irreducible] AX Cb Lex Bh Aj Spec
variable {TB:Bz}
abbrev ZY(n:UInt8):List D:=[.v (.int .u8 n.toNat)]
abbrev YQ(l:List UInt8):D:=.l (l.map ZY)
abbrev Bn(b:List UInt8)(p:Int):O:=.cells 82 2 [[.d (YQ b),.d (iD p)]]
theorem bC{a b:Nat}(ha:a < 2 ^ 62)(hb:b < 2 ^ 62):VL .i64 a b=((a ^^^ b:Nat):Int):=by
 unfold VL
 have d:(BitVec.ofInt IntKind.i64.bits (a:Int)).toNat=a:=by
  rw [BitVec.toNat_ofInt];have:IntKind.i64.bits=64:=rfl;rw [this];omega
 have c:(BitVec.ofInt IntKind.i64.bits (b:Int)).toNat=b:=by
  rw [BitVec.toNat_ofInt];have:IntKind.i64.bits=64:=rfl;rw [this];omega
 rw [BitVec.toNat_xor,d,c];have e:a ^^^ b < 2 ^ 62:=Nat.xor_lt_two_pow ha hb;exact IntWalk.i64_in _ (by omega)
theorem eJ{x y:Int}(d:0<=x/\x < 4611686018427387904)(c:0<=y/\y < 4611686018427387904):0<=VL .i64 x y/\VL .i64 x y < 4611686018427387904:=by
 obtain⟨a,rfl⟩:∃a:Nat,x=a:=⟨x.toNat,by omega⟩
 obtain⟨b,rfl⟩:∃b:Nat,y=b:=⟨y.toNat,by omega⟩
 rw [bC (by omega) (by omega)];have e:a ^^^ b < 2 ^ 62:=Nat.xor_lt_two_pow (by omega) (by omega);omega
theorem VQ(b:List UInt8)(hb:b.length<=9223372036854775807):∃b':List UInt8,b'.length<=2000/\AR Tryz.prog TB 29 0 [] 0 [.o (.d (YQ b))] (λx σ nx=>x=.o (.ptr 0 2 0 0)/\σ=[(0,Bn b' 0)]/\nx=1):=by
 by_cases h:b.length<=2000
 ·refine⟨b,h,?_⟩
  refine AR.QY (m:=0) (am rfl) Tryz.func29 rfl (by kernel_rfl) (am rfl) ?_;intro Z c;(repeat first|refine sN rfl ?_ |refine tX rfl ?_ |refine s2 rfl λ_ a=>?_ |refine aU rfl ?_ |refine Aa ?_)
  ((refine aC rfl ?_ ?_<;>rintro⟨⟩);all_goals try (simp at a;done))
  ·exfalso;(simp only[oZ] at *;omega)
  refine aK ?_;(repeat first|refine tX rfl ?_|(refine Ag rfl ?_;refine gA rfl ?_;first| refine gS (λ_ _=>AF rfl rfl (by rfl) (by rfl)) ?_) |refine aU rfl ?_);(refine pW rfl ?_ rfl (by rfl);refine C5 rfl rfl ?_);(repeat first|refine tX rfl ?_ |refine Aa ?_);refine aR ⟨_,rfl,rfl,rfl,rfl⟩
 ·refine⟨b.take 2000,by simp;omega,?_⟩
  have e:(b.map ZY).take (2000:Int).toNat=(b.take 2000).map ZY:=by simp [qE]
  refine AR.QY (m:=0) (am rfl) Tryz.func29 rfl (by kernel_rfl) (am rfl) ?_;intro Z c;(repeat first|refine sN rfl ?_ |refine tX rfl ?_ |refine s2 rfl λ_ a=>?_ |refine aU rfl ?_ |refine Aa ?_)
  ((refine aC rfl ?_ ?_<;>rintro⟨⟩);all_goals try (simp at a;done))
  ·(repeat first|refine tX rfl ?_|(refine Ag rfl ?_;refine gA rfl ?_;first| refine gS (λ_ _=>Oe rfl rfl (by simp) (by omega) (by simp;omega)) ?_) |refine aU rfl ?_ |refine Aa ?_)
   rw [e];(repeat first| (refine Ag rfl ?_;refine gA rfl ?_;first| refine gS (λ_ _=>AF rfl rfl (by rfl) (by rfl)) ?_));(refine pW rfl ?_ rfl (by rfl);refine C5 rfl rfl ?_);(repeat first|refine tX rfl ?_ |refine Aa ?_);refine aR ⟨_,rfl,rfl,rfl,rfl⟩
  ·exfalso;(simp only[oZ] at *;omega)
theorem Bm(b:List UInt8)(hb:b.length<=2000)(p n:Int)(L:0<=p/\p < 1000000000):∃k:Int,0<=k/\(k=0\/k < n)/\Spec Tryz.prog TB 57 [(0,Bn b p)] 1 [.o (.ptr 0 2 0 0),eI .i64 n] (λx σ nx=>x=eI .i64 k/\σ=[(0,Bn b (p+1))]/\nx=1):=by
 by_cases I:n < 1\/b.length=0
 ·refine⟨0,by omega,.inl rfl,?_⟩
  refine eR Tryz.func57 rfl (by kernel_rfl) rfl ?_;intro Z a;(repeat' first|refine sN rfl ?_ |(refine sA rfl ?_ ?_;first|exact tI|omega|simp only[oZ] at *;omega) |refine s2 rfl λ_ e=>?_ |refine s3 rfl ?_ ?_<;>rintro rfl |refine aU rfl ?_ |refine Aa ?_ |refine rE (by kernel_rfl) ?_|(refine aC rfl ?_ ?_<;>rintro⟨⟩)|refine aK ?_|refine aE ?_|refine aB ?_|refine aR ⟨_,rfl,?_⟩)
  all_goals first
   | (exfalso;(simp only[oZ] at *;omega);done)
   | refine⟨[0],eI .i64 0,[(0,Bn b (p+1))],⟨by first|(simp;done)|decide|(intro i hi;match i with|0=>rfl),by decide⟩,rfl,by (simp[cX,zC,a]),rfl,rfl,rfl⟩
 have K:0 < b.length:=by omega
 have q:0 < n:=by omega
 by_cases J:p < b.length
 ·obtain⟨c,m⟩:=get_some (l:=b) (k:=(p+1 - 1).toNat) (by omega)
  have j:=get_map (g:=ZY) m;have h:=c.toNat_lt;refine⟨(c.toNat:Int) % n,oa _ (by omega),.inr (nW _ q),?_⟩;refine eR Tryz.func57 rfl (by kernel_rfl) rfl ?_;intro Z a;(repeat' first|refine sN rfl ?_ |(refine sA rfl ?_ ?_;first|exact tI|omega) |(refine s4 rfl ‹_› rfl ?_ ?_;omega) |refine s2 rfl λ_ e=>?_ |refine s3 rfl ?_ ?_<;>rintro rfl |refine aU rfl ?_ |refine Aa ?_ |refine rE (by kernel_rfl) ?_|(refine aC rfl ?_ ?_<;>rintro⟨⟩)|refine aK ?_|refine aE ?_|refine aB ?_|refine aR ⟨_,rfl,?_⟩)
  all_goals first
   | (exfalso;(simp only[oZ] at *;omega);done)
   | refine⟨[0],_,[(0,Bn b (p+1))],⟨by first|(simp;done)|decide|(intro i hi;match i with|0=>rfl),by decide⟩,rfl,by (simp[cX,zC,a]),rfl,rfl,rfl⟩
 ·have f:(0:Int) < b.length:=by omega
  have H:=oa (p+1 - 1) (show (b.length:Int)≠0 by omega);have G:=nW (p+1 - 1) f;have F:=oa ((p+1 - 1)*7+3) (show (b.length:Int)≠0 by omega);have B:=nW ((p+1 - 1)*7+3) f;obtain⟨c,m⟩:=get_some (l:=b) (k:=((p+1 - 1) % (b.length:Int)).toNat) (by omega);have j:=get_map (g:=ZY) m;have h:=c.toNat_lt;obtain⟨d,u⟩:=get_some (l:=b) (k:=(((p+1 - 1)*7+3) % (b.length:Int)).toNat) (by omega);have t:=get_map (g:=ZY) u;have s:=d.toNat_lt;have A:0<=(p+1 - 1) / (b.length:Int):=pg (by omega) (by omega);have z:(p+1 - 1) / (b.length:Int)<=p+1 - 1:=o7 _ (by omega)
  obtain⟨x,r⟩:∃x,x=(c.toNat:Int)*131+(d.toNat:Int)*1117+(p+1 - 1)*29+(p+1 - 1) / (b.length:Int)*53:=⟨_,rfl⟩
  have w:0<=x/\x < 1000000000000:=by omega
  have v:=eJ (x:=x) (y:=x / 64) (by omega) (by omega);refine⟨VL .i64 x (x / 64) % n,oa _ (by omega),.inr (nW _ q),?_⟩;refine eR Tryz.func57 rfl (by kernel_rfl) rfl ?_;intro Z a;(repeat' first|refine sN rfl ?_ |(refine sA rfl ?_ ?_;first|exact tI|omega) |(refine s4 rfl ‹_› rfl ?_ ?_;omega) |(refine s2 rfl λ_ e=>?_;try (simp only[n9,og] at e;subst e))|(refine Ag rfl ?_;refine gA rfl ?_;first| refine gS (λ_ _=>kM rfl rfl rfl) ?_) |refine s3 rfl ?_ ?_<;>rintro rfl |refine aU rfl ?_ |refine Aa ?_ |refine rE (by kernel_rfl) ?_|(refine aC rfl ?_ ?_<;>rintro⟨⟩)|refine aK ?_|refine aR ⟨_,rfl,?_⟩|(rw [<-r]))
  all_goals first
   | (exfalso;(simp only[oZ] at *;omega);done)
   | refine⟨[0],_,[(0,Bn b (p+1))],⟨by first|(simp;done)|decide|(intro i hi;match i with|0=>rfl),by decide⟩,rfl,by (simp[cX,zC,a]),rfl,rfl,rfl⟩
theorem Db(b:List UInt8)(hb:b.length<=2000)(p:Int)(m:0<=p/\p < 1000000000)(l:List Int)(s:0 < l.length)(j:l.length < 1000000):∃k∈l,Spec Tryz.prog TB 31 [(0,Bn b p)] 1 [.o (.ptr 0 2 0 0),Ak l] (λx σ nx=>x=eI .i64 k/\σ=[(0,Bn b (p+1))]/\nx=1):=by
 obtain⟨k,r,q,h⟩:=Bm (TB:=TB) b hb p l.length m;obtain⟨x,c⟩:=get_some (l:=l) (k:=k.toNat) (by omega);have f:=get_map (g:=Bq) c;refine⟨x,co c,?_⟩;refine eR Tryz.func31 rfl (by kernel_rfl) rfl ?_;intro Z a;(repeat first|refine sN rfl ?_ |refine tA rfl ?_ |refine aU rfl ?_ |refine Aa ?_);(refine pW rfl ?_ rfl (by rfl);refine Ai [0] rfl rfl (h) ⟨rfl,by decide,by decide⟩ rfl (by simp[cX,zC,a]) ?_;rintro n d e ⟨rfl,rfl,rfl⟩ _);(repeat first|refine tA rfl ?_ |(refine s4 rfl ‹_› rfl ?_ ?_;omega) |refine Aa ?_);refine aR ⟨_,rfl,?_⟩;refine⟨[0],_,[(0,Bn b (p+1))],⟨by first|(simp;done)|decide|(intro i hi;match i with|0=>rfl),by decide⟩,rfl,by (simp[cX,zC,a]),rfl,rfl,rfl⟩
theorem kh(b:List UInt8)(hb:b.length<=2000)(p:Int)(m:0<=p/\p < 1000000000)(l:List W)(s:0 < l.length)(j:l.length < 1000000):∃k∈l,Spec Tryz.prog TB 199 [(0,Bn b p)] 1 [.o (.ptr 0 2 0 0),BO l] (λx σ nx=>x=eT k/\σ=[(0,Bn b (p+1))]/\nx=1):=by
 obtain⟨k,r,q,h⟩:=Bm (TB:=TB) b hb p l.length m;obtain⟨x,c⟩:=get_some (l:=l) (k:=k.toNat) (by omega);have f:=get_map (g:=CN) c;refine⟨x,co c,?_⟩;refine eR Tryz.func199 rfl (by kernel_rfl) rfl ?_;intro Z a;(repeat first|refine sN rfl ?_ |refine tA rfl ?_ |refine aU rfl ?_ |refine Aa ?_);(refine pW rfl ?_ rfl (by rfl);refine Ai [0] rfl rfl (h) ⟨rfl,by decide,by decide⟩ rfl (by simp[cX,zC,a]) ?_;rintro n d e ⟨rfl,rfl,rfl⟩ _);(repeat first|refine tA rfl ?_ |(refine s4 rfl ‹_› rfl ?_ ?_;omega) |refine Aa ?_);refine aR ⟨_,rfl,?_⟩;refine⟨[0],_,[(0,Bn b (p+1))],⟨by first|(simp;done)|decide|(intro i hi;match i with|0=>rfl),by decide⟩,rfl,by (simp[cX,zC,a]),rfl,rfl,rfl⟩
end Go.Am
