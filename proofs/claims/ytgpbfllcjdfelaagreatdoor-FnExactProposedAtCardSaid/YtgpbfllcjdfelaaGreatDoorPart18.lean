/-
  Arrays of arrays of the call's own: the inner ones lie sealed, one of them at a time is taken out and put back.
-/
import Derived.Test.YtgpbfllcjdfelaaGreatDoorPart16
import Derived.Test.YtgpbfllcjdfelaaGreatDoorPart15
import Derived.WideKeyArr
set_option linter.all false
namespace Go.Am
open Go
abbrev GC:=List (Value×List Int)
def sI(l:GC):List (Value×List Value):=l.map λx=>(x.1,x.2.map (.int .i64))
def A0(l:GC):List (List C):=l.map λx=>[.d (.v x.1)]
abbrev HT(xs:List Int):List (List C):=xs.map Az
theorem Ur{V:View}{i k off n:Nat}{v:Value}(h:AA V (.arr i k off n) v):(V.nl i/\off=0/\n=0/\v=.slice none 0 0)\/(¬V.nl i/\off+n<=V.cap i/\v=.slice (some ⟨V.X i,off*k,none⟩) n (V.cap i - off)):=by
 cases h with
 | nil _ h=>exact .inl ⟨h,rfl,rfl,rfl⟩
 | arr _ b a=>exact .inr ⟨b,a,rfl⟩
theorem Hm(l m:GC):sI (l++m)=sI l++sI m:=cO
theorem HW(l m:GC):A0 (l++m)=A0 l++A0 m:=cO
theorem Dz(l:GC):(A0 l).length=l.length:=bK _
theorem TD(r:Nat->Nat)(l:GC):(A0 l).map (C.Bh r)=A0 l:=by
 unfold A0;rw [c6];rfl
theorem Tn(l:List Int):(HT l).length=l.length:=bK _
section
variable {P:Program}{TB:Bg}{Z:Ctx}{N:Nat}{V:View}{σ:Ab}{a i s:Nat}{T Ta:TypeId}{R1 R2:List (List C)}{xs:List Int}{l1 l2:GC}
theorem PF{l:GC}{x:Value×List Value}(h:x∈sI l):∃y∈l,x=(y.1,y.2.map (.int .i64)):=by
 obtain⟨y,a,rfl⟩:=bB.1 h;exact⟨y,a,rfl⟩
theorem Inv.put(h:Inv TB Z V σ)(ha:look σ a=some (.cells Ta 1 (R1++[.arr i 1 0 xs.length]::R2)))(hi:look σ i=some (.cells T 1 (HT xs)))(P:look σ s=some (.sld T (sI (l1++l2)))) :
 ∃v,Inv TB Z V ((a,.cells Ta 1 (R1++[.d (.v v)]::R2))::(s,.sld T (sI (l1++(v,xs)::l2)))::kill i σ):=by
 have has:a≠s:=λe=>by rw [e,P] at ha;cases ha
 have his:i≠s:=λe=>by rw [e,P] at hi;cases hi
 have hai:a≠i:=λe=>by
  rw [e,hi] at ha
  injection ha with ha;injection ha with _ _ ha
  have B:(HT xs)[R1.length]? = some [.arr i 1 0 xs.length]:=by rw [ha];simp
  rw [bG,br] at B;obtain⟨x,_,A⟩:=B;cases A
 rcases h.st.obj a _ ha with ⟨_,h0⟩|⟨hna,cur,R,N,h4,h5,h6,h7⟩
 ·simp at h0
 obtain⟨v,hv,Q⟩:=h7 R1.length [.arr i 1 0 xs.length] 0 (.arr i 1 0 xs.length) (by simp) rfl;have Q:=Ur Q
 have hsl:KQ v=true:=by rcases Q with ⟨_,_,_,rfl⟩|⟨_,_,rfl⟩<;>rfl
 have I:∀b,GZ v b->¬V.nl i/\b=V.X i:=by
  rintro b ⟨o,n,c,rfl⟩
  rcases Q with ⟨_,_,_,p⟩|⟨m,_,p⟩
  ·cases p
  ·injection p with p;injection p with p;injection p with p;exact⟨m,p⟩
 have K:Hr V.w T v (xs.map (.int .i64)):=by
  rcases h.st.obj i _ hi with ⟨G,z⟩|⟨hni,cur',z,F,g4,g5,g6,g7⟩
  ·have:xs=[]:=by simpa using z
   subst this
   rcases Q with ⟨_,_,_,rfl⟩|⟨m,_⟩
   ·exact .inl ⟨rfl,rfl⟩
   ·exact absurd G m
  ·rcases Q with ⟨m,_⟩|⟨_,hle,rfl⟩
   ·exact absurd m hni
   ·refine .inr ⟨V.X i,V.cap i,cur',by simp,z,by simpa using F,by rw [Tn] at g4;simpa using g4,g5,λj x M=>?_⟩
    rw [bG,br] at M;obtain⟨n,m,rfl⟩:=M;obtain⟨w,p,hcw⟩:=g7 j [.d (.v (.int .i64 n))] 0 (.d (.v (.int .i64 n))) (by simp [HT,m]) rfl;have:w=.int .i64 n:=AA.val hcw;subst this;exact⟨by simpa using p,rfl⟩
 refine⟨v,?_⟩;have look':∀id o,look ((a,.cells Ta 1 (R1++[.d (.v v)]::R2))::(s,.sld T (sI (l1++(v,xs)::l2)))::kill i σ) id=some o->
  (id=a/\o=.cells Ta 1 (R1++[.d (.v v)]::R2))\/(id=s/\o=.sld T (sI (l1++(v,xs)::l2)))\/(id≠a/\id≠s/\id≠i/\look σ id=some o):=λid o f=>by
  rw [Ak] at f;by_cases B:a=id
  ·rw [if_pos B] at f;injection f with f;exact .inl ⟨B.symm,f.symm⟩
  ·rw [if_neg B,Ak] at f
   by_cases R:s=id
   ·rw [if_pos R] at f;injection f with f;exact .inr (.inl ⟨R.symm,f.symm⟩)
   ·rw [if_neg R,Dq] at f
    by_cases N:id=i
    ·rw [if_pos N] at f;cases f
    ·rw [if_neg N] at f;exact .inr (.inr ⟨Ne.symm B,Ne.symm R,N,f⟩)
 have hsb:∀b,Di V s (.sld T (sI (l1++(v,xs)::l2))) b->Di V s (.sld T (sI (l1++l2))) b\/(¬V.nl i/\b=V.X i):=by
  rintro b ⟨x,A,hb⟩;obtain⟨y,l,rfl⟩:=PF A
  rcases bE.1 l with l|l
  ·exact .inl ⟨_,bB.2 ⟨y,cd _ l,rfl⟩,hb⟩
  ·rcases cm.1 l with rfl|l
   ·exact .inr (I b hb)
   ·exact .inl ⟨_,bB.2 ⟨y,cn _ l,rfl⟩,hb⟩
 have t:=h.st.obj s _ P
 have H:∀x∈sI (l1++l2),∀b,GZ x.1 b->¬GZ v b:=λx A b hb u=>by
  obtain⟨m,rfl⟩:=I b u;exact h.st.inj s i _ _ P hi (Ne.symm his) t.1 m _ ⟨x,A,hb⟩ rfl
 have src:∀id o,look ((a,.cells Ta 1 (R1++[.d (.v v)]::R2))::(s,.sld T (sI (l1++(v,xs)::l2)))::kill i σ) id=some o->¬V.nl id->∀b,Di V id o b->∃g J,look σ g=some J/\¬V.nl g/\Di V g J b/\(g=id\/g=i/\id=s):=λid o f m b hb=>by
  rcases look' id o f with ⟨rfl,rfl⟩|⟨rfl,rfl⟩|⟨_,_,_,f⟩
  ·exact⟨_,_,ha,m,hb,.inl rfl⟩
  ·rcases hsb b hb with hb|⟨B,rfl⟩
   ·exact⟨_,_,P,m,hb,.inl rfl⟩
   ·exact⟨_,_,hi,B,rfl,.inr ⟨rfl,rfl⟩⟩
  ·exact⟨_,_,f,m,hb,.inl rfl⟩
 have noi:∀id o,look ((a,.cells Ta 1 (R1++[.d (.v v)]::R2))::(s,.sld T (sI (l1++(v,xs)::l2)))::kill i σ) id=some o->id≠i:=λid o f=>by
  rcases look' id o f with ⟨rfl,rfl⟩|⟨rfl,rfl⟩|⟨_,_,N,_⟩
  ·exact hai
  ·exact Ne.symm his
  ·exact N
 refine⟨h.os,h.tape,h.output,h.old,h.iLt,h.iNew,h.ext,⟨λid o f=>?_,λid o f=>?_,λid o f m b hb=>?_,λid id' o o' f U hne m hn' b hb u=>?_⟩,λid o f m b hb=>?_,h.tabs,h.hid.same rfl (λ_ h=>h) (λ_ h=>.inl h) λb ⟨id,o,f,m,hb⟩=>let ⟨g,J,G,z,F,_⟩:=src id o f m b hb;⟨g,J,G,z,F⟩⟩
 ·rcases look' id o f with ⟨rfl,rfl⟩|⟨rfl,rfl⟩|⟨_,_,_,f⟩
  ·refine .inr ⟨hna,cur,R,N,by simpa using h4,h5,λr L=>?_,λq r j c hq M=>?_⟩
   ·rcases bE.1 L with L|L
    ·exact h6 r (cd _ L)
    ·rcases cm.1 L with rfl|L
     ·rfl
     ·exact h6 r (cn _ (cC _ L))
   ·by_cases hq0:q=R1.length
    ·subst hq0
     simp at hq;subst hq
     have hj0:j=0:=by have:=(am.1 M).1;simp at this;omega
     subst hj0;simp at M;subst M;exact⟨v,hv,.d (.v hsl)⟩
    ·refine h7 q r j c ?_ M
     rw [<-hq]
     rcases cL q R1.length with h8|h8
     ·rw [bx h8,bx h8]
     ·rw [bz h8,bz h8]
      obtain⟨k,hk⟩:∃k,q - R1.length=k+1:=⟨q - R1.length - 1,by omega⟩
      rw [hk];rfl
  ·refine⟨t.1,?_,λx A=>?_⟩
   ·have hp:=t.2.1
    rw [Hm,dr] at hp;rw [Hm,dr];refine⟨hp.1,dj.2 ⟨λy l b hb u=>H y (by rw [Hm];exact cn _ l) b u hb,hp.2.1⟩,λx A y l=>?_⟩
    rcases cm.1 l with rfl|l
    ·exact λb hb=>H x (by rw [Hm];exact cd _ A) b hb
    ·exact hp.2.2 x A y l
   ·obtain⟨y,l,rfl⟩:=PF A
    rcases bE.1 l with l|l
    ·exact t.2.2 _ (bB.2 ⟨y,cd _ l,rfl⟩)
    ·rcases cm.1 l with rfl|l
     ·exact K
     ·exact t.2.2 _ (bB.2 ⟨y,cn _ l,rfl⟩)
  ·exact h.st.obj id o f
 ·rcases look' id o f with ⟨rfl,rfl⟩|⟨rfl,rfl⟩|⟨_,_,_,f⟩
  ·exact h.st.lt _ _ ha
  ·exact h.st.lt _ _ P
  ·exact h.st.lt _ _ f
 ·obtain⟨g,J,G,z,F,_⟩:=src id o f m b hb
  exact h.st.free _ _ G z b F
 ·obtain⟨g,J,G,z,F,g4⟩:=src id o f m b hb
  obtain⟨S,o0',g1',g2',g3',g4'⟩:=src id' o' U hn' b u;refine h.st.inj g S _ _ G g1' ?_ z g2' b F g3';have n1:=noi id o f;have n2:=noi id' o' U;rintro rfl
  rcases g4 with rfl|⟨rfl,rfl⟩<;>rcases g4' with rfl|⟨e1,rfl⟩
  ·exact hne rfl
  ·exact n1 e1
  ·exact n2 rfl
  ·exact hne rfl
 ·obtain⟨g,J,G,z,F,_⟩:=src id o f m b hb
  exact h.live _ _ G z b F
theorem Al.put{c:Code}{Q:Exit->Env->Ab->Nat->Prop}{f:Env}{nx:Nat}(a i s:Nat)(R1 R2:List (List C))(xs:List Int)(l1 l2:GC)(ha:look σ a=some (.cells Ta 1 (R1++[.arr i 1 0 xs.length]::R2)))(hi:look σ i=some (.cells T 1 (HT xs)))(g:look σ s=some (.sld T (sI (l1++l2))))
 (h:∀v,Al P TB Z N c Q f ((a,.cells Ta 1 (R1++[.d (.v v)]::R2))::(s,.sld T (sI (l1++(v,xs)::l2)))::kill i σ) nx):Al P TB Z N c Q f σ nx:=by
 intro V ac b;obtain⟨v,e⟩:=b.inv.put ha hi g;exact h v V ac ⟨b.env,b.lt,b.size,e,b.nx,b.defers⟩
theorem Inv.take{v:Value}(h:Inv TB Z V σ)(ha:look σ a=some (.cells Ta 1 (R1++[.d (.v v)]::R2)))(hs:look σ s=some (.sld T (sI (l1++(v,xs)::l2)))) :
 ∃V',V'.w=V.w/\V'.nx=V.nx+1/\Ext V V'/\Inv TB Z V' ((a,.cells Ta 1 (R1++[.arr V.nx 1 0 xs.length]::R2))::(V.nx,.cells T 1 (HT xs))::(s,.sld T (sI (l1++l2)))::σ):=by
 have has:a≠s:=λe=>by rw [e,hs] at ha;cases ha
 have p:=h.st.obj s _ hs;have hsn:=h.st.lt _ _ hs;have l:=h.st.lt _ _ ha;have K:((v,xs.map (.int .i64)):Value×List Value)∈sI (l1++(v,xs)::l2):=bB.2 ⟨(v,xs),by simp,rfl⟩
 obtain⟨u,cap,nl,hb0,hcr,hob⟩:∃u cap nl,(¬nl->GZ v u)/\AA (Ai V u cap nl V.w) (.arr V.nx 1 0 xs.length) v/\BF (Ai V u cap nl V.w) V.nx (.cells T 1 (HT xs)):=by
  rcases p.2.2 _ K with ⟨m,G⟩|⟨b,cap,cur,m,G,z,h4,h5,h6⟩
  ·have m:v=.slice none 0 0:=m
   have hx0:xs=[]:=by simpa using G
   subst m;subst hx0;exact⟨0,0,True,λh=>absurd trivial h,.nil (by simp [Ai]) (by simp [Ai]),.inl ⟨by simp [Ai],rfl⟩⟩
  ·have m:v=.slice (some ⟨b,0,none⟩) (xs.map (Value.int .i64)).length cap:=m
   rw [bK] at m h4;refine⟨b,cap,False,λ_=>⟨_,_,_,m⟩,?_,.inr ⟨by simp [Ai],cur,by simpa [Ai] using G,by simpa [Ai] using z,by simpa [Ai] using h4,by simpa [Ai] using h5,λr A=>?_,λq r j c hq L=>?_⟩⟩
   ·rw [m]
    have:=@AA.arr (Ai V b cap False V.w) V.nx 1 0 xs.length (by simp [Ai]) (by simp [Ai]) (by simpa [Ai] using h4)
    simpa [Ai] using this
   ·obtain⟨n,_,rfl⟩:=bB.1 A;rfl
   ·rw [bG,br] at hq
    obtain⟨n,t,rfl⟩:=hq
    have R:j=0:=by have:=(am.1 L).1;simp at this;omega
    subst R;simp at L;subst L;exact⟨.int .i64 n,by simpa using (h6 q (.int .i64 n) (by simp [t])).1,.d (.v rfl)⟩
 have e:Ext V (Ai V u cap nl V.w):=C8 (bJ _) λ_ _=>rfl
 have hX:(Ai V u cap nl V.w).X V.nx=u:=by simp [Ai]
 have hnl:(Ai V u cap nl V.w).nl V.nx↔nl:=by simp [Ai]
 refine⟨Ai V u cap nl V.w,rfl,rfl,e,?_⟩;have look':∀id o,look ((a,.cells Ta 1 (R1++[.arr V.nx 1 0 xs.length]::R2))::(V.nx,.cells T 1 (HT xs))::(s,.sld T (sI (l1++l2)))::σ) id=some o->
  (id=a/\o=.cells Ta 1 (R1++[.arr V.nx 1 0 xs.length]::R2))\/(id=V.nx/\o=.cells T 1 (HT xs))\/(id=s/\o=.sld T (sI (l1++l2)))\/(id≠a/\id≠s/\look σ id=some o):=λid o f=>by
  rw [Ak] at f;by_cases m:a=id
  ·rw [if_pos m] at f;injection f with f;exact .inl ⟨m.symm,f.symm⟩
  ·rw [if_neg m,Ak] at f
   by_cases G:V.nx=id
   ·rw [if_pos G] at f;injection f with f;exact .inr (.inl ⟨G.symm,f.symm⟩)
   ·rw [if_neg G,Ak] at f
    by_cases z:s=id
    ·rw [if_pos z] at f;injection f with f;exact .inr (.inr (.inl ⟨z.symm,f.symm⟩))
    ·rw [if_neg z] at f;exact .inr (.inr (.inr ⟨Ne.symm m,Ne.symm z,f⟩))
 have J:∀x∈sI (l1++l2),x∈sI (l1++(v,xs)::l2):=λx i=>by
  obtain⟨y,P,rfl⟩:=PF i;refine bB.2 ⟨y,?_,rfl⟩
  rcases bE.1 P with P|P
  ·exact cd _ P
  ·exact cn _ (cC _ P)
 have hp:=p.2.1;rw [Hm,dr] at hp;have hp2:=dj.1 hp.2.1
 have M:∀x∈sI (l1++l2),∀b,GZ x.1 b->¬GZ v b:=λx i b hb F=>by
  rw [Hm] at i
  rcases bE.1 i with i|i
  ·exact hp.2.2 x i _ (d5 ..) b hb F
  ·exact hp2.1 x i b F hb
 have src:∀id o,look ((a,.cells Ta 1 (R1++[.arr V.nx 1 0 xs.length]::R2))::(V.nx,.cells T 1 (HT xs))::(s,.sld T (sI (l1++l2)))::σ) id=some o->¬(Ai V u cap nl V.w).nl id->∀b,Di (Ai V u cap nl V.w) id o b->
  ∃g N,look σ g=some N/\¬V.nl g/\Di V g N b/\(g=id\/g=s/\id=V.nx/\GZ v b)/\(id=s->∃x∈sI (l1++l2),GZ x.1 b):=λid o f t b hb=>by
  rcases look' id o f with ⟨rfl,rfl⟩|⟨rfl,rfl⟩|⟨rfl,rfl⟩|⟨_,z,f⟩
  ·exact⟨_,_,ha,λh=>t ((e.nl _ l).2 h),by have:b=_:=hb;rw [e.X _ l] at this;exact this,.inl rfl,λe=>absurd e has⟩
  ·have hb:b=_:=hb
   rw [hX] at hb;subst hb;have hv:=hb0 λh=>t (hnl.2 h);exact⟨_,_,hs,p.1,⟨_,K,hv⟩,.inr ⟨rfl,rfl,hv⟩,λe=>by omega⟩
  ·obtain⟨x,i,hb⟩:=hb
   exact⟨_,_,hs,p.1,⟨x,J x i,hb⟩,.inl rfl,λ_=>⟨x,i,hb⟩⟩
  ·have hlt:=h.st.lt _ _ f
   exact⟨_,_,f,λh=>t ((e.nl _ hlt).2 h),(Aw e hlt).1 hb,.inl rfl,λe=>absurd e z⟩
 refine⟨h.os,h.tape,h.output,h.old,h.iLt,h.iNew,h.ext.trans e,⟨λid o f=>?_,λid o f=>?_,λid o f t b hb=>?_,λid id' o o' f ho' hne t hn' b hb F=>?_⟩,λid o f t b hb=>?_,h.tabs,h.hid.same rfl (λ_ h=>h) (λ_ h=>.inl h) λb ⟨id,o,f,t,hb⟩=>let ⟨g,N,g1,U,S,_⟩:=src id o f t b hb;⟨g,N,g1,U,S⟩⟩
 ·rcases look' id o f with ⟨rfl,rfl⟩|⟨rfl,rfl⟩|⟨rfl,rfl⟩|⟨_,_,f⟩
  ·rcases h.st.obj _ _ ha with ⟨_,h0⟩|⟨hna,cur,G,z,h4,h5,h6,h7⟩
   ·simp at h0
   refine .inr ⟨λh=>hna ((e.nl _ l).1 h),cur,by rw [e.X _ l];exact G,by rw [e.cap _ l];exact z,by rw [e.cap _ l];simpa using h4,by rw [e.cap _ l];exact h5,λr A=>?_,λq r j c hq L=>?_⟩
   ·rcases bE.1 A with A|A
    ·exact h6 r (cd _ A)
    ·rcases cm.1 A with rfl|A
     ·rfl
     ·exact h6 r (cn _ (cC _ A))
   ·by_cases hq0:q=R1.length
    ·subst hq0
     simp at hq;subst hq
     have R:j=0:=by have:=(am.1 L).1;simp at this;omega
     subst R;simp at L;subst L;obtain⟨w,hw,hc⟩:=h7 R1.length [.d (.v v)] 0 (.d (.v v)) (by simp) rfl;have hw2:w=v:=AA.val hc;subst hw2;exact⟨w,hw,hcr⟩
    ·obtain⟨w,hw,hc⟩:=h7 q r j c (by
      rw [<-hq]
      rcases cL q R1.length with h8|h8
      ·rw [bx h8,bx h8]
      ·rw [bz h8,bz h8]
       obtain⟨k,hk⟩:∃k,q - R1.length=k+1:=⟨q - R1.length - 1,by omega⟩
       rw [hk];rfl) L
     exact⟨w,hw,hc.ext e⟩
  ·exact hob
  ·refine⟨λh=>p.1 ((e.nl _ hsn).1 h),?_,λx i=>p.2.2 x (J x i)⟩
   rw [Hm,dr];exact⟨hp.1,hp2.2,λx i y P=>hp.2.2 x i y (cC _ P)⟩
  ·exact(h.st.obj id o f).AU e (h.st.lt id o f) λ_ _ _=>rfl
 ·rcases look' id o f with ⟨rfl,rfl⟩|⟨rfl,rfl⟩|⟨rfl,rfl⟩|⟨_,_,f⟩
  ·exact c8 l
  ·exact dy _
  ·exact c8 hsn
  ·exact c8 (h.st.lt _ _ f)
 ·obtain⟨g,N,g1,U,S,_⟩:=src id o f t b hb
  exact h.st.free _ _ g1 U b S
 ·obtain⟨g,N,g1,U,S,g4,g5⟩:=src id o f t b hb
  obtain⟨I,o0',g1',g2',g3',H,g5'⟩:=src id' o' ho' hn' b F;by_cases B:g=I
  ·rcases g4 with g4|⟨k1,k2,k3⟩<;>rcases H with H|⟨k1',k2',k3'⟩
   ·exact hne (by rw [<-g4,<-H,B])
   ·obtain⟨x,i,Q⟩:=g5 (by rw [<-g4,B,k1'])
    exact M x i b Q k3'
   ·obtain⟨x,i,Q⟩:=g5' (by rw [<-H,<-B,k1])
    exact M x i b Q k3
   ·exact hne (by rw [k2,k2'])
  ·exact h.st.inj g I _ _ g1 g1' B U g2' b S g3'
 ·obtain⟨g,N,g1,U,S,_⟩:=src id o f t b hb
  exact h.live _ _ g1 U b S
theorem Al.take{c:Code}{Q:Exit->Env->Ab->Nat->Prop}{f:Env}{nx:Nat}(a s:Nat)(R1 R2:List (List C))(v:Value)(xs:List Int)(l1 l2:GC)(ha:look σ a=some (.cells Ta 1 (R1++[.d (.v v)]::R2)))(g:look σ s=some (.sld T (sI (l1++(v,xs)::l2))))
 (h:Al P TB Z N c Q f ((a,.cells Ta 1 (R1++[.arr nx 1 0 xs.length]::R2))::(nx,.cells T 1 (HT xs))::(s,.sld T (sI (l1++l2)))::σ) (nx+1)):Al P TB Z N c Q f σ nx:=by
 intro V ac b;obtain⟨V',j,i,e,hi⟩:=b.inv.take ha g;have:=h V' ac ⟨b.env.ext e,b.lt,b.size,by have:=b.nx;subst this;exact hi,by rw [i,b.nx],b.defers⟩;rw [j] at this;exact this
theorem Al.YR{c:Code}{Q:Exit->Env->Ab->Nat->Prop}{f:Env}{nx:Nat}(T:TypeId)(h:Al P TB Z N c Q f ((nx,.sld T (sI []))::σ) (nx+1)):Al P TB Z N c Q f σ nx:=by
 intro V ac k;have hi:=k.inv;have e:Ext V (Ai V 0 0 False V.w):=C8 (bJ _) λ_ _=>rfl;have p:=k.nx;subst p
 have look':∀id o,look ((V.nx,.sld T (sI []))::σ) id=some o->(id=V.nx/\o=.sld T (sI []))\/(id≠V.nx/\look σ id=some o):=λid o a=>by
  rw [Ak] at a;by_cases d:V.nx=id
  ·rw [if_pos d] at a;injection a with a;exact .inl ⟨d.symm,a.symm⟩
  ·rw [if_neg d] at a;exact .inr ⟨Ne.symm d,a⟩
 have src:∀id o,look ((V.nx,.sld T (sI []))::σ) id=some o->∀b,Di (Ai V 0 0 False V.w) id o b->look σ id=some o/\Di V id o b/\((Ai V 0 0 False V.w).nl id↔V.nl id):=λid o a b hb=>by
  rcases look' id o a with ⟨rfl,rfl⟩|⟨_,a⟩
  ·obtain⟨x,m,_⟩:=hb;cases m
  ·have l:=hi.st.lt _ _ a
   exact⟨a,(Aw e l).1 hb,e.nl _ l⟩
 refine h (Ai V 0 0 False V.w) ac ⟨k.env.ext e,k.lt,k.size,?_,rfl,k.defers⟩;refine⟨hi.os,hi.tape,hi.output,hi.old,hi.iLt,hi.iNew,hi.ext.trans e,⟨λid o a=>?_,λid o a=>?_,λid o a g b hb=>?_,λid id' o o' a n q g r b hb s=>?_⟩,λid o a g b hb=>?_,hi.tabs,hi.hid.same rfl (λ_ h=>h) (λ_ h=>.inl h) λb ⟨id,o,a,g,hb⟩=>let ⟨d,j,i⟩:=src id o a b hb;⟨id,o,d,λh=>g (i.2 h),j⟩⟩
 ·rcases look' id o a with ⟨rfl,rfl⟩|⟨_,a⟩
  ·exact⟨by simp [Ai],List.Pairwise.nil,λx m=>by cases m⟩
  ·exact(hi.st.obj id o a).AU e (hi.st.lt id o a) λ_ _ _=>rfl
 ·rcases look' id o a with ⟨rfl,rfl⟩|⟨_,a⟩
  ·exact dy _
  ·exact c8 (hi.st.lt _ _ a)
 ·obtain⟨d,j,i⟩:=src id o a b hb
  exact hi.st.free _ _ d (λh=>g (i.2 h)) b j
 ·obtain⟨d,j,i⟩:=src id o a b hb
  obtain⟨v,u,t⟩:=src id' o' n b s;exact hi.st.inj _ _ _ _ d v q (λh=>g (i.2 h)) (λh=>r (t.2 h)) b j u
 ·obtain⟨d,j,i⟩:=src id o a b hb
  exact hi.live _ _ d (λh=>g (i.2 h)) b j
def C.Fe:C->Bool
 | .d (.v _)|.d (.l [])|.arr ..|.ptr ..|.mp _|.fn _ []=>true
 | _=>false
def O.Fe:O->Prop
 | .cells _ _ rows=>∀r∈rows,∀c∈r,C.Fe c=true
 | _=>True
def E.Fe:E->Prop
 | .o c=>C.Fe c=true
 | .a cs=>∀c∈cs,C.Fe c=true
 | .t xs=>∀x∈xs,∀c∈x.2,C.Fe c=true
 | .e=>True
def Y8(σ:Ab):Prop:=∀x∈σ,O.Fe x.2
theorem Y8.get{σ:Ab}(h:Y8 σ){id:Nat}{o:O}(a:look σ id=some o):O.Fe o:=by
 induction σ with
 | nil=>cases a
 | cons x r c=>
  obtain⟨k,y⟩:=x;rw [Ak] at a;by_cases b:k=id
  ·rw [if_pos b] at a;injection a with a;subst a;exact h _ (d5 ..)
  ·rw [if_neg b] at a;exact c (λz d=>h z (cC _ d)) a
structure Nw (V V':View):Prop where
 X:V'.X=V.X
 cap:V'.cap=V.cap
 nl:V'.nl=V.nl
 nx:V'.nx=V.nx
 w:V'.w=V.w
theorem AA.Fe{V V':View}(s:Nw V V'){c:C}{v:Value}(h:AA V c v)(i:c.Fe=true):AA V' c v:=by
 cases h with
 | @d x v h=>
  cases h with
  | v h=>exact .d (.v h)
  | nil=>exact .d .nil
  | e h=>exact .d (.e h)
  | @l rows b o k cap vs hb a g m r q=>
   cases rows with
   | nil=>exact .d (.e g)
   | cons=>cases i
  | p=>cases i
 | nil a g=>exact .nil (by rw [s.nx];exact a) (by rw [s.nl];exact g)
 | @arr id k off len a g m=>rw [<-s.X,<-s.cap];exact .arr (by rw [s.nx];exact a) (by rw [s.nl];exact g) (by rw [s.cap];exact m)
 | ptr a g=>rw [<-s.X];exact .ptr (by rw [s.nx];exact a) (by rw [s.nl];exact g)
 | @fn f cap vs a g=>
  cases cap with
  | nil=>exact .fn a λj c v n=>by simp at n
  | cons=>cases i
 | mp a=>rw [<-s.X];exact .mp (by rw [s.nx];exact a)
 | mv=>cases i
theorem A1.Fe{V V':View}(s:Nw V V'){e:E}{v:Value}(h:A1 V e v)(i:e.Fe):A1 V' e v:=by
 cases e with
 | o c=>exact AA.Fe s h i
 | a cs=>obtain⟨vs,n,m,l⟩:=h;exact⟨vs,n,m,λj c v d f=>(l j c v d f).Fe s (i c (bm d))⟩
 | t xs=>
  obtain⟨vs,n,m,l⟩:=h;refine⟨vs,n,m,λj x v d f=>?_⟩;have q:=l j x v d f;have p:=i x (bm d);obtain⟨b,cs⟩:=x;cases b
  ·obtain⟨c,g,k⟩:=q
   have g:cs=[c]:=g;subst g;exact⟨c,rfl,k.Fe s (p c (by simp))⟩
  ·obtain⟨ws,g,k,r⟩:=q
   exact⟨ws,g,k,λj c v d f=>(r j c v d f).Fe s (p c (bm d))⟩
 | e=>exact h
theorem BF.Fe{V V':View}(s:Nw V V'){id:Nat}{o:O}(h:BF V id o)(f:o.Fe):BF V' id o:=by
 cases o with
 | cells T k rows=>
  rcases h with ⟨b,a⟩|⟨d,cur,a,u,t,q,p,n⟩
  ·exact .inl ⟨by rw [s.nl];exact b,a⟩
  ·refine .inr ⟨by rw [s.nl];exact d,cur,by rw [s.w,s.X];exact a,by rw [s.cap];exact u,by rw [s.cap];exact t,by rw [s.cap];exact q,p,λi r j c hi e=>?_⟩
   obtain⟨v,m,g⟩:=n i r j c hi e;exact⟨v,m,g.Fe s (f r (bm hi) c (bm e))⟩
 | mp es=>obtain⟨d,ents,clock,b,a⟩:=h;exact⟨by rw [s.nl];exact d,ents,clock,by rw [s.w,s.X];exact b,a⟩
 | sld T l=>exact⟨by rw [s.nl];exact h.1,by rw [s.w];exact h.2⟩
section
variable {o:Oper}{f:Env}{nx:Nat}
theorem Ny{V:View}{S:Nx}(h:Inv TB Z V σ)(c:Ji TB V σ S):Inv TB (Dj (DK V σ) (DK V σ) [] S) (DK V σ) []:=
 ⟨rfl,rfl,rfl,λ_ _ _=>rfl,λb hb=>by
  rcases hb with hb|⟨id,o,e,d,hb⟩
  ·exact h.iLt b hb
  ·exact(h.st.obj id o e).blt d hb,λ_ h=>.inl h,Ext.refl _,Ej,λid o f=>(by cases f),λx a=>⟨.inl (h.tabs x a).1,(h.tabs x a).2⟩,⟨S,⟨c.r,λb hb=>.inl (c.ji b hb),λb hb hi=>hi.elim (c.bi b hb) λ⟨id,o,e,d,a⟩=>c.ap b ⟨id,o,e,d,a⟩ hb,λb ⟨_,_,h,_⟩=>by cases h⟩,λb hb=>.inl hb,λb hb=>.inr (.inr hb)⟩⟩
theorem LX{V V':View}{σ':Ab}{S:Nx}(d:Inv TB Z V σ)(L:Ji TB V σ S)(G:∀b,S.J b->Z.J b\/Z.V.w.heap.size<=b\/Z.F b)(n:∀b,S.B b->Z.V.w.heap.size<=b\/Z.F b)(m:Ext (DK V σ) V')(hi:Inv TB (Dj (DK V σ) (DK V σ) [] S) V' σ')(A:Y8 σ') :
 ∃V3,Nw V' V3/\Ext V V3/\Inv TB Z V3 (σ'++σ):=by
 have s:Nw V' { V' with I:=λb=>V.I b\/(V'.I b/\(V.w.heap.size<=b\/S.B b)) } := ⟨rfl,rfl,rfl,rfl,rfl⟩
 have e:Ext V { V' with I:=λb=>V.I b\/(V'.I b/\(V.w.heap.size<=b\/S.B b)) } := ⟨λ_ h=>.inl h,λb hb=>m.heap b (.inl hb),m.size,m.X,m.cap,m.nl,m.nx⟩
 have bs:∀ {id:Nat} {o:O} {b:Nat},Di { V' with I:=λb=>V.I b\/(V'.I b/\(V.w.heap.size<=b\/S.B b)) } id o b↔Di V' id o b:=λ{id o b} => by cases o<;>exact Iff.rfl
 have l:∀id o,look σ' id=some o->¬V'.nl id->∀b,Di V' id o b->V.w.heap.size<=b\/S.B b:=λid o a f b hb=>by
  rcases hi.live id o a f b hb with h|h|h
  ·exact .inl h
  ·obtain⟨_,_,h,_⟩:=h;cases h
  ·exact .inr h
 have t:∀id o,look σ id=some o->¬V.nl id->∀b,Di V id o b->(V.w.heap.size<=b\/S.B b)->False:=λid o a f b hb h=>by
  rcases h with h|h
  ·have:=(d.st.obj _ _ a).blt f hb;omega
  ·exact L.ap b ⟨id,o,a,f,hb⟩ h
 refine⟨_,s,e,⟨hi.os.trans d.os,hi.tape.trans d.tape,hi.output.trans d.output,λb hb K=>(hi.old b (bN hb d.ext.size) (λh=>h.elim (λ⟨_,_,h,_⟩=>by cases h) λh=>(n b h).elim (λh=>by omega) K)).trans (d.old b hb K),λb hb=>?_,λb hb=>?_,d.ext.trans e,⟨λid o a=>?_,λid o a=>?_,λid o a f b hb k=>?_,λid id' o o' j g y f p b hb q=>?_⟩,λid o a f b hb=>?_,λx H=>⟨.inl (d.tabs x H).1,(hi.tabs x H).2⟩,?_⟩⟩
 ·rcases hb with hb|hb
  ·exact hi.iLt b (m.i b (.inl hb))
  ·exact hi.iLt b hb.1
 ·rcases hb with hb|hb
  ·exact d.iNew b hb
  ·rcases hb.2 with h|h
   ·exact .inr (.inl (bT d.ext.size h))
   ·exact .inr (n b h)
 ·rcases BC a with a|a
  ·exact(hi.st.obj id o a).Fe s (A.get a)
  ·exact(d.st.obj id o a).AU e (d.st.lt id o a) λf b hb=>m.heap b (.inr ⟨id,o,a,f,hb⟩)
 ·rcases BC a with a|a
  ·exact hi.st.lt id o a
  ·exact bN (d.st.lt id o a) m.nx
 ·rcases BC a with a|a
  ·have v:=hi.st.free id o a f b (bs.1 hb)
   rcases k with k|k
   ·exact v (m.i b (.inl k))
   ·exact v k.1
  ·have c:=d.st.lt id o a
   have hb:=(Aw e c).1 hb;have f:¬V.nl id:=λh=>f ((e.nl id c).2 h)
   rcases k with k|k
   ·exact d.st.free id o a f b hb k
   ·exact t id o a f b hb k.2
 ·rcases BC j with j|j<;>rcases BC g with g|g
  ·exact hi.st.inj _ _ _ _ j g y f p b (bs.1 hb) (bs.1 q)
  ·have v:=l id o j f b (bs.1 hb)
   have c:=d.st.lt _ _ g;exact t _ _ g (λh=>p ((e.nl _ c).2 h)) b ((Aw e c).1 q) v
  ·have v:=l id' o' g p b (bs.1 q)
   have c:=d.st.lt _ _ j;exact t _ _ j (λh=>f ((e.nl _ c).2 h)) b ((Aw e c).1 hb) v
  ·have c:=d.st.lt _ _ j
   have u:=d.st.lt _ _ g;exact d.st.inj _ _ _ _ j g y (λh=>f ((e.nl _ c).2 h)) (λh=>p ((e.nl _ u).2 h)) b ((Aw e c).1 hb) ((Aw e u).1 q)
 ·rcases BC a with a|a
  ·rcases l id o a f b (bs.1 hb) with h|h
   ·exact .inl (bT d.ext.size h)
   ·exact n b h
  ·have c:=d.st.lt _ _ a
   exact d.live id o a (λh=>f ((e.nl _ c).2 h)) b ((Aw e c).1 hb)
 ·obtain⟨S1,k1,k2,N⟩:=hi.hid
  have M:∀b,S1.B b->V.w.heap.size<=b\/S.B b:=λb hb=>by
   rcases N b hb with h|h|h
   ·exact .inl h
   ·obtain⟨_,_,h,_⟩:=h;cases h
   ·exact .inr h
  refine⟨S1,⟨k1.r,λb hb=>?_,λb hb k=>k1.bi b hb (k.elim (λh=>m.i b (.inl h)) λh=>h.1),λb ⟨id,o,a,f,hb⟩ z=>?_⟩,λb hb=>?_,λb hb=>?_⟩
  ·rcases k2 b hb with h|h|h|h
   ·exact .inl (L.ji b h)
   ·exact .inr ⟨k1.ji b hb,.inl h⟩
   ·obtain⟨_,_,h,_⟩:=h;cases h
   ·exact .inr ⟨k1.ji b hb,.inr h⟩
  ·rcases BC a with a|a
   ·exact k1.ap b ⟨id,o,a,f,bs.1 hb⟩ z
   ·have c:=d.st.lt _ _ a
    exact t _ _ a (λh=>f ((e.nl _ c).2 h)) b ((Aw e c).1 hb) (M b z)
  ·rcases k2 b hb with h|h|h|h
   ·exact G b h
   ·exact .inr (.inl (bT d.ext.size h))
   ·obtain⟨_,_,h,_⟩:=h;cases h
   ·exact .inr (n b h)
  ·rcases M b hb with h|h
   ·exact .inl (bT d.ext.size h)
   ·exact n b h
theorem Qw{V:View}{a:Act}{L:List (Nat×E)}(h:Inv TB Z V σ)(c:Nu σ f L)(i:FN V o f a):FN (DK V σ) o (look L) a:=λt e ht b=>by
 obtain⟨y,g,d⟩:=c.get t e b;exact d.rel h (i t y ht g)
theorem BH.Kl{K:E->Ab->Nat->Prop}(L:List (Nat×E))(r:Nu σ f L)(h:∀Z',BH P TB Z' o (look L) [] nx (λx b d=>(E.Fe x/\Y8 b)/\K x (b++σ) d)):BH P TB Z o f σ nx K:=by
 intro V a u c t;obtain⟨S,m,k,l⟩:=c.hid;refine Oper.wp_mono ?_ (h (Dj (DK V σ) (DK V σ) [] S) (DK V σ) a (Qw c r u) (Ny c m) t);rintro a' w' ⟨V',v,x,σ',rfl,rfl,q,hi,n,⟨g,i⟩,p⟩;obtain⟨V3,s,e,j⟩:=LX c m k l q hi i;exact⟨V3,v,x,_,s.w,rfl,e,j,n.Fe s g,by rw [s.nx];exact p⟩
theorem AP.Kl{x:E}(L:List (Nat×E))(n:Nu σ f L)(h:∀Z',AP P TB Z' o (look L) [] nx x)(c:x.Fe):AP P TB Z o f σ nx x:=by
 intro V a q b p;obtain⟨S,k,i,j⟩:=b.hid;refine Oper.wp_mono ?_ (h (Dj (DK V σ) (DK V σ) [] S) (DK V σ) a (Qw b n q) (Ny b k) p);rintro a' w' ⟨V',v,rfl,rfl,m,hi,l,d⟩;obtain⟨V3,s,e,g⟩:=LX b k i j m hi (λx d=>by cases d);exact⟨V3,v,s.w,rfl,e,g,by rw [s.nx];exact l,d.Fe s c⟩
end
def HU(σ:Ab):List Nat->Ab
 | []=>[]
 | i::r=>match look σ i with
  | some o=>(i,o)::HU σ r
  | none=>HU σ r
theorem Fh{σ:Ab}:∀ {ids:List Nat} {id:Nat} {o:O},look (HU σ ids) id=some o->id∈ids/\look σ id=some o
 | [],_,_,h=>by cases h
 | i :: r,id,o,h=>by
  unfold HU at h;split at h
  ·rename_i o' a
   rw [Ak] at h;by_cases hi:i=id
   ·rw [if_pos hi] at h;injection h with h;subst h;subst hi;exact⟨d5 ..,a⟩
   ·rw [if_neg hi] at h
    have:=Fh h;exact⟨cC _ this.1,this.2⟩
  ·have:=Fh h
   exact⟨cC _ this.1,this.2⟩
def Sc(σi:Ab)(f:Env):List (Nat×E)->Prop
 | []=>True
 | (t,e')::L=>(∃e,f t=some e/\(e=e'\/EZ σi e e'))/\Sc σi f L
theorem Sc.get{σi:Ab}{f:Env}:∀ {L:List (Nat×E)},Sc σi f L->∀t e',look L t=some e'->∃e,f t=some e/\(e=e'\/EZ σi e e')
 | [],_,t,e,h=>by cases h
 | (k,x)::L,b,t,e,h=>by
  rw [Ak] at h;by_cases a:k=t
  ·rw [if_pos a] at h;injection h with h;subst h;subst a;exact b.1
  ·rw [if_neg a] at h;exact Sc.get b.2 t e h
theorem Al.MI{c:Code}{Q:Exit->Env->Ab->Nat->Prop}{f:Env}{nx:Nat}(ids:List Nat)(L:List (Nat×E))(w:Sc (HU σ ids) f L)(h:Al P TB Z N c Q (look L) (Bt ids σ) nx):Al P TB Z N c Q f σ nx:=by
 intro V a l;have hi:=l.inv;have i:∀id o,look (HU σ ids) id=some o->look σ id=some o:=λid o h=>(Fh h).2;have u:Inv TB Z V (HU σ ids):=hi.sub i;have e:Ext V (DK V (HU σ ids)):=Jx;refine h (DK V (HU σ ids)) a ⟨λt x p=>?_,λt x p=>?_,l.size,?_,l.nx,l.defers⟩
 ·obtain⟨y,q,g⟩:=w.get t x p
  rcases g with rfl|g
  ·exact(l.env t _ q).ext e
  ·exact g.rel u (l.env t y q)
 ·obtain⟨y,q,_⟩:=w.get t x p
  exact l.lt t y q
 ·refine⟨hi.os,hi.tape,hi.output,hi.old,?_,?_,hi.ext.trans e,⟨?_,?_,?_,?_⟩,?_,λx p=>⟨.inl (hi.tabs x p).1,(hi.tabs x p).2⟩,hi.hid.same rfl (λ_ h=>.inl h) (λb hb=>hb.elim .inl λ⟨id,o,d,j,v⟩=>.inr ⟨id,o,i _ _ d,j,v⟩) λb ⟨id,o,d,j,hb⟩=>have g:=(A3 ids σ id o d).2;⟨id,o,g,j,(Aw e (hi.st.lt id o g)).1 hb⟩⟩
  ·rintro b (hb|⟨id,o,d,j,hb⟩)
   ·exact hi.iLt b hb
   ·exact(hi.st.obj id o (i _ _ d)).blt j hb
  ·rintro b (hb|⟨id,o,d,j,hb⟩)
   ·exact hi.iNew b hb
   ·exact .inr (hi.live id o (i _ _ d) j b hb)
  ·intro id o d
   have:=(A3 ids σ id o d).2;exact(hi.st.obj id o this).AU e (hi.st.lt id o this) λ_ _ _=>rfl
  ·intro id o d;exact hi.st.lt id o (A3 ids σ id o d).2
  ·intro id o d j b k hb
   obtain⟨q,g⟩:=A3 ids σ id o d;have k:=(Aw e (hi.st.lt id o g)).1 k
   rcases hb with hb|⟨id',o',n,m,v⟩
   ·exact hi.st.free id o g j b k hb
   ·have z:=Fh n
    exact hi.st.inj id id' o o' g z.2 (λe=>q (e ▸ z.1)) j m b k v
  ·intro id id' o o' d n s j m b hb k
   have g:=(A3 ids σ id o d).2;have r:=(A3 ids σ id' o' n).2;exact hi.st.inj id id' o o' g r s j m b ((Aw e (hi.st.lt id o g)).1 hb) ((Aw e (hi.st.lt id' o' r)).1 k)
  ·intro id o d j b hb
   have g:=(A3 ids σ id o d).2;exact hi.live id o g j b ((Aw e (hi.st.lt id o g)).1 hb)
theorem FZ.aV{a s:Nat}{T Ta:TypeId}{l:GC}(ha:look σ a=some (.cells Ta 1 (A0 l)))(e:look σ s=some (.sld T (sI l))):FZ σ (.arr a 1 0 l.length) (CG (l.map (·.2))):=by
 refine .rows ha (by simp) (Dz l) λi r' hi=>?_;simp only [bG,br] at hi;obtain⟨x,⟨y,b,rfl⟩,rfl⟩:=hi;refine⟨[.d (.v y.1)],by simp [A0,b],.cons ?_ .nil⟩;have c:FZ σ (.d (.v y.1)) (.l ((y.2.map (Value.int .i64)).map λx=>[D.v x])):=.sld e (bB.2 ⟨y,bm b,rfl⟩);rw [c6] at c;exact c
theorem Al.WD{c:Code}{Q:Exit->Env->Ab->Nat->Prop}{f:Env}{nx:Nat}(a i s:Nat)(l:GC)(xs:List Int)(ha:look σ a=some (.cells Ta 1 (A0 l++[[.arr i 1 0 xs.length]])))(hi:look σ i=some (.cells T 1 (HT xs)))(b:look σ s=some (.sld T (sI l)))
 (h:∀v,Al P TB Z N c Q f ((a,.cells Ta 1 (A0 (l++[(v,xs)])))::(s,.sld T (sI (l++[(v,xs)])))::kill i σ) nx):Al P TB Z N c Q f σ nx:=
 Al.put a i s (A0 l) [] xs l [] ha hi (by rw [cF];exact b) λv=>by
  have:=h v;rw [HW] at this;exact this
theorem Th{l:GC}{k:Nat}{y:Value×List Int}(h:l[k]? = some y):l=l.take k++y::l.drop (k+1)/\(l.take k).length=k:=by
 obtain⟨a,rfl⟩:=am.1 h;refine⟨?_,by rw [dK];omega⟩;rw [<-dq a,cJ]
theorem Ni{α:Type}{l1 l2:List α}{x y:α}{k:Nat}(h:l1.length=k):(l1++x::l2).set k y=l1++y::l2:=by
 subst h;simp
theorem Al.WX{c:Code}{Q:Exit->Env->Ab->Nat->Prop}{f:Env}{nx:Nat}(a s:Nat)(l:GC)(k:Nat)(y:Value×List Int)(i:l[k]? = some y)(ha:look σ a=some (.cells Ta 1 (A0 l)))(g:look σ s=some (.sld T (sI l)))
 (h:Al P TB Z N c Q f ((a,.cells Ta 1 ((A0 l).set k [.arr nx 1 0 y.2.length]))::(nx,.cells T 1 (HT y.2))::(s,.sld T (sI (l.eraseIdx k)))::σ) (nx+1)):Al P TB Z N c Q f σ nx:=by
 obtain⟨b,j⟩:=Th i;obtain⟨v,xs⟩:=y
 have e:A0 l=A0 (l.take k)++[.d (.v v)]::A0 (l.drop (k+1)):=by
  have:=congrArg A0 b;rw [HW] at this;exact this
 refine Al.take a s (A0 (l.take k)) (A0 (l.drop (k+1))) v xs (l.take k) (l.drop (k+1)) (by rw [<-e];exact ha) (by rw [<-b];exact g) ?_
 have n:(A0 l).set k [.arr nx 1 0 xs.length]=A0 (l.take k)++[.arr nx 1 0 xs.length]::A0 (l.drop (k+1)):=by
  rw [e,Ni (by rw [Dz,j])]
 have m:l.eraseIdx k=l.take k++l.drop (k+1):=ef ..;rw [n,m] at h;exact h
theorem Al.putAt{c:Code}{Q:Exit->Env->Ab->Nat->Prop}{f:Env}{nx:Nat}(a i s:Nat)(l:GC)(k:Nat)(y:Value×List Int)(j:l[k]? = some y)(xs:List Int)(ha:look σ a=some (.cells Ta 1 ((A0 l).set k [.arr i 1 0 xs.length])))(hi:look σ i=some (.cells T 1 (HT xs)))(b:look σ s=some (.sld T (sI (l.eraseIdx k))))
 (h:∀v,Al P TB Z N c Q f ((a,.cells Ta 1 (A0 (l.set k (v,xs))))::(s,.sld T (sI (l.set k (v,xs))))::kill i σ) nx):Al P TB Z N c Q f σ nx:=by
 obtain⟨g,e⟩:=Th j
 have o:A0 l=A0 (l.take k)++[.d (.v y.1)]::A0 (l.drop (k+1)):=by
  have:=congrArg A0 g;rw [HW] at this;exact this
 rw [o,Ni (by rw [Dz,e])] at ha;rw [show l.eraseIdx k=l.take k++l.drop (k+1) from ef ..] at b;refine Al.put a i s (A0 (l.take k)) (A0 (l.drop (k+1))) xs (l.take k) (l.drop (k+1)) ha hi b λv=>?_
 have n:l.set k (v,xs)=l.take k++(v,xs)::l.drop (k+1):=by
  have this:l.set k (v,xs)=(l.take k++y::l.drop (k+1)).set k (v,xs):=congrArg (λm=>List.set m k (v,xs)) g;rw [this,Ni e]
 have:=h v;rw [n,HW] at this;exact this
theorem AR.AN{g:FuncId}{m nx:Nat}{args:List E}{post:E->Ab->Nat->Prop}
 (h:AR P TB g m σ nx args (λx d c=>∃(l:List Nat) (x':E) (a:Ab),((∀i,i < m->l[i]? = some i)/\l.Nodup)/\x=x'.AN (nm l c)/\AL (nm l c) d a/\post x' a l.length)):AR P TB g m σ nx args post:=
 ⟨h.1, λV vs S n ha=>(h.2 V vs S n ha).mono λe w' ⟨V',v,x,σ',w,u,s,r,l,x',a,j,q,p,o⟩=>by
  have k:Bv TB (Dj V (IA V m) σ S) 1 V' (look [(0,x)]) σ' V'.nx { tmps:=#[v],defers:=[] } := by
   refine⟨λt y b=>?_,λt y b=>?_,rfl,s,rfl,rfl⟩
   ·rw [Ak] at b
    by_cases ht:0=t
    ·rw [if_pos ht] at b;injection b with b;subst b;subst ht;exact r
    ·rw [if_neg ht] at b;cases b
   ·rw [Ak] at b
    by_cases ht:0=t
    ·subst ht;exact Nat.zero_lt_one
    ·rw [if_neg ht] at b;cases b
  obtain⟨V'',z,f⟩:=k.AN l [(0,x')] a j.1 j.2 ⟨by rw [<-q];rfl,trivial⟩ p;refine⟨V'',v,x',a,w,z.trans u,f.inv,f.env 0 x' rfl,?_⟩
  rw [f.nx];exact o⟩
theorem av{m:Nat}{σ σ':Ab}(i:Nat)(a:m=2 ^ i)(h:look σ' i=look σ i):Kept m σ σ':=λid hb=>by
 subst a;rw [Nat.testBit_two_pow] at hb;have:i=id:=of_decide_eq_true hb;subst this;exact h
theorem eR [j:BY P] {g:FuncId} {fn:Func} {c:Code} {nx:Nat} {args:List E} {post:E->Ab->Nat->Prop} (f:P.funcs[g]? = some fn) (hb:fn.body=some c) (a:(fn.name == "runtime.NumGoroutine")=false)
 (ha:Nat.ble args.length fn.ntmps=true) (h:∀Z:Ctx,Z.V.nx=nx->Al P TB Z fn.ntmps c (Sg j.T fn.results (λx e d=>∃(l:List Nat) (x':E) (b:Ab),((∀i,i < nx->l[i]? = some i)/\l.Nodup)/\x=x'.AN (nm l d)/\AL (nm l d) e b/\post x' b l.length)) (look (Br 0 args)) σ nx):Spec P TB g σ nx args post:=
 AR.ED (AR.AN (AR.Tj (bJ _) f hb a (bn ha) h))
end
theorem cN:(∀(r:Nat->Nat) (l:GC),(A0 l).map (C.Bh r)=A0 l)/\(∀(α:Type) (b:Bool) (x y:α),(bif b then x else y)=if b=true then x else y)/\∀a b:Nat,(Nat.beq a b=true)=(a=b):=
 ⟨TD,λ_ b _ _=>by cases b<;>rfl,λ_ _=>Nat.beq_eq⟩
end Go.Am
namespace Go.Am
open Go Go.Proofs
set_option maxHeartbeats 1000000
set_option maxRecDepth 4000
attribute [local irreducible] AP BH Lex A4 Al Spec
variable {TB:Bg}
abbrev SA(al:Int)(i j:Nat)(n m:Nat):E:=.a [.d (iD al),.arr i 1 0 n,.arr j 1 0 m]
end Go.Am
namespace Go.Am
open Go
set_option linter.unusedVariables false
variable {TB:Bg}
section
variable {P:Program}{Z:Ctx}{d:Option Tmp}{ty:TypeId}{pos:String}{af:Array Edge}{g:Option (Nat×Bool)}{f:Env}{σ:Ab}{nx:Nat}
end
theorem ZE{P:Program}{Z:Ctx}{ops:Array Oper}{fl:Fl}{i n:Nat}{L:List (Nat×E)}{σ:Ab}{nx:Nat}{K:Env->Ab->Nat->Prop}{op:Op}{ty:TypeId}{pos:String}{af:Array Edge}{g:Option (Nat×Bool)}
 (h:BH P TB Z ⟨none,op,ty,pos,af,g⟩ (look L) σ nx (λ_ σ' nx'=>Kept (fl i - 1000) σ σ'/\Lex P TB Z ops (Af fl (i+1) n) K (look L) σ' nx')) (b:A8 ops ⟨none,op,ty,pos,af,g⟩ (look L)=some true) (c:Nat.ble 10 (fl i)=true/\Nat.ble 1000 (fl i)=true):A4 P TB Z ops ⟨none,op,ty,pos,af,g⟩ fl i n K L σ nx:=
 λa=>UL a b c h
end Go.Am
namespace Go.Am
open Go Go.Proofs
set_option maxHeartbeats 1000000
set_option maxRecDepth 4000
attribute [local irreducible] AP BH Lex A4 Al Spec
variable {TB:Bg}
structure ZV (m:Nat) (a:A5):Prop where
 nx:a.nx.length<=m
 ac:a.ac.length<=m
 row:∀r∈a.nx,r.length<=m
def JM(a:A5)(x:E)(σ:Ab)(nx:Nat):Prop:=∃l:GC,l.map (·.2)=a.nx/\
 x=SA a.al 0 1 l.length a.ac.length/\σ=[(0,.cells 53 1 (A0 l)),(1,.cells 4 1 (a.ac.map AB)),(2,.sld 3 (sI l))]/\nx=3
end Go.Am
namespace Go.Am
open Go
class ZW (P:Program) (t:TypeId) (n:outParam Nat) (q:outParam IntKind):Prop where
 u:∃e,WideMaps.ArrKey P t e n/\P.underlying e=some (.int q)
 eg:P.eqGuardType P.depth t=false
 sz:P.types.size≠0
section
variable {P:Program}{t:TypeId}{n:Nat}{q:IntKind}
end
section
variable {P:Program}{TB:Bg}{Z:Ctx}{d:Option Tmp}{ty:TypeId}{pos:String}{af:Array Edge}{g:Option (Nat×Bool)}{f:Env}{σ:Ab}{nx:Nat}
variable {K:E->Ab->Nat->Prop}{t:TypeId}{n:Nat}{q:IntKind}
end
end Go.Am
namespace Go.Am
open Go Go.Proofs
set_option maxHeartbeats 1000000
set_option maxRecDepth 4000
attribute [local irreducible] AP BH Lex A4 Al Spec
variable {TB:Bg}
end Go.Am
namespace Go.Am
open Go
set_option linter.unusedVariables false
section
variable {P:Program}{TB:Bg}{Z:Ctx}{d:Option Tmp}{ty:TypeId}{pos:String}{af:Array Edge}{g:Option (Nat×Bool)}{f:Env}{σ:Ab}{nx:Nat}
end
abbrev YN(r:Nat):C:=.d (.v (.pointer (some ⟨r,0,none⟩)))
inductive CH (i r:Nat):C->C->Prop
 | AU {c:C}:CH i r c c
 | ptr {k:Nat}:CH i r (.ptr i k 0 0) (YN r)
 | mv {gg:FuncId} {k:Nat}:CH i r (.mv gg [.ptr i k 0 0]) (.mv gg [YN r])
inductive LH (i r:Nat):List C->List C->Prop
 | nil:LH i r [] []
 | cons {c c':C} {l l':List C}:CH i r c c'->LH i r l l'->LH i r (c::l) (c'::l')
inductive EH (i r:Nat):E->E->Prop
 | AU {e:E}:EH i r e e
 | o {c c':C}:CH i r c c'->EH i r (.o c) (.o c')
 | a {l l':List C}:LH i r l l'->EH i r (.a l) (.a l')
section
variable {P:Program}{tabs:List (Nat×Obj)}{Z:Ctx}{N:Nat}{σ:Ab}
end
end Go.Am
namespace Go.Am
open Go
set_option linter.unusedVariables false
variable {TB:Bg}
section
variable {P:Program}{Z:Ctx}{N:Nat}{σ:Ab}
def Nf:C->Bool
 | .d (.v _)|.d (.l [])|.arr .. => true
 | _=>false
theorem IH{V:View}{c:C}{v:Value}(h:Nf c=true)(a:AA V c v):KQ v=true:=by
 cases a with
 | d b=>
  cases b with
  | v f=>exact f
  | nil=>rfl
  | e=>rfl
  | l=>rfl
  | p=>simp [Nf] at h
 | nil=>rfl
 | arr=>rfl
 | ptr=>simp [Nf] at h
 | fn=>simp [Nf] at h
 | mp=>simp [Nf] at h
 | mv=>simp [Nf] at h
theorem Al.YM{c:Code}{Q:Exit->Env->Ab->Nat->Prop}{f:Env}{nx:Nat}(a:Nat){T:TypeId}{s q p:C}(ha:look σ a=some (.cells T 3 [[s,q,p]]))(n:Nf s=true/\Nf q=true/\Nf p=true)
 (h:∀l k g,Al P TB Z N c Q f ((a,.cells T 3 [[.d (.v l),.d (.v k),.d (.v g)]])::σ) nx):Al P TB Z N c Q f σ nx:=by
 intro V ac b;have hi:=b.inv
 rcases hi.st.obj a _ ha with ⟨_,B⟩|⟨t,cur,A,z,y,x,I,o⟩
 ·cases B
 ·obtain⟨l,H,k0⟩:=o 0 _ 0 s rfl rfl
  obtain⟨k,G,k1⟩:=o 0 _ 1 q rfl rfl;obtain⟨g,F,k2⟩:=o 0 _ 2 p rfl rfl
  have m:BF V a (.cells T 3 [[.d (.v l),.d (.v k),.d (.v g)]]):=by
   refine .inr ⟨t,cur,A,z,y,x,λr b=>by simp at b;subst b;rfl,λi r j c hi e=>?_⟩
   match i with
   | 0=>
    simp at hi;subst hi
    match j with
    | 0=>simp at e;subst e;exact⟨l,H,.d (.v (IH n.1 k0))⟩
    | 1=>simp at e;subst e;exact⟨k,G,.d (.v (IH n.2.1 k1))⟩
    | 2=>simp at e;subst e;exact⟨g,F,.d (.v (IH n.2.2 k2))⟩
    | j+3=>simp at e
   | i+1=>simp at hi
  have u:=(hi.write ha t (w:=V.w) (ob':=.cells T 3 [[.d (.v l),.d (.v k),.d (.v g)]]) rfl rfl rfl rfl rfl rfl (λ_ _=>rfl) m).1;exact h l k g V ac ⟨b.env,b.lt,b.size,u,b.nx,b.defers⟩
end
end Go.Am
