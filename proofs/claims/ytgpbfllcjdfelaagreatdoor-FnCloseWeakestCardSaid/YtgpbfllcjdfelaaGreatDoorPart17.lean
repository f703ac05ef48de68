/-
  Arrays of arrays of the call's own: the inner ones lie sealed, one of them at a time is taken out and put back.
-/
import Derived.Test.YtgpbfllcjdfelaaGreatDoorPart14
import Derived.Test.YtgpbfllcjdfelaaGreatDoorPart13
set_option linter.all false
namespace Go.Am
open Go
abbrev HN:=List (Value×List Int)
def sI(l:HN):List (Value×List Value):=l.map λx=>(x.1,x.2.map (.int .i64))
def AA(l:HN):List (List C):=l.map λx=>[.d (.v x.1)]
abbrev Jx(xs:List Int):List (List C):=xs.map AE
theorem aq{V:View}{i k off n:Nat}{v:Value}(h:Az V (.arr i k off n) v):(V.nl i/\off=0/\n=0/\v=.slice none 0 0)\/(¬V.nl i/\off+n<=V.cap i/\v=.slice (some ⟨V.ρ i,off*k,none⟩) n (V.cap i - off)):=by
 cases h with
 | nil _ h=>exact .inl ⟨h,rfl,rfl,rfl⟩
 | arr _ b a=>exact .inr ⟨b,a,rfl⟩
theorem IX(l m:HN):sI (l++m)=sI l++sI m:=lR
theorem AQ(l m:HN):AA (l++m)=AA l++AA m:=lR
theorem Cr(l:HN):(AA l).length=l.length:=gc _
theorem Rx(r:Nat->Nat)(l:HN):(AA l).map (C.BH r)=AA l:=by
 unfold AA;rw [lK];rfl
theorem YS(l:List Int):(Jx l).length=l.length:=gc _
section
variable {P:Program}{TB:Bp}{Γ:Ctx}{N:Nat}{V:View}{σ:Ab}{a i s:Nat}{T Ta:TypeId}{R1 R2:List (List C)}{xs:List Int}{l1 l2:HN}
theorem Tl{l:HN}{x:Value×List Value}(h:x∈sI l):∃y∈l,x=(y.1,y.2.map (.int .i64)):=by
 obtain⟨y,a,rfl⟩:=d8.1 h;exact⟨y,a,rfl⟩
theorem Inv.put(h:Inv TB Γ V σ)(ha:look σ a=some (.cells Ta 1 (R1++[.arr i 1 0 xs.length]::R2)))(hi:look σ i=some (.cells T 1 (Jx xs)))(N:look σ s=some (.sld T (sI (l1++l2)))) :
 ∃v,Inv TB Γ V ((a,.cells Ta 1 (R1++[.d (.v v)]::R2))::(s,.sld T (sI (l1++(v,xs)::l2)))::kill i σ):=by
 have has:a≠s:=λe=>by rw [e,N] at ha;cases ha
 have Y:i≠s:=λe=>by rw [e,N] at hi;cases hi
 have hai:a≠i:=λe=>by
  rw [e,hi] at ha
  injection ha with ha;injection ha with _ _ ha
  have A:(Jx xs)[R1.length]? = some [.arr i 1 0 xs.length]:=by rw [ha];simp
  rw [d9,d6] at A;obtain⟨x,_,z⟩:=A;cases z
 rcases h.st.obj a _ ha with ⟨_,h0⟩|⟨hna,cur,Q,M,h4,h5,h6,h7⟩
 ·simp at h0
 obtain⟨v,hv,P⟩:=h7 R1.length [.arr i 1 0 xs.length] 0 (.arr i 1 0 xs.length) (by simp) rfl;have P:=aq P
 have hsl:Nn v=true:=by rcases P with ⟨_,_,_,rfl⟩|⟨_,_,rfl⟩<;>rfl
 have H:∀b,IF v b->¬V.nl i/\b=V.ρ i:=by
  rintro b ⟨o,n,c,rfl⟩
  rcases P with ⟨_,_,_,hw⟩|⟨m,_,hw⟩
  ·cases hw
  ·injection hw with hw;injection hw with hw;injection hw with hw;exact⟨m,hw⟩
 have J:I8 V.w T v (xs.map (.int .i64)):=by
  rcases h.st.obj i _ hi with ⟨F,u⟩|⟨hni,cur',u,B,g4,g5,g6,g7⟩
  ·have:xs=[]:=by simpa using u
   subst this
   rcases P with ⟨_,_,_,rfl⟩|⟨m,_⟩
   ·exact .inl ⟨rfl,rfl⟩
   ·exact absurd F m
  ·rcases P with ⟨m,_⟩|⟨_,hle,rfl⟩
   ·exact absurd m hni
   ·refine .inr ⟨V.ρ i,V.cap i,cur',by simp,u,by simpa using B,by rw [YS] at g4;simpa using g4,g5,λj x L=>?_⟩
    rw [d9,d6] at L;obtain⟨n,m,rfl⟩:=L;obtain⟨w,hw,hcw⟩:=g7 j [.d (.v (.int .i64 n))] 0 (.d (.v (.int .i64 n))) (by simp [Jx,m]) rfl;have:w=.int .i64 n:=Az.val hcw;subst this;exact⟨by simpa using hw,rfl⟩
 refine⟨v,?_⟩;have look':∀id o,look ((a,.cells Ta 1 (R1++[.d (.v v)]::R2))::(s,.sld T (sI (l1++(v,xs)::l2)))::kill i σ) id=some o->
  (id=a/\o=.cells Ta 1 (R1++[.d (.v v)]::R2))\/(id=s/\o=.sld T (sI (l1++(v,xs)::l2)))\/(id≠a/\id≠s/\id≠i/\look σ id=some o):=λid o f=>by
  rw [Av] at f;by_cases A:a=id
  ·rw [if_pos A] at f;injection f with f;exact .inl ⟨A.symm,f.symm⟩
  ·rw [if_neg A,Av] at f
   by_cases Q:s=id
   ·rw [if_pos Q] at f;injection f with f;exact .inr (.inl ⟨Q.symm,f.symm⟩)
   ·rw [if_neg Q,Ej] at f
    by_cases M:id=i
    ·rw [if_pos M] at f;cases f
    ·rw [if_neg M] at f;exact .inr (.inr ⟨Ne.symm A,Ne.symm Q,M,f⟩)
 have hsb:∀b,DL V s (.sld T (sI (l1++(v,xs)::l2))) b->DL V s (.sld T (sI (l1++l2))) b\/(¬V.nl i/\b=V.ρ i):=by
  rintro b ⟨x,z,hb⟩;obtain⟨y,l,rfl⟩:=Tl z
  rcases em.1 l with l|l
  ·exact .inl ⟨_,d8.2 ⟨y,kN _ l,rfl⟩,hb⟩
  ·rcases kw.1 l with rfl|l
   ·exact .inr (H b hb)
   ·exact .inl ⟨_,d8.2 ⟨y,kV _ l,rfl⟩,hb⟩
 have p:=h.st.obj s _ N
 have G:∀x∈sI (l1++l2),∀b,IF x.1 b->¬IF v b:=λx z b hb t=>by
  obtain⟨m,rfl⟩:=H b t;exact h.st.inj s i _ _ N hi (Ne.symm Y) p.1 m _ ⟨x,z,hb⟩ rfl
 have src:∀id o,look ((a,.cells Ta 1 (R1++[.d (.v v)]::R2))::(s,.sld T (sI (l1++(v,xs)::l2)))::kill i σ) id=some o->¬V.nl id->∀b,DL V id o b->∃g I,look σ g=some I/\¬V.nl g/\DL V g I b/\(g=id\/g=i/\id=s):=λid o f m b hb=>by
  rcases look' id o f with ⟨rfl,rfl⟩|⟨rfl,rfl⟩|⟨_,_,_,f⟩
  ·exact⟨_,_,ha,m,hb,.inl rfl⟩
  ·rcases hsb b hb with hb|⟨A,rfl⟩
   ·exact⟨_,_,N,m,hb,.inl rfl⟩
   ·exact⟨_,_,hi,A,rfl,.inr ⟨rfl,rfl⟩⟩
  ·exact⟨_,_,f,m,hb,.inl rfl⟩
 have noi:∀id o,look ((a,.cells Ta 1 (R1++[.d (.v v)]::R2))::(s,.sld T (sI (l1++(v,xs)::l2)))::kill i σ) id=some o->id≠i:=λid o f=>by
  rcases look' id o f with ⟨rfl,rfl⟩|⟨rfl,rfl⟩|⟨_,_,M,_⟩
  ·exact hai
  ·exact Ne.symm Y
  ·exact M
 refine⟨h.os,h.tape,h.output,h.old,h.iLt,h.iNew,h.ext,⟨λid o f=>?_,λid o f=>?_,λid o f m b hb=>?_,λid id' o o' f S X m hn' b hb t=>?_⟩,λid o f m b hb=>?_,h.tabs,h.hid.same rfl (λ_ h=>h) (λ_ h=>.inl h) λb ⟨id,o,f,m,hb⟩=>let ⟨g,I,F,u,B,_⟩:=src id o f m b hb;⟨g,I,F,u,B⟩⟩
 ·rcases look' id o f with ⟨rfl,rfl⟩|⟨rfl,rfl⟩|⟨_,_,_,f⟩
  ·refine .inr ⟨hna,cur,Q,M,by simpa using h4,h5,λr K=>?_,λq r j c hq L=>?_⟩
   ·rcases em.1 K with K|K
    ·exact h6 r (kN _ K)
    ·rcases kw.1 K with rfl|K
     ·rfl
     ·exact h6 r (kV _ (kP _ K))
   ·by_cases hq0:q=R1.length
    ·subst hq0
     simp at hq;subst hq
     have hj0:j=0:=by have:=(am.1 L).1;simp at this;omega
     subst hj0;simp at L;subst L;exact⟨v,hv,.d (.v hsl)⟩
    ·refine h7 q r j c ?_ L
     rw [<-hq]
     rcases lc q R1.length with Z|Z
     ·rw [f9 Z,f9 Z]
     ·rw [ge Z,ge Z]
      obtain⟨k,hk⟩:∃k,q - R1.length=k+1:=⟨q - R1.length - 1,by omega⟩
      rw [hk];rfl
  ·refine⟨p.1,?_,λx z=>?_⟩
   ·have hp:=p.2.1
    rw [IX,l7] at hp;rw [IX,l7];refine⟨hp.1,lg.2 ⟨λy l b hb t=>G y (by rw [IX];exact kV _ l) b t hb,hp.2.1⟩,λx z y l=>?_⟩
    rcases kw.1 l with rfl|l
    ·exact λb hb=>G x (by rw [IX];exact kN _ z) b hb
    ·exact hp.2.2 x z y l
   ·obtain⟨y,l,rfl⟩:=Tl z
    rcases em.1 l with l|l
    ·exact p.2.2 _ (d8.2 ⟨y,kN _ l,rfl⟩)
    ·rcases kw.1 l with rfl|l
     ·exact J
     ·exact p.2.2 _ (d8.2 ⟨y,kV _ l,rfl⟩)
  ·exact h.st.obj id o f
 ·rcases look' id o f with ⟨rfl,rfl⟩|⟨rfl,rfl⟩|⟨_,_,_,f⟩
  ·exact h.st.lt _ _ ha
  ·exact h.st.lt _ _ N
  ·exact h.st.lt _ _ f
 ·obtain⟨g,I,F,u,B,_⟩:=src id o f m b hb
  exact h.st.free _ _ F u b B
 ·obtain⟨g,I,F,u,B,g4⟩:=src id o f m b hb
  obtain⟨R,o0',g1',g2',g3',g4'⟩:=src id' o' S hn' b t;refine h.st.inj g R _ _ F g1' ?_ u g2' b B g3';have n1:=noi id o f;have n2:=noi id' o' S;rintro rfl
  rcases g4 with rfl|⟨rfl,rfl⟩<;>rcases g4' with rfl|⟨e1,rfl⟩
  ·exact X rfl
  ·exact n1 e1
  ·exact n2 rfl
  ·exact X rfl
 ·obtain⟨g,I,F,u,B,_⟩:=src id o f m b hb
  exact h.live _ _ F u b B
theorem Aj.put{c:Code}{Q:Exit->Env->Ab->Nat->Prop}{f:Env}{nx:Nat}(a i s:Nat)(R1 R2:List (List C))(xs:List Int)(l1 l2:HN)(ha:look σ a=some (.cells Ta 1 (R1++[.arr i 1 0 xs.length]::R2)))(hi:look σ i=some (.cells T 1 (Jx xs)))(g:look σ s=some (.sld T (sI (l1++l2))))
 (h:∀v,Aj P TB Γ N c Q f ((a,.cells Ta 1 (R1++[.d (.v v)]::R2))::(s,.sld T (sI (l1++(v,xs)::l2)))::kill i σ) nx):Aj P TB Γ N c Q f σ nx:=by
 intro V ac b;obtain⟨v,e⟩:=b.inv.put ha hi g;exact h v V ac ⟨b.env,b.lt,b.size,e,b.nx,b.defers⟩
theorem Inv.take{v:Value}(h:Inv TB Γ V σ)(ha:look σ a=some (.cells Ta 1 (R1++[.d (.v v)]::R2)))(hs:look σ s=some (.sld T (sI (l1++(v,xs)::l2)))) :
 ∃V',V'.w=V.w/\V'.nx=V.nx+1/\Ext V V'/\Inv TB Γ V' ((a,.cells Ta 1 (R1++[.arr V.nx 1 0 xs.length]::R2))::(V.nx,.cells T 1 (Jx xs))::(s,.sld T (sI (l1++l2)))::σ):=by
 have has:a≠s:=λe=>by rw [e,hs] at ha;cases ha
 have p:=h.st.obj s _ hs;have hsn:=h.st.lt _ _ hs;have l:=h.st.lt _ _ ha;have K:((v,xs.map (.int .i64)):Value×List Value)∈sI (l1++(v,xs)::l2):=d8.2 ⟨(v,xs),by simp,rfl⟩
 obtain⟨u,cap,nl,hb0,hcr,hob⟩:∃u cap nl,(¬nl->IF v u)/\Az (Al V u cap nl V.w) (.arr V.nx 1 0 xs.length) v/\Cb (Al V u cap nl V.w) V.nx (.cells T 1 (Jx xs)):=by
  rcases p.2.2 _ K with ⟨m,G⟩|⟨b,cap,cur,m,G,z,h4,h5,h6⟩
  ·have m:v=.slice none 0 0:=m
   have hx0:xs=[]:=by simpa using G
   subst m;subst hx0;exact⟨0,0,True,λh=>absurd trivial h,.nil (by simp [Al]) (by simp [Al]),.inl ⟨by simp [Al],rfl⟩⟩
  ·have m:v=.slice (some ⟨b,0,none⟩) (xs.map (Value.int .i64)).length cap:=m
   rw [gc] at m h4;refine⟨b,cap,False,λ_=>⟨_,_,_,m⟩,?_,.inr ⟨by simp [Al],cur,by simpa [Al] using G,by simpa [Al] using z,by simpa [Al] using h4,by simpa [Al] using h5,λr A=>?_,λq r j c Z L=>?_⟩⟩
   ·rw [m]
    have:=@Az.arr (Al V b cap False V.w) V.nx 1 0 xs.length (by simp [Al]) (by simp [Al]) (by simpa [Al] using h4)
    simpa [Al] using this
   ·obtain⟨n,_,rfl⟩:=d8.1 A;rfl
   ·rw [d9,d6] at Z
    obtain⟨n,t,rfl⟩:=Z
    have R:j=0:=by have:=(am.1 L).1;simp at this;omega
    subst R;simp at L;subst L;exact⟨.int .i64 n,by simpa using (h6 q (.int .i64 n) (by simp [t])).1,.d (.v rfl)⟩
 have e:Ext V (Al V u cap nl V.w):=DS (i7 _) λ_ _=>rfl
 have hρ:(Al V u cap nl V.w).ρ V.nx=u:=by simp [Al]
 have hnl:(Al V u cap nl V.w).nl V.nx↔nl:=by simp [Al]
 refine⟨Al V u cap nl V.w,rfl,rfl,e,?_⟩;have look':∀id o,look ((a,.cells Ta 1 (R1++[.arr V.nx 1 0 xs.length]::R2))::(V.nx,.cells T 1 (Jx xs))::(s,.sld T (sI (l1++l2)))::σ) id=some o->
  (id=a/\o=.cells Ta 1 (R1++[.arr V.nx 1 0 xs.length]::R2))\/(id=V.nx/\o=.cells T 1 (Jx xs))\/(id=s/\o=.sld T (sI (l1++l2)))\/(id≠a/\id≠s/\look σ id=some o):=λid o f=>by
  rw [Av] at f;by_cases m:a=id
  ·rw [if_pos m] at f;injection f with f;exact .inl ⟨m.symm,f.symm⟩
  ·rw [if_neg m,Av] at f
   by_cases G:V.nx=id
   ·rw [if_pos G] at f;injection f with f;exact .inr (.inl ⟨G.symm,f.symm⟩)
   ·rw [if_neg G,Av] at f
    by_cases z:s=id
    ·rw [if_pos z] at f;injection f with f;exact .inr (.inr (.inl ⟨z.symm,f.symm⟩))
    ·rw [if_neg z] at f;exact .inr (.inr (.inr ⟨Ne.symm m,Ne.symm z,f⟩))
 have J:∀x∈sI (l1++l2),x∈sI (l1++(v,xs)::l2):=λx i=>by
  obtain⟨y,P,rfl⟩:=Tl i;refine d8.2 ⟨y,?_,rfl⟩
  rcases em.1 P with P|P
  ·exact kN _ P
  ·exact kV _ (kP _ P)
 have hp:=p.2.1;rw [IX,l7] at hp;have hp2:=lg.1 hp.2.1
 have M:∀x∈sI (l1++l2),∀b,IF x.1 b->¬IF v b:=λx i b hb F=>by
  rw [IX] at i
  rcases em.1 i with i|i
  ·exact hp.2.2 x i _ (ml ..) b hb F
  ·exact hp2.1 x i b F hb
 have src:∀id o,look ((a,.cells Ta 1 (R1++[.arr V.nx 1 0 xs.length]::R2))::(V.nx,.cells T 1 (Jx xs))::(s,.sld T (sI (l1++l2)))::σ) id=some o->¬(Al V u cap nl V.w).nl id->∀b,DL (Al V u cap nl V.w) id o b->
  ∃g N,look σ g=some N/\¬V.nl g/\DL V g N b/\(g=id\/g=s/\id=V.nx/\IF v b)/\(id=s->∃x∈sI (l1++l2),IF x.1 b):=λid o f t b hb=>by
  rcases look' id o f with ⟨rfl,rfl⟩|⟨rfl,rfl⟩|⟨rfl,rfl⟩|⟨_,z,f⟩
  ·exact⟨_,_,ha,λh=>t ((e.nl _ l).2 h),by have:b=_:=hb;rw [e.ρ _ l] at this;exact this,.inl rfl,λe=>absurd e has⟩
  ·have hb:b=_:=hb
   rw [hρ] at hb;subst hb;have hv:=hb0 λh=>t (hnl.2 h);exact⟨_,_,hs,p.1,⟨_,K,hv⟩,.inr ⟨rfl,rfl,hv⟩,λe=>by omega⟩
  ·obtain⟨x,i,hb⟩:=hb
   exact⟨_,_,hs,p.1,⟨x,J x i,hb⟩,.inl rfl,λ_=>⟨x,i,hb⟩⟩
  ·have hlt:=h.st.lt _ _ f
   exact⟨_,_,f,λh=>t ((e.nl _ hlt).2 h),(AB e hlt).1 hb,.inl rfl,λe=>absurd e z⟩
 refine⟨h.os,h.tape,h.output,h.old,h.iLt,h.iNew,h.ext.trans e,⟨λid o f=>?_,λid o f=>?_,λid o f t b hb=>?_,λid id' o o' f ho' hne t hn' b hb F=>?_⟩,λid o f t b hb=>?_,h.tabs,h.hid.same rfl (λ_ h=>h) (λ_ h=>.inl h) λb ⟨id,o,f,t,hb⟩=>let ⟨g,N,Y,X,S,_⟩:=src id o f t b hb;⟨g,N,Y,X,S⟩⟩
 ·rcases look' id o f with ⟨rfl,rfl⟩|⟨rfl,rfl⟩|⟨rfl,rfl⟩|⟨_,_,f⟩
  ·rcases h.st.obj _ _ ha with ⟨_,h0⟩|⟨hna,cur,G,z,h4,h5,h6,h7⟩
   ·simp at h0
   refine .inr ⟨λh=>hna ((e.nl _ l).1 h),cur,by rw [e.ρ _ l];exact G,by rw [e.cap _ l];exact z,by rw [e.cap _ l];simpa using h4,by rw [e.cap _ l];exact h5,λr A=>?_,λq r j c Z L=>?_⟩
   ·rcases em.1 A with A|A
    ·exact h6 r (kN _ A)
    ·rcases kw.1 A with rfl|A
     ·rfl
     ·exact h6 r (kV _ (kP _ A))
   ·by_cases hq0:q=R1.length
    ·subst hq0
     simp at Z;subst Z
     have R:j=0:=by have:=(am.1 L).1;simp at this;omega
     subst R;simp at L;subst L;obtain⟨w,hw,hc⟩:=h7 R1.length [.d (.v v)] 0 (.d (.v v)) (by simp) rfl;have hw2:w=v:=Az.val hc;subst hw2;exact⟨w,hw,hcr⟩
    ·obtain⟨w,hw,hc⟩:=h7 q r j c (by
      rw [<-Z]
      rcases lc q R1.length with h8|h8
      ·rw [f9 h8,f9 h8]
      ·rw [ge h8,ge h8]
       obtain⟨k,hk⟩:∃k,q - R1.length=k+1:=⟨q - R1.length - 1,by omega⟩
       rw [hk];rfl) L
     exact⟨w,hw,hc.ext e⟩
  ·exact hob
  ·refine⟨λh=>p.1 ((e.nl _ hsn).1 h),?_,λx i=>p.2.2 x (J x i)⟩
   rw [IX,l7];exact⟨hp.1,hp2.2,λx i y P=>hp.2.2 x i y (kP _ P)⟩
  ·exact(h.st.obj id o f).Bo e (h.st.lt id o f) λ_ _ _=>rfl
 ·rcases look' id o f with ⟨rfl,rfl⟩|⟨rfl,rfl⟩|⟨rfl,rfl⟩|⟨_,_,f⟩
  ·exact l9 l
  ·exact mw _
  ·exact l9 hsn
  ·exact l9 (h.st.lt _ _ f)
 ·obtain⟨g,N,Y,X,S,_⟩:=src id o f t b hb
  exact h.st.free _ _ Y X b S
 ·obtain⟨g,N,Y,X,S,g4,g5⟩:=src id o f t b hb
  obtain⟨I,o0',g1',g2',g3',H,g5'⟩:=src id' o' ho' hn' b F;by_cases B:g=I
  ·rcases g4 with g4|⟨k1,k2,k3⟩<;>rcases H with H|⟨k1',k2',k3'⟩
   ·exact hne (by rw [<-g4,<-H,B])
   ·obtain⟨x,i,Q⟩:=g5 (by rw [<-g4,B,k1'])
    exact M x i b Q k3'
   ·obtain⟨x,i,Q⟩:=g5' (by rw [<-H,<-B,k1])
    exact M x i b Q k3
   ·exact hne (by rw [k2,k2'])
  ·exact h.st.inj g I _ _ Y g1' B X g2' b S g3'
 ·obtain⟨g,N,Y,X,S,_⟩:=src id o f t b hb
  exact h.live _ _ Y X b S
theorem Aj.take{c:Code}{Q:Exit->Env->Ab->Nat->Prop}{f:Env}{nx:Nat}(a s:Nat)(R1 R2:List (List C))(v:Value)(xs:List Int)(l1 l2:HN)(ha:look σ a=some (.cells Ta 1 (R1++[.d (.v v)]::R2)))(g:look σ s=some (.sld T (sI (l1++(v,xs)::l2))))
 (h:Aj P TB Γ N c Q f ((a,.cells Ta 1 (R1++[.arr nx 1 0 xs.length]::R2))::(nx,.cells T 1 (Jx xs))::(s,.sld T (sI (l1++l2)))::σ) (nx+1)):Aj P TB Γ N c Q f σ nx:=by
 intro V ac b;obtain⟨V',j,i,e,hi⟩:=b.inv.take ha g;have:=h V' ac ⟨b.env.ext e,b.lt,b.size,by have:=b.nx;subst this;exact hi,by rw [i,b.nx],b.defers⟩;rw [j] at this;exact this
theorem Aj.bT{c:Code}{Q:Exit->Env->Ab->Nat->Prop}{f:Env}{nx:Nat}(T:TypeId)(h:Aj P TB Γ N c Q f ((nx,.sld T (sI []))::σ) (nx+1)):Aj P TB Γ N c Q f σ nx:=by
 intro V ac k;have hi:=k.inv;have e:Ext V (Al V 0 0 False V.w):=DS (i7 _) λ_ _=>rfl;have p:=k.nx;subst p
 have look':∀id o,look ((V.nx,.sld T (sI []))::σ) id=some o->(id=V.nx/\o=.sld T (sI []))\/(id≠V.nx/\look σ id=some o):=λid o a=>by
  rw [Av] at a;by_cases d:V.nx=id
  ·rw [if_pos d] at a;injection a with a;exact .inl ⟨d.symm,a.symm⟩
  ·rw [if_neg d] at a;exact .inr ⟨Ne.symm d,a⟩
 have src:∀id o,look ((V.nx,.sld T (sI []))::σ) id=some o->∀b,DL (Al V 0 0 False V.w) id o b->look σ id=some o/\DL V id o b/\((Al V 0 0 False V.w).nl id↔V.nl id):=λid o a b hb=>by
  rcases look' id o a with ⟨rfl,rfl⟩|⟨_,a⟩
  ·obtain⟨x,m,_⟩:=hb;cases m
  ·have l:=hi.st.lt _ _ a
   exact⟨a,(AB e l).1 hb,e.nl _ l⟩
 refine h (Al V 0 0 False V.w) ac ⟨k.env.ext e,k.lt,k.size,?_,rfl,k.defers⟩;refine⟨hi.os,hi.tape,hi.output,hi.old,hi.iLt,hi.iNew,hi.ext.trans e,⟨λid o a=>?_,λid o a=>?_,λid o a g b hb=>?_,λid id' o o' a n q g r b hb s=>?_⟩,λid o a g b hb=>?_,hi.tabs,hi.hid.same rfl (λ_ h=>h) (λ_ h=>.inl h) λb ⟨id,o,a,g,hb⟩=>let ⟨d,j,i⟩:=src id o a b hb;⟨id,o,d,λh=>g (i.2 h),j⟩⟩
 ·rcases look' id o a with ⟨rfl,rfl⟩|⟨_,a⟩
  ·exact⟨by simp [Al],List.Pairwise.nil,λx m=>by cases m⟩
  ·exact(hi.st.obj id o a).Bo e (hi.st.lt id o a) λ_ _ _=>rfl
 ·rcases look' id o a with ⟨rfl,rfl⟩|⟨_,a⟩
  ·exact mw _
  ·exact l9 (hi.st.lt _ _ a)
 ·obtain⟨d,j,i⟩:=src id o a b hb
  exact hi.st.free _ _ d (λh=>g (i.2 h)) b j
 ·obtain⟨d,j,i⟩:=src id o a b hb
  obtain⟨v,u,t⟩:=src id' o' n b s;exact hi.st.inj _ _ _ _ d v q (λh=>g (i.2 h)) (λh=>r (t.2 h)) b j u
 ·obtain⟨d,j,i⟩:=src id o a b hb
  exact hi.live _ _ d (λh=>g (i.2 h)) b j
def C.Hk:C->Bool
 | .d (.v _)|.d (.l [])|.arr ..|.ptr ..|.mp _|.fn _ []=>true
 | _=>false
def O.Hk:O->Prop
 | .cells _ _ rows=>∀r∈rows,∀c∈r,C.Hk c=true
 | _=>True
def E.Hk:E->Prop
 | .o c=>C.Hk c=true
 | .a cs=>∀c∈cs,C.Hk c=true
 | .t xs=>∀x∈xs,∀c∈x.2,C.Hk c=true
 | .e=>True
def iG(σ:Ab):Prop:=∀x∈σ,O.Hk x.2
theorem iG.get{σ:Ab}(h:iG σ){id:Nat}{o:O}(a:look σ id=some o):O.Hk o:=by
 induction σ with
 | nil=>cases a
 | cons x r b=>
  obtain⟨k,y⟩:=x;rw [Av] at a;by_cases hk:k=id
  ·rw [if_pos hk] at a;injection a with a;subst a;exact h _ (ml ..)
  ·rw [if_neg hk] at a;exact b (λz c=>h z (kP _ c)) a
structure P8 (V V':View):Prop where
 ρ:V'.ρ=V.ρ
 cap:V'.cap=V.cap
 nl:V'.nl=V.nl
 nx:V'.nx=V.nx
 w:V'.w=V.w
theorem Az.Hk{V V':View}(s:P8 V V'){c:C}{v:Value}(h:Az V c v)(i:c.Hk=true):Az V' c v:=by
 cases h with
 | @d x v h=>
  cases h with
  | v h=>exact .d (.v h)
  | nil=>exact .d .nil
  | e h=>exact .d (.e h)
  | @l rows b o k cap vs hb a g m r q=>
   cases rows with
   | nil=>exact .d (.e g)
   | cons=>cases i
  | p=>cases i
 | nil a g=>exact .nil (by rw [s.nx];exact a) (by rw [s.nl];exact g)
 | @arr id k off len a g m=>rw [<-s.ρ,<-s.cap];exact .arr (by rw [s.nx];exact a) (by rw [s.nl];exact g) (by rw [s.cap];exact m)
 | ptr a g=>rw [<-s.ρ];exact .ptr (by rw [s.nx];exact a) (by rw [s.nl];exact g)
 | @fn f cap vs a g=>
  cases cap with
  | nil=>exact .fn a λj c v n=>by simp at n
  | cons=>cases i
 | mp a=>rw [<-s.ρ];exact .mp (by rw [s.nx];exact a)
 | mv=>cases i
theorem A4.Hk{V V':View}(s:P8 V V'){e:E}{v:Value}(h:A4 V e v)(i:e.Hk):A4 V' e v:=by
 cases e with
 | o c=>exact Az.Hk s h i
 | a cs=>obtain⟨vs,n,m,l⟩:=h;exact⟨vs,n,m,λj c v d f=>(l j c v d f).Hk s (i c (co d))⟩
 | t xs=>
  obtain⟨vs,n,m,l⟩:=h;refine⟨vs,n,m,λj x v d f=>?_⟩;have q:=l j x v d f;have p:=i x (co d);obtain⟨b,cs⟩:=x;cases b
  ·obtain⟨c,g,k⟩:=q
   have g:cs=[c]:=g;subst g;exact⟨c,rfl,k.Hk s (p c (by simp))⟩
  ·obtain⟨ws,g,k,r⟩:=q
   exact⟨ws,g,k,λj c v d f=>(r j c v d f).Hk s (p c (co d))⟩
 | e=>exact h
theorem Cb.Hk{V V':View}(s:P8 V V'){id:Nat}{o:O}(h:Cb V id o)(f:o.Hk):Cb V' id o:=by
 cases o with
 | cells T k rows=>
  rcases h with ⟨b,a⟩|⟨d,cur,a,u,t,q,p,n⟩
  ·exact .inl ⟨by rw [s.nl];exact b,a⟩
  ·refine .inr ⟨by rw [s.nl];exact d,cur,by rw [s.w,s.ρ];exact a,by rw [s.cap];exact u,by rw [s.cap];exact t,by rw [s.cap];exact q,p,λi r j c hi e=>?_⟩
   obtain⟨v,m,g⟩:=n i r j c hi e;exact⟨v,m,g.Hk s (f r (co hi) c (co e))⟩
 | mp es=>obtain⟨d,ents,clock,b,a⟩:=h;exact⟨by rw [s.nl];exact d,ents,clock,by rw [s.w,s.ρ];exact b,a⟩
 | sld T l=>exact⟨by rw [s.nl];exact h.1,by rw [s.w];exact h.2⟩
section
variable {o:Oper}{f:Env}{nx:Nat}
theorem Qd{V:View}{S:P9}(h:Inv TB Γ V σ)(c:Lm TB V σ S):Inv TB (ED (EM V σ) (EM V σ) [] S) (EM V σ) []:=
 ⟨rfl,rfl,rfl,λ_ _ _=>rfl,λb hb=>by
  rcases hb with hb|⟨id,o,e,d,hb⟩
  ·exact h.iLt b hb
  ·exact(h.st.obj id o e).blt d hb,λ_ h=>.inl h,Ext.refl _,DC,λid o f=>(by cases f),λx a=>⟨.inl (h.tabs x a).1,(h.tabs x a).2⟩,⟨S,⟨c.r,λb hb=>.inl (c.ji b hb),λb hb hi=>hi.elim (c.bi b hb) λ⟨id,o,e,d,a⟩=>c.ap b ⟨id,o,e,d,a⟩ hb,λb ⟨_,_,h,_⟩=>by cases h⟩,λb hb=>.inl hb,λb hb=>.inr (.inr hb)⟩⟩
theorem OD{V V':View}{σ':Ab}{S:P9}(d:Inv TB Γ V σ)(N:Lm TB V σ S)(H:∀b,S.J b->Γ.J b\/Γ.V.w.heap.size<=b\/Γ.F b)(n:∀b,S.B b->Γ.V.w.heap.size<=b\/Γ.F b)(m:Ext (EM V σ) V')(hi:Inv TB (ED (EM V σ) (EM V σ) [] S) V' σ')(G:iG σ') :
 ∃V3,P8 V' V3/\Ext V V3/\Inv TB Γ V3 (σ'++σ):=by
 have s:P8 V' { V' with I:=λb=>V.I b\/(V'.I b/\(V.w.heap.size<=b\/S.B b)) } := ⟨rfl,rfl,rfl,rfl,rfl⟩
 have e:Ext V { V' with I:=λb=>V.I b\/(V'.I b/\(V.w.heap.size<=b\/S.B b)) } := ⟨λ_ h=>.inl h,λb hb=>m.heap b (.inl hb),m.size,m.ρ,m.cap,m.nl,m.nx⟩
 have bs:∀ {id:Nat} {o:O} {b:Nat},DL { V' with I:=λb=>V.I b\/(V'.I b/\(V.w.heap.size<=b\/S.B b)) } id o b↔DL V' id o b:=λ{id o b} => by cases o<;>exact Iff.rfl
 have l:∀id o,look σ' id=some o->¬V'.nl id->∀b,DL V' id o b->V.w.heap.size<=b\/S.B b:=λid o a f b hb=>by
  rcases hi.live id o a f b hb with h|h|h
  ·exact .inl h
  ·obtain⟨_,_,h,_⟩:=h;cases h
  ·exact .inr h
 have t:∀id o,look σ id=some o->¬V.nl id->∀b,DL V id o b->(V.w.heap.size<=b\/S.B b)->False:=λid o a f b hb h=>by
  rcases h with h|h
  ·have:=(d.st.obj _ _ a).blt f hb;omega
  ·exact N.ap b ⟨id,o,a,f,hb⟩ h
 refine⟨_,s,e,⟨hi.os.trans d.os,hi.tape.trans d.tape,hi.output.trans d.output,λb hb M=>(hi.old b (kH hb d.ext.size) (λh=>h.elim (λ⟨_,_,h,_⟩=>by cases h) λh=>(n b h).elim (λh=>by omega) M)).trans (d.old b hb M),λb hb=>?_,λb hb=>?_,d.ext.trans e,⟨λid o a=>?_,λid o a=>?_,λid o a f b hb k=>?_,λid id' o o' j g z f p b hb q=>?_⟩,λid o a f b hb=>?_,λx L=>⟨.inl (d.tabs x L).1,(hi.tabs x L).2⟩,?_⟩⟩
 ·rcases hb with hb|hb
  ·exact hi.iLt b (m.i b (.inl hb))
  ·exact hi.iLt b hb.1
 ·rcases hb with hb|hb
  ·exact d.iNew b hb
  ·rcases hb.2 with h|h
   ·exact .inr (.inl (i9 d.ext.size h))
   ·exact .inr (n b h)
 ·rcases BX a with a|a
  ·exact(hi.st.obj id o a).Hk s (G.get a)
  ·exact(d.st.obj id o a).Bo e (d.st.lt id o a) λf b hb=>m.heap b (.inr ⟨id,o,a,f,hb⟩)
 ·rcases BX a with a|a
  ·exact hi.st.lt id o a
  ·exact kH (d.st.lt id o a) m.nx
 ·rcases BX a with a|a
  ·have v:=hi.st.free id o a f b (bs.1 hb)
   rcases k with k|k
   ·exact v (m.i b (.inl k))
   ·exact v k.1
  ·have c:=d.st.lt id o a
   have hb:=(AB e c).1 hb;have f:¬V.nl id:=λh=>f ((e.nl id c).2 h)
   rcases k with k|k
   ·exact d.st.free id o a f b hb k
   ·exact t id o a f b hb k.2
 ·rcases BX j with j|j<;>rcases BX g with g|g
  ·exact hi.st.inj _ _ _ _ j g z f p b (bs.1 hb) (bs.1 q)
  ·have v:=l id o j f b (bs.1 hb)
   have c:=d.st.lt _ _ g;exact t _ _ g (λh=>p ((e.nl _ c).2 h)) b ((AB e c).1 q) v
  ·have v:=l id' o' g p b (bs.1 q)
   have c:=d.st.lt _ _ j;exact t _ _ j (λh=>f ((e.nl _ c).2 h)) b ((AB e c).1 hb) v
  ·have c:=d.st.lt _ _ j
   have u:=d.st.lt _ _ g;exact d.st.inj _ _ _ _ j g z (λh=>f ((e.nl _ c).2 h)) (λh=>p ((e.nl _ u).2 h)) b ((AB e c).1 hb) ((AB e u).1 q)
 ·rcases BX a with a|a
  ·rcases l id o a f b (bs.1 hb) with h|h
   ·exact .inl (i9 d.ext.size h)
   ·exact n b h
  ·have c:=d.st.lt _ _ a
   exact d.live id o a (λh=>f ((e.nl _ c).2 h)) b ((AB e c).1 hb)
 ·obtain⟨S1,y,K,Q⟩:=hi.hid
  have P:∀b,S1.B b->V.w.heap.size<=b\/S.B b:=λb hb=>by
   rcases Q b hb with h|h|h
   ·exact .inl h
   ·obtain⟨_,_,h,_⟩:=h;cases h
   ·exact .inr h
  refine⟨S1,⟨y.r,λb hb=>?_,λb hb k=>y.bi b hb (k.elim (λh=>m.i b (.inl h)) λh=>h.1),λb ⟨id,o,a,f,hb⟩ A=>?_⟩,λb hb=>?_,λb hb=>?_⟩
  ·rcases K b hb with h|h|h|h
   ·exact .inl (N.ji b h)
   ·exact .inr ⟨y.ji b hb,.inl h⟩
   ·obtain⟨_,_,h,_⟩:=h;cases h
   ·exact .inr ⟨y.ji b hb,.inr h⟩
  ·rcases BX a with a|a
   ·exact y.ap b ⟨id,o,a,f,bs.1 hb⟩ A
   ·have c:=d.st.lt _ _ a
    exact t _ _ a (λh=>f ((e.nl _ c).2 h)) b ((AB e c).1 hb) (P b A)
  ·rcases K b hb with h|h|h|h
   ·exact H b h
   ·exact .inr (.inl (i9 d.ext.size h))
   ·obtain⟨_,_,h,_⟩:=h;cases h
   ·exact .inr (n b h)
  ·rcases P b hb with h|h
   ·exact .inl (i9 d.ext.size h)
   ·exact n b h
theorem Um{V:View}{a:Act}{L:List (Nat×E)}(h:Inv TB Γ V σ)(c:P4 σ f L)(i:Hm V o f a):Hm (EM V σ) o (look L) a:=λt e ht b=>by
 obtain⟨y,g,d⟩:=c.get t e b;exact d.rel h (i t y ht g)
theorem BZ.aW{K:E->Ab->Nat->Prop}(L:List (Nat×E))(q:P4 σ f L)(h:∀Γ',BZ P TB Γ' o (look L) [] nx (λx b d=>(E.Hk x/\iG b)/\K x (b++σ) d)):BZ P TB Γ o f σ nx K:=by
 intro V a t c r;obtain⟨S,m,k,l⟩:=c.hid;refine Oper.wp_mono ?_ (h (ED (EM V σ) (EM V σ) [] S) (EM V σ) a (Um c q t) (Qd c m) r);rintro a' w' ⟨V',v,x,σ',rfl,rfl,p,hi,n,⟨g,i⟩,hk⟩;obtain⟨V3,s,e,j⟩:=OD c m k l p hi i;exact⟨V3,v,x,_,s.w,rfl,e,j,n.Hk s g,by rw [s.nx];exact hk⟩
theorem AU.aW{x:E}(L:List (Nat×E))(n:P4 σ f L)(h:∀Γ',AU P TB Γ' o (look L) [] nx x)(c:x.Hk):AU P TB Γ o f σ nx x:=by
 intro V a q b p;obtain⟨S,k,i,j⟩:=b.hid;refine Oper.wp_mono ?_ (h (ED (EM V σ) (EM V σ) [] S) (EM V σ) a (Um b n q) (Qd b k) p);rintro a' w' ⟨V',v,rfl,rfl,m,hi,l,d⟩;obtain⟨V3,s,e,g⟩:=OD b k i j m hi (λx d=>by cases d);exact⟨V3,v,s.w,rfl,e,g,by rw [s.nx];exact l,d.Hk s c⟩
end
def Jy(σ:Ab):List Nat->Ab
 | []=>[]
 | i::r=>match look σ i with
  | some o=>(i,o)::Jy σ r
  | none=>Jy σ r
theorem GV{σ:Ab}:∀ {ids:List Nat} {id:Nat} {o:O},look (Jy σ ids) id=some o->id∈ids/\look σ id=some o
 | [],_,_,h=>by cases h
 | i :: r,id,o,h=>by
  unfold Jy at h;split at h
  ·rename_i o' a
   rw [Av] at h;by_cases hi:i=id
   ·rw [if_pos hi] at h;injection h with h;subst h;subst hi;exact⟨ml ..,a⟩
   ·rw [if_neg hi] at h
    have:=GV h;exact⟨kP _ this.1,this.2⟩
  ·have:=GV h
   exact⟨kP _ this.1,this.2⟩
def WY(σi:Ab)(f:Env):List (Nat×E)->Prop
 | []=>True
 | (t,e')::L=>(∃e,f t=some e/\(e=e'\/EZ σi e e'))/\WY σi f L
theorem WY.get{σi:Ab}{f:Env}:∀ {L:List (Nat×E)},WY σi f L->∀t e',look L t=some e'->∃e,f t=some e/\(e=e'\/EZ σi e e')
 | [],_,t,e,h=>by cases h
 | (k,x)::L,a,t,e,h=>by
  rw [Av] at h;by_cases hk:k=t
  ·rw [if_pos hk] at h;injection h with h;subst h;subst hk;exact a.1
  ·rw [if_neg hk] at h;exact WY.get a.2 t e h
theorem Aj.AH{c:Code}{Q:Exit->Env->Ab->Nat->Prop}{f:Env}{nx:Nat}(ids:List Nat)(L:List (Nat×E))(w:WY (Jy σ ids) f L)(h:Aj P TB Γ N c Q (look L) (Cn ids σ) nx):Aj P TB Γ N c Q f σ nx:=by
 intro V a l;have hi:=l.inv;have i:∀id o,look (Jy σ ids) id=some o->look σ id=some o:=λid o h=>(GV h).2;have u:Inv TB Γ V (Jy σ ids):=hi.sub i;have e:Ext V (EM V (Jy σ ids)):=Lx;refine h (EM V (Jy σ ids)) a ⟨λt x p=>?_,λt x p=>?_,l.size,?_,l.nx,l.defers⟩
 ·obtain⟨y,q,g⟩:=w.get t x p
  rcases g with rfl|g
  ·exact(l.env t _ q).ext e
  ·exact g.rel u (l.env t y q)
 ·obtain⟨y,q,_⟩:=w.get t x p
  exact l.lt t y q
 ·refine⟨hi.os,hi.tape,hi.output,hi.old,?_,?_,hi.ext.trans e,⟨?_,?_,?_,?_⟩,?_,λx p=>⟨.inl (hi.tabs x p).1,(hi.tabs x p).2⟩,hi.hid.same rfl (λ_ h=>.inl h) (λb hb=>hb.elim .inl λ⟨id,o,d,j,v⟩=>.inr ⟨id,o,i _ _ d,j,v⟩) λb ⟨id,o,d,j,hb⟩=>have g:=(Be ids σ id o d).2;⟨id,o,g,j,(AB e (hi.st.lt id o g)).1 hb⟩⟩
  ·rintro b (hb|⟨id,o,d,j,hb⟩)
   ·exact hi.iLt b hb
   ·exact(hi.st.obj id o (i _ _ d)).blt j hb
  ·rintro b (hb|⟨id,o,d,j,hb⟩)
   ·exact hi.iNew b hb
   ·exact .inr (hi.live id o (i _ _ d) j b hb)
  ·intro id o d
   have:=(Be ids σ id o d).2;exact(hi.st.obj id o this).Bo e (hi.st.lt id o this) λ_ _ _=>rfl
  ·intro id o d;exact hi.st.lt id o (Be ids σ id o d).2
  ·intro id o d j b k hb
   obtain⟨q,g⟩:=Be ids σ id o d;have k:=(AB e (hi.st.lt id o g)).1 k
   rcases hb with hb|⟨id',o',n,m,v⟩
   ·exact hi.st.free id o g j b k hb
   ·have z:=GV n
    exact hi.st.inj id id' o o' g z.2 (λe=>q (e ▸ z.1)) j m b k v
  ·intro id id' o o' d n s j m b hb k
   have g:=(Be ids σ id o d).2;have r:=(Be ids σ id' o' n).2;exact hi.st.inj id id' o o' g r s j m b ((AB e (hi.st.lt id o g)).1 hb) ((AB e (hi.st.lt id' o' r)).1 k)
  ·intro id o d j b hb
   have g:=(Be ids σ id o d).2;exact hi.live id o g j b ((AB e (hi.st.lt id o g)).1 hb)
theorem FZ.LN{a s:Nat}{T Ta:TypeId}{l:HN}(ha:look σ a=some (.cells Ta 1 (AA l)))(e:look σ s=some (.sld T (sI l))):FZ σ (.arr a 1 0 l.length) (Da (l.map (·.2))):=by
 refine .rows ha (by simp) (Cr l) λi r' hi=>?_;simp only [d9,d6] at hi;obtain⟨x,⟨y,b,rfl⟩,rfl⟩:=hi;refine⟨[.d (.v y.1)],by simp [AA,b],.cons ?_ .nil⟩;have c:FZ σ (.d (.v y.1)) (.l ((y.2.map (Value.int .i64)).map λx=>[D.v x])):=.sld e (d8.2 ⟨y,co b,rfl⟩);rw [lK] at c;exact c
theorem Aj.Tc{c:Code}{Q:Exit->Env->Ab->Nat->Prop}{f:Env}{nx:Nat}(a i s:Nat)(l:HN)(xs:List Int)(ha:look σ a=some (.cells Ta 1 (AA l++[[.arr i 1 0 xs.length]])))(hi:look σ i=some (.cells T 1 (Jx xs)))(b:look σ s=some (.sld T (sI l)))
 (h:∀v,Aj P TB Γ N c Q f ((a,.cells Ta 1 (AA (l++[(v,xs)])))::(s,.sld T (sI (l++[(v,xs)])))::kill i σ) nx):Aj P TB Γ N c Q f σ nx:=
 Aj.put a i s (AA l) [] xs l [] ha hi (by rw [lh];exact b) λv=>by
  have:=h v;rw [AQ] at this;exact this
theorem MQ{l:HN}{k:Nat}{y:Value×List Int}(h:l[k]? = some y):l=l.take k++y::l.drop (k+1)/\(l.take k).length=k:=by
 obtain⟨hk,rfl⟩:=am.1 h;refine⟨?_,by rw [mz];omega⟩;rw [<-mr hk,lv]
theorem PM{U:Type}{l1 l2:List U}{x y:U}{k:Nat}(h:l1.length=k):(l1++x::l2).set k y=l1++y::l2:=by
 subst h;simp
theorem Aj.eM{c:Code}{Q:Exit->Env->Ab->Nat->Prop}{f:Env}{nx:Nat}(a s:Nat)(l:HN)(k:Nat)(y:Value×List Int)(hk:l[k]? = some y)(ha:look σ a=some (.cells Ta 1 (AA l)))(g:look σ s=some (.sld T (sI l)))
 (h:Aj P TB Γ N c Q f ((a,.cells Ta 1 ((AA l).set k [.arr nx 1 0 y.2.length]))::(nx,.cells T 1 (Jx y.2))::(s,.sld T (sI (l.eraseIdx k)))::σ) (nx+1)):Aj P TB Γ N c Q f σ nx:=by
 obtain⟨b,i⟩:=MQ hk;obtain⟨v,xs⟩:=y
 have e:AA l=AA (l.take k)++[.d (.v v)]::AA (l.drop (k+1)):=by
  have:=congrArg AA b;rw [AQ] at this;exact this
 refine Aj.take a s (AA (l.take k)) (AA (l.drop (k+1))) v xs (l.take k) (l.drop (k+1)) (by rw [<-e];exact ha) (by rw [<-b];exact g) ?_
 have m:(AA l).set k [.arr nx 1 0 xs.length]=AA (l.take k)++[.arr nx 1 0 xs.length]::AA (l.drop (k+1)):=by
  rw [e,PM (by rw [Cr,i])]
 have j:l.eraseIdx k=l.take k++l.drop (k+1):=nN ..;rw [m,j] at h;exact h
theorem Aj.putAt{c:Code}{Q:Exit->Env->Ab->Nat->Prop}{f:Env}{nx:Nat}(a i s:Nat)(l:HN)(k:Nat)(y:Value×List Int)(hk:l[k]? = some y)(xs:List Int)(ha:look σ a=some (.cells Ta 1 ((AA l).set k [.arr i 1 0 xs.length])))(hi:look σ i=some (.cells T 1 (Jx xs)))(b:look σ s=some (.sld T (sI (l.eraseIdx k))))
 (h:∀v,Aj P TB Γ N c Q f ((a,.cells Ta 1 (AA (l.set k (v,xs))))::(s,.sld T (sI (l.set k (v,xs))))::kill i σ) nx):Aj P TB Γ N c Q f σ nx:=by
 obtain⟨g,e⟩:=MQ hk
 have n:AA l=AA (l.take k)++[.d (.v y.1)]::AA (l.drop (k+1)):=by
  have:=congrArg AA g;rw [AQ] at this;exact this
 rw [n,PM (by rw [Cr,e])] at ha;rw [show l.eraseIdx k=l.take k++l.drop (k+1) from nN ..] at b;refine Aj.put a i s (AA (l.take k)) (AA (l.drop (k+1))) xs (l.take k) (l.drop (k+1)) ha hi b λv=>?_
 have j:l.set k (v,xs)=l.take k++(v,xs)::l.drop (k+1):=by
  have this:l.set k (v,xs)=(l.take k++y::l.drop (k+1)).set k (v,xs):=congrArg (λm=>List.set m k (v,xs)) g;rw [this,PM e]
 have:=h v;rw [j,AQ] at this;exact this
theorem AS.AV{g:FuncId}{m nx:Nat}{args:List E}{post:E->Ab->Nat->Prop}
 (h:AS P TB g m σ nx args (λx d c=>∃(l:List Nat) (x':E) (a:Ab),((∀i,i < m->l[i]? = some i)/\l.Nodup)/\x=x'.AV (nm l c)/\AT (nm l c) d a/\post x' a l.length)):AS P TB g m σ nx args post:=
 ⟨h.1, λV vs S n ha=>(h.2 V vs S n ha).mono λe w' ⟨V',v,x,σ',w,u,s,r,l,x',a,j,q,p,o⟩=>by
  have k:BV TB (ED V (Ko V m) σ S) 1 V' (look [(0,x)]) σ' V'.nx { tmps:=#[v],defers:=[] } := by
   refine⟨λt y b=>?_,λt y b=>?_,rfl,s,rfl,rfl⟩
   ·rw [Av] at b
    by_cases ht:0=t
    ·rw [if_pos ht] at b;injection b with b;subst b;subst ht;exact r
    ·rw [if_neg ht] at b;cases b
   ·rw [Av] at b
    by_cases ht:0=t
    ·subst ht;exact oy
    ·rw [if_neg ht] at b;cases b
  obtain⟨V'',z,f⟩:=k.AV l [(0,x')] a j.1 j.2 ⟨by rw [<-q];rfl,trivial⟩ p;refine⟨V'',v,x',a,w,z.trans u,f.inv,f.env 0 x' rfl,?_⟩
  rw [f.nx];exact o⟩
theorem Cy{m:Nat}{σ σ':Ab}(i:Nat)(a:m=2 ^ i)(h:look σ' i=look σ i):Kept m σ σ':=λid hb=>by
 subst a;rw [mf] at hb;have:i=id:=of_decide_eq_true hb;subst this;exact h
theorem Hx{m:Nat}{σ σ':Ab}(i j:Nat)(a:m=2 ^ i ||| 2 ^ j)(h:look σ' i=look σ i)(b:look σ' j=look σ j):Kept m σ σ':=λid hb=>by
 subst a;rw [lZ,kR,mf,mf,decide_eq_true_eq,decide_eq_true_eq] at hb
 rcases hb with hb|hb
 ·subst hb;exact h
 ·subst hb;exact b
theorem JD{l1 l2:HN}{c:C}{k:Nat}(h:l1.length=k):(AA l1++[c]::AA l2)[k]? = some [c]:=by
 subst h;rw [ge (by rw [Cr];exact i7 _),Cr];simp
theorem eR [j:CL P] {g:FuncId} {fn:Func} {c:Code} {nx:Nat} {args:List E} {post:E->Ab->Nat->Prop} (f:P.funcs[g]? = some fn) (hb:fn.body=some c) (a:(fn.name == "runtime.NumGoroutine")=false)
 (ha:Nat.ble args.length fn.ntmps=true) (h:∀Γ:Ctx,Γ.V.nx=nx->Aj P TB Γ fn.ntmps c (Xa j.T fn.results (λx e d=>∃(l:List Nat) (x':E) (b:Ab),((∀i,i < nx->l[i]? = some i)/\l.Nodup)/\x=x'.AV (nm l d)/\AT (nm l d) e b/\post x' b l.length)) (look (Ce 0 args)) σ nx):Spec P TB g σ nx args post:=
 AS.PQ (AS.AV (AS.PZ (i7 _) f hb a (ce ha) h))
end
theorem cN:(∀(r:Nat->Nat) (l:HN),(AA l).map (C.BH r)=AA l)/\(∀(U:Type) (b:Bool) (x y:U),(bif b then x else y)=if b=true then x else y)/\∀a b:Nat,(Nat.beq a b=true)=(a=b):=
 ⟨Rx,λ_ b _ _=>by cases b<;>rfl,λ_ _=>Nat.beq_eq⟩
end Go.Am
namespace Go.Am
open Go Go.Proofs
end Go.Am
namespace Go.Am
open Go Go.Proofs
set_option maxHeartbeats 1000000
set_option maxRecDepth 4000
attribute [local irreducible] AU BZ Lex Br Aj Spec
variable {TB:Bp}
abbrev WN(n:UInt8):List D:=[.v (.int .u8 n.toNat)]
abbrev RP(l:List UInt8):D:=.l (l.map WN)
abbrev AN(b:List UInt8)(p:Int):O:=.cells 137 2 [[.d (RP b),.d (iD p)]]
theorem XP{a b:Nat}(ha:a < 2 ^ 62)(hb:b < 2 ^ 62):Sx .i64 a b=((a ^^^ b:Nat):Int):=by
 unfold Sx
 have d:(BitVec.ofInt IntKind.i64.bits (a:Int)).toNat=a:=by
  rw [BitVec.toNat_ofInt];have:IntKind.i64.bits=64:=rfl;rw [this];omega
 have c:(BitVec.ofInt IntKind.i64.bits (b:Int)).toNat=b:=by
  rw [BitVec.toNat_ofInt];have:IntKind.i64.bits=64:=rfl;rw [this];omega
 rw [BitVec.toNat_xor,d,c];have e:a ^^^ b < 2 ^ 62:=Nat.xor_lt_two_pow ha hb;exact IntWalk.i64_in _ (by omega)
theorem aP{x y:Int}(d:0<=x/\x < 4611686018427387904)(c:0<=y/\y < 4611686018427387904):0<=Sx .i64 x y/\Sx .i64 x y < 4611686018427387904:=by
 obtain⟨a,rfl⟩:∃a:Nat,x=a:=⟨x.toNat,by omega⟩
 obtain⟨b,rfl⟩:∃b:Nat,y=b:=⟨y.toNat,by omega⟩
 rw [XP (by omega) (by omega)];have e:a ^^^ b < 2 ^ 62:=Nat.xor_lt_two_pow (by omega) (by omega);omega
theorem IN(b:List UInt8)(hb:b.length<=9223372036854775807):∃b':List UInt8,b'.length<=2000/\AS Tryz.prog TB 49 0 [] 0 [.o (.d (RP b))] (λx σ nx=>x=.o (.ptr 0 2 0 0)/\σ=[(0,AN b' 0)]/\nx=1):=by
 by_cases h:b.length<=2000
 ·refine⟨b,h,?_⟩
  refine AS.PZ (m:=0) (ce rfl) Tryz.func49 rfl (by kernel_rfl) (ce rfl) ?_;intro Γ c;(repeat first|refine sN rfl ?_ |refine tX rfl ?_ |refine s2 rfl λ_ a=>?_ |refine aU rfl ?_ |refine Aa ?_)
  ((refine aC rfl ?_ ?_<;>rintro⟨⟩);all_goals try (simp at a;done))
  ·exfalso;(simp only[oZ] at *;omega)
  refine aK ?_;(repeat first|refine tX rfl ?_|(refine Ag rfl ?_;refine gA rfl ?_;first| refine gS (λ_ _=>AG rfl rfl (by rfl) (by rfl)) ?_) |refine aU rfl ?_);(refine pW rfl ?_ rfl (by rfl);refine FU rfl rfl ?_);(repeat first|refine tX rfl ?_ |refine Aa ?_);refine aR ⟨_,rfl,rfl,rfl,rfl⟩
 ·refine⟨b.take 2000,by simp;omega,?_⟩
  have e:(b.map WN).take (2000:Int).toNat=(b.take 2000).map WN:=by simp [m9]
  refine AS.PZ (m:=0) (ce rfl) Tryz.func49 rfl (by kernel_rfl) (ce rfl) ?_;intro Γ c;(repeat first|refine sN rfl ?_ |refine tX rfl ?_ |refine s2 rfl λ_ a=>?_ |refine aU rfl ?_ |refine Aa ?_)
  ((refine aC rfl ?_ ?_<;>rintro⟨⟩);all_goals try (simp at a;done))
  ·(repeat first|refine tX rfl ?_|(refine Ag rfl ?_;refine gA rfl ?_;first| refine gS (λ_ _=>Ie rfl rfl (by simp) (by omega) (by simp;omega)) ?_) |refine aU rfl ?_ |refine Aa ?_)
   rw [e];(repeat first| (refine Ag rfl ?_;refine gA rfl ?_;first| refine gS (λ_ _=>AG rfl rfl (by rfl) (by rfl)) ?_));(refine pW rfl ?_ rfl (by rfl);refine FU rfl rfl ?_);(repeat first|refine tX rfl ?_ |refine Aa ?_);refine aR ⟨_,rfl,rfl,rfl,rfl⟩
  ·exfalso;(simp only[oZ] at *;omega)
theorem AR(b:List UInt8)(hb:b.length<=2000)(p n:Int)(K:0<=p/\p < 1000000000):∃k:Int,0<=k/\(k=0\/k < n)/\Spec Tryz.prog TB 119 [(0,AN b p)] 1 [.o (.ptr 0 2 0 0),eI .i64 n] (λx σ nx=>x=eI .i64 k/\σ=[(0,AN b (p+1))]/\nx=1):=by
 by_cases I:n < 1\/b.length=0
 ·refine⟨0,by omega,.inl rfl,?_⟩
  refine eR Tryz.func119 rfl (by kernel_rfl) rfl ?_;intro Γ a;(repeat' first|refine sN rfl ?_ |(refine sA rfl ?_ ?_;first|exact tI|omega|simp only[oZ] at *;omega) |refine s2 rfl λ_ e=>?_ |refine s3 rfl ?_ ?_<;>rintro rfl |refine aU rfl ?_ |refine Aa ?_ |refine rE (by kernel_rfl) ?_|(refine aC rfl ?_ ?_<;>rintro⟨⟩)|refine aK ?_|refine aE ?_|refine aB ?_|refine aR ⟨_,rfl,?_⟩)
  all_goals first
   | (exfalso;(simp only[oZ] at *;omega);done)
   | refine⟨[0],eI .i64 0,[(0,AN b (p+1))],⟨by first|(simp;done)|decide|(intro i hi;match i with|0=>rfl),by decide⟩,rfl,by (simp[cX,zC,a]),rfl,rfl,rfl⟩
 have J:0 < b.length:=by omega
 have q:0 < n:=by omega
 by_cases hp:p < b.length
 ·obtain⟨c,m⟩:=get_some (l:=b) (k:=(p+1 - 1).toNat) (by omega)
  have j:=get_map (g:=WN) m;have h:=c.toNat_lt;refine⟨(c.toNat:Int) % n,mI _ (by omega),.inr (mj _ q),?_⟩;refine eR Tryz.func119 rfl (by kernel_rfl) rfl ?_;intro Γ a;(repeat' first|refine sN rfl ?_ |(refine sA rfl ?_ ?_;first|exact tI|omega) |(refine s4 rfl ‹_› rfl ?_ ?_;omega) |refine s2 rfl λ_ e=>?_ |refine s3 rfl ?_ ?_<;>rintro rfl |refine aU rfl ?_ |refine Aa ?_ |refine rE (by kernel_rfl) ?_|(refine aC rfl ?_ ?_<;>rintro⟨⟩)|refine aK ?_|refine aE ?_|refine aB ?_|refine aR ⟨_,rfl,?_⟩)
  all_goals first
   | (exfalso;(simp only[oZ] at *;omega);done)
   | refine⟨[0],_,[(0,AN b (p+1))],⟨by first|(simp;done)|decide|(intro i hi;match i with|0=>rfl),by decide⟩,rfl,by (simp[cX,zC,a]),rfl,rfl,rfl⟩
 ·have f:(0:Int) < b.length:=by omega
  have H:=mI (p+1 - 1) (show (b.length:Int)≠0 by omega);have G:=mj (p+1 - 1) f;have F:=mI ((p+1 - 1)*7+3) (show (b.length:Int)≠0 by omega);have B:=mj ((p+1 - 1)*7+3) f;obtain⟨c,m⟩:=get_some (l:=b) (k:=((p+1 - 1) % (b.length:Int)).toNat) (by omega);have j:=get_map (g:=WN) m;have h:=c.toNat_lt;obtain⟨d,u⟩:=get_some (l:=b) (k:=(((p+1 - 1)*7+3) % (b.length:Int)).toNat) (by omega);have t:=get_map (g:=WN) u;have s:=d.toNat_lt;have A:0<=(p+1 - 1) / (b.length:Int):=ou (by omega) (by omega);have z:(p+1 - 1) / (b.length:Int)<=p+1 - 1:=Int.ediv_le_self _ (by omega)
  obtain⟨x,r⟩:∃x,x=(c.toNat:Int)*131+(d.toNat:Int)*1117+(p+1 - 1)*29+(p+1 - 1) / (b.length:Int)*53:=⟨_,rfl⟩
  have w:0<=x/\x < 1000000000000:=by omega
  have v:=aP (x:=x) (y:=x / 64) (by omega) (by omega);refine⟨Sx .i64 x (x / 64) % n,mI _ (by omega),.inr (mj _ q),?_⟩;refine eR Tryz.func119 rfl (by kernel_rfl) rfl ?_;intro Γ a;(repeat' first|refine sN rfl ?_ |(refine sA rfl ?_ ?_;first|exact tI|omega) |(refine s4 rfl ‹_› rfl ?_ ?_;omega) |(refine s2 rfl λ_ e=>?_;try (simp only[m8,nW] at e;subst e))|(refine Ag rfl ?_;refine gA rfl ?_;first| refine gS (λ_ _=>hX rfl rfl rfl) ?_) |refine s3 rfl ?_ ?_<;>rintro rfl |refine aU rfl ?_ |refine Aa ?_ |refine rE (by kernel_rfl) ?_|(refine aC rfl ?_ ?_<;>rintro⟨⟩)|refine aK ?_|refine aR ⟨_,rfl,?_⟩|(rw [<-r]))
  all_goals first
   | (exfalso;(simp only[oZ] at *;omega);done)
   | refine⟨[0],_,[(0,AN b (p+1))],⟨by first|(simp;done)|decide|(intro i hi;match i with|0=>rfl),by decide⟩,rfl,by (simp[cX,zC,a]),rfl,rfl,rfl⟩
theorem BR(b:List UInt8)(hb:b.length<=2000)(p:Int)(m:0<=p/\p < 1000000000)(l:List Int)(s:0 < l.length)(j:l.length < 1000000):∃k∈l,Spec Tryz.prog TB 51 [(0,AN b p)] 1 [.o (.ptr 0 2 0 0),AW l] (λx σ nx=>x=eI .i64 k/\σ=[(0,AN b (p+1))]/\nx=1):=by
 obtain⟨k,r,q,h⟩:=AR (TB:=TB) b hb p l.length m;obtain⟨x,c⟩:=get_some (l:=l) (k:=k.toNat) (by omega);have f:=get_map (g:=CN) c;refine⟨x,co c,?_⟩;refine eR Tryz.func51 rfl (by kernel_rfl) rfl ?_;intro Γ a;(repeat first|refine sN rfl ?_ |refine tA rfl ?_ |refine aU rfl ?_ |refine Aa ?_);(refine pW rfl ?_ rfl (by rfl);refine Ae [0] rfl rfl (h) ⟨rfl,by decide,by decide⟩ rfl (by simp[cX,zC,a]) ?_;rintro n d e ⟨rfl,rfl,rfl⟩ _);(repeat first|refine tA rfl ?_ |(refine s4 rfl ‹_› rfl ?_ ?_;omega) |refine Aa ?_);refine aR ⟨_,rfl,?_⟩;refine⟨[0],_,[(0,AN b (p+1))],⟨by first|(simp;done)|decide|(intro i hi;match i with|0=>rfl),by decide⟩,rfl,by (simp[cX,zC,a]),rfl,rfl,rfl⟩
theorem Rm(b:List UInt8)(hb:b.length<=2000)(p:Int)(m:0<=p/\p < 1000000000)(l:List W)(s:0 < l.length)(j:l.length < 1000000):∃k∈l,Spec Tryz.prog TB 157 [(0,AN b p)] 1 [.o (.ptr 0 2 0 0),Bx l] (λx σ nx=>x=eT k/\σ=[(0,AN b (p+1))]/\nx=1):=by
 obtain⟨k,r,q,h⟩:=AR (TB:=TB) b hb p l.length m;obtain⟨x,c⟩:=get_some (l:=l) (k:=k.toNat) (by omega);have f:=get_map (g:=BU) c;refine⟨x,co c,?_⟩;refine eR Tryz.func157 rfl (by kernel_rfl) rfl ?_;intro Γ a;(repeat first|refine sN rfl ?_ |refine tA rfl ?_ |refine aU rfl ?_ |refine Aa ?_);(refine pW rfl ?_ rfl (by rfl);refine Ae [0] rfl rfl (h) ⟨rfl,by decide,by decide⟩ rfl (by simp[cX,zC,a]) ?_;rintro n d e ⟨rfl,rfl,rfl⟩ _);(repeat first|refine tA rfl ?_ |(refine s4 rfl ‹_› rfl ?_ ?_;omega) |refine Aa ?_);refine aR ⟨_,rfl,?_⟩;refine⟨[0],_,[(0,AN b (p+1))],⟨by first|(simp;done)|decide|(intro i hi;match i with|0=>rfl),by decide⟩,rfl,by (simp[cX,zC,a]),rfl,rfl,rfl⟩
end Go.Am
namespace Go.Am
open Go
set_option linter.unusedVariables false
variable {TB:Bp}
section
variable {P:Program}{Γ:Ctx}{d:Option Tmp}{ty:TypeId}{pos:String}{af:Array Edge}{g:Option (Nat×Bool)}{f:Env}{σ:Ab}{nx:Nat}
theorem MY{t:TypeId}{z:List Value}{fl:List (Nat×Nat)}{parts:Array (Nat×Operand)}{es:List E}{qs:List (Nat×List C)}[Y:BM P t z][hf:Eu P t fl](R:HS f (parts.toList.map (·.2))=some es)(Z:Ey fl parts.toList es=some qs)
 (M:z.all Nn=true) (N:(qs.all λx=>Nat.ble (x.1+x.2.length) z.length)=true):AU P TB Γ ⟨d,.build t parts,ty,pos,af,g⟩ f σ nx (.a (BC qs (z.map λv=>C.d (.v v)))):=
 AF λV ρ h1 _=>by
  obtain⟨i,zv,hi,A,s⟩:=Hd Y.out;have Q:=CY (V:=V) (ρ:=ρ) parts.toList es qs (λx J e he=>h1.get (by simp only [Op.operands];simpa using J) he) R Z
  have I:CU V (z.map λv=>C.d (.v v)) zv.cells:=by
   refine⟨by rw [gc,<-s];simp,λj c v T S=>?_⟩;simp only [d9,d6] at T;obtain⟨u,k,rfl⟩:=T
   have:u=v:=by
    rw [<-s] at k;simp only [lE] at k;rw [k] at S;exact Option.some.inj S
   subst this;exact .d (.v (f7.1 M u (co k)))
  obtain⟨cells,G,h4⟩:=Fc _ _ _ _ Q I (λx J=>by rw [gc];exact Ht _ _ N x J);have r:=hf.out
  have b:(parts.map λ(i,x)=>(i,ρ x)).toList=parts.toList.map λ(i,x)=>(i,ρ x):=by simp
  refine⟨.agg cells,?_,cells,rfl,h4⟩
  have hb : (Instr.build t (parts.map λ(i,x)=>(i,ρ x))).run P V.w=.ok (.agg cells) V.w:=by
   unfold fX at r;split at r
   ·rename_i fs k
    have L:∀(l:List Field) (ll:List (Nat×Nat)),(l.mapM λf=>(P.info? f.type).map λi=>(f.offset,i.size))=some ll->∀w,((l.mapM λf=>do pure (f.offset,<-sizeOf f.type)):Sem (List (Nat×Nat))).run P w=.ok ll w:=by
     intro l
     induction l with
     | nil=>intro ll h w;simp at h;subst h;simp [go_sem]
     | cons y l H=>
      intro ll h w;simp only [mt,nU,kI,d6] at h;obtain⟨p,⟨ii,o,rfl⟩,ll',h5,X⟩:=h;simp at X;subst X
      have K:(sizeOf y.type).run P w=.ok ii.size w:=by simp [sizeOf,typeInfo,o,go_sem]
      have ihh:=H ll' h5 w;simp only [bind_pure_comp] at ihh;simp only [mt,kL,K,kF,bind_pure_comp,mJ,ihh]
    have B:=L fs.toList fl r V.w
    have m:(zeroValue t).run P V.w=.ok zv V.w:=by simp [zeroValue,typeInfo,hi,A,go_sem]
    have ha:((fs.mapM λf=>do pure (f.offset,<-sizeOf f.type)):Sem (Array (Nat×Nat))).run P V.w=.ok fl.toArray V.w:=by
     rw [nj,mJ,B];rfl
    rw [<-b] at G;simp only [Instr.build,kL,m,kF,run_underlying k,ha];simp only [lI];rw [G];rfl
   ·rename_i n e k
    simp only [d6] at r;obtain⟨ii,o,rfl⟩:=r
    have m:(zeroValue t).run P V.w=.ok zv V.w:=by simp [zeroValue,typeInfo,hi,A,go_sem]
    have K:(sizeOf e).run P V.w=.ok ii.size V.w:=by simp [sizeOf,typeInfo,o,go_sem]
    have q:∀(ps:List (Nat×Value)) (c c':Array Value),Instr.fill (λi=>((List.range n).map λj=>(j*ii.size,ii.size))[i]?) c ps=some c'->Instr.fill (λi=>some (i*ii.size,ii.size)) c ps=some c':=by
     intro ps
     induction ps with
     | nil=>intro c c' h;simpa [Instr.fill] using h
     | cons p ps H=>
      intro c c' h;obtain⟨i',v'⟩:=p;unfold Instr.fill at h |-;by_cases F:i' < n
      ·simp only [d9,mC F,lu] at h
       simp only at h |-;split at h
       ·cases h
       ·rename_i hno
        rw [if_neg hno];exact H _ _ (by simpa only [d9] using h)
      ·simp [F] at h
    rw [<-b] at G;simp only [Instr.build,kL,m,kF,run_underlying k,K];rw [q _ _ _ G];rfl
   ·cases r
  show ((do let v <-Instr.build t (parts.map λ(i,x)=>(i,ρ x));pure (Go.Next.value v):Sem Go.Next)).run P V.w=_
  simp only [kL,hb,kF];rfl
end
theorem QW{P:Program}{Γ:Ctx}{o:Oper}{L:List (Nat×E)}{σ:Ab}{nx:Nat}{K:E->Ab->Nat->Prop}{b:Option Addr}(t:Tmp)(j:look L t=some (.o (.d (.v (.slice b 0 0)))))(h:BZ P TB Γ o (look ((t,.e)::L)) σ nx K):BZ P TB Γ o (look L) σ nx K:=by
 intro V a i l k;refine h V a ?_ l k;intro t' e' f c;rw [Av] at c;by_cases g:t=t'
 ·subst g
  rw [if_pos rfl] at c
  injection c with c
  subst c;exact⟨b,Az.val (i t _ f j)⟩
 ·rw [if_neg g] at c
  exact i t' e' f c
theorem YT{P:Program}{Γ:Ctx}{ops:Array Oper}{fl:Fl}{i n:Nat}{L:List (Nat×E)}{σ:Ab}{nx:Nat}{K:Env->Ab->Nat->Prop}{op:Op}{ty:TypeId}{pos:String}{af:Array Edge}{g:Option (Nat×Bool)}
 (h:BZ P TB Γ ⟨none,op,ty,pos,af,g⟩ (look L) σ nx (λ_ σ' nx'=>Kept (fl i - 1000) σ σ'/\Lex P TB Γ ops (Ai fl (i+1) n) K (look L) σ' nx')) (b:Bk ops ⟨none,op,ty,pos,af,g⟩ (look L)=some true) (c:Nat.ble 10 (fl i)=true/\Nat.ble 1000 (fl i)=true):Br P TB Γ ops ⟨none,op,ty,pos,af,g⟩ fl i n K L σ nx:=
 λa=>UB a b c h
end Go.Am
