/-
  Arrays of arrays of the call's own: the inner ones lie sealed, one of them at a time is taken out and put back.
-/
import Derived.Test.YtgpbfllcjdfelaaGreatDoorPart15
import Derived.Test.YtgpbfllcjdfelaaGreatDoorPart14
set_option linter.all false
namespace Go.Am
open Go
abbrev IL:=List (Value×List Int)
def sI(l:IL):List (Value×List Value):=l.map λx=>(x.1,x.2.map (.int .i64))
def AR(l:IL):List (List C):=l.map λx=>[.d (.v x.1)]
abbrev JN(xs:List Int):List (List C):=xs.map Az
theorem dk{V:View}{i k off n:Nat}{v:Value}(h:AA V (.arr i k off n) v):(V.nl i/\off=0/\n=0/\v=.slice none 0 0)\/(¬V.nl i/\off+n<=V.cap i/\v=.slice (some ⟨V.ρ i,off*k,none⟩) n (V.cap i - off)):=by
 cases h with
 | nil _ h=>exact .inl ⟨h,rfl,rfl,rfl⟩
 | arr _ b a=>exact .inr ⟨b,a,rfl⟩
theorem Jf(l m:IL):sI (l++m)=sI l++sI m:=nO
theorem BC(l m:IL):AR (l++m)=AR l++AR m:=nO
theorem Dj(l:IL):(AR l).length=l.length:=f7 _
theorem Tf(r:Nat->Nat)(l:IL):(AR l).map (C.BK r)=AR l:=by
 unfold AR;rw [nV];rfl
theorem bA(l:List Int):(JN l).length=l.length:=f7 _
section
variable {P:Program}{TB:Bi}{Γ:Ctx}{N:Nat}{V:View}{σ:Ab}{a i s:Nat}{T Ta:TypeId}{R1 R2:List (List C)}{xs:List Int}{l1 l2:IL}
theorem UW{l:IL}{x:Value×List Value}(h:x∈sI l):∃y∈l,x=(y.1,y.2.map (.int .i64)):=by
 obtain⟨y,a,rfl⟩:=em.1 h;exact⟨y,a,rfl⟩
theorem Inv.put(h:Inv TB Γ V σ)(ha:look σ a=some (.cells Ta 1 (R1++[.arr i 1 0 xs.length]::R2)))(hi:look σ i=some (.cells T 1 (JN xs)))(N:look σ s=some (.sld T (sI (l1++l2)))) :
 ∃v,Inv TB Γ V ((a,.cells Ta 1 (R1++[.d (.v v)]::R2))::(s,.sld T (sI (l1++(v,xs)::l2)))::kill i σ):=by
 have has:a≠s:=λe=>by rw [e,N] at ha;cases ha
 have Y:i≠s:=λe=>by rw [e,N] at hi;cases hi
 have hai:a≠i:=λe=>by
  rw [e,hi] at ha
  injection ha with ha;injection ha with _ _ ha
  have A:(JN xs)[R1.length]? = some [.arr i 1 0 xs.length]:=by rw [ha];simp
  rw [d9,d7] at A;obtain⟨x,_,z⟩:=A;cases z
 rcases h.st.obj a _ ha with ⟨_,h0⟩|⟨hna,cur,Q,M,h4,h5,h6,h7⟩
 ·simp at h0
 obtain⟨v,hv,P⟩:=h7 R1.length [.arr i 1 0 xs.length] 0 (.arr i 1 0 xs.length) (by simp) rfl;have P:=dk P
 have hsl:NT v=true:=by rcases P with ⟨_,_,_,rfl⟩|⟨_,_,rfl⟩<;>rfl
 have H:∀b,IZ v b->¬V.nl i/\b=V.ρ i:=by
  rintro b ⟨o,n,c,rfl⟩
  rcases P with ⟨_,_,_,hw⟩|⟨m,_,hw⟩
  ·cases hw
  ·injection hw with hw;injection hw with hw;injection hw with hw;exact⟨m,hw⟩
 have J:Jm V.w T v (xs.map (.int .i64)):=by
  rcases h.st.obj i _ hi with ⟨F,u⟩|⟨hni,cur',u,B,g4,g5,g6,g7⟩
  ·have:xs=[]:=by simpa using u
   subst this
   rcases P with ⟨_,_,_,rfl⟩|⟨m,_⟩
   ·exact .inl ⟨rfl,rfl⟩
   ·exact absurd F m
  ·rcases P with ⟨m,_⟩|⟨_,hle,rfl⟩
   ·exact absurd m hni
   ·refine .inr ⟨V.ρ i,V.cap i,cur',by simp,u,by simpa using B,by rw [bA] at g4;simpa using g4,g5,λj x L=>?_⟩
    rw [d9,d7] at L;obtain⟨n,m,rfl⟩:=L;obtain⟨w,hw,hcw⟩:=g7 j [.d (.v (.int .i64 n))] 0 (.d (.v (.int .i64 n))) (by simp [JN,m]) rfl;have:w=.int .i64 n:=AA.val hcw;subst this;exact⟨by simpa using hw,rfl⟩
 refine⟨v,?_⟩;have look':∀id o,look ((a,.cells Ta 1 (R1++[.d (.v v)]::R2))::(s,.sld T (sI (l1++(v,xs)::l2)))::kill i σ) id=some o->
  (id=a/\o=.cells Ta 1 (R1++[.d (.v v)]::R2))\/(id=s/\o=.sld T (sI (l1++(v,xs)::l2)))\/(id≠a/\id≠s/\id≠i/\look σ id=some o):=λid o f=>by
  rw [Ax] at f;by_cases A:a=id
  ·rw [if_pos A] at f;injection f with f;exact .inl ⟨A.symm,f.symm⟩
  ·rw [if_neg A,Ax] at f
   by_cases Q:s=id
   ·rw [if_pos Q] at f;injection f with f;exact .inr (.inl ⟨Q.symm,f.symm⟩)
   ·rw [if_neg Q,Et] at f
    by_cases M:id=i
    ·rw [if_pos M] at f;cases f
    ·rw [if_neg M] at f;exact .inr (.inr ⟨Ne.symm A,Ne.symm Q,M,f⟩)
 have hsb:∀b,DY V s (.sld T (sI (l1++(v,xs)::l2))) b->DY V s (.sld T (sI (l1++l2))) b\/(¬V.nl i/\b=V.ρ i):=by
  rintro b ⟨x,z,hb⟩;obtain⟨y,l,rfl⟩:=UW z
  rcases f9.1 l with l|l
  ·exact .inl ⟨_,em.2 ⟨y,m9 _ l,rfl⟩,hb⟩
  ·rcases lc.1 l with rfl|l
   ·exact .inr (H b hb)
   ·exact .inl ⟨_,em.2 ⟨y,nI _ l,rfl⟩,hb⟩
 have p:=h.st.obj s _ N
 have G:∀x∈sI (l1++l2),∀b,IZ x.1 b->¬IZ v b:=λx z b hb t=>by
  obtain⟨m,rfl⟩:=H b t;exact h.st.inj s i _ _ N hi (Ne.symm Y) p.1 m _ ⟨x,z,hb⟩ rfl
 have src:∀id o,look ((a,.cells Ta 1 (R1++[.d (.v v)]::R2))::(s,.sld T (sI (l1++(v,xs)::l2)))::kill i σ) id=some o->¬V.nl id->∀b,DY V id o b->∃g I,look σ g=some I/\¬V.nl g/\DY V g I b/\(g=id\/g=i/\id=s):=λid o f m b hb=>by
  rcases look' id o f with ⟨rfl,rfl⟩|⟨rfl,rfl⟩|⟨_,_,_,f⟩
  ·exact⟨_,_,ha,m,hb,.inl rfl⟩
  ·rcases hsb b hb with hb|⟨A,rfl⟩
   ·exact⟨_,_,N,m,hb,.inl rfl⟩
   ·exact⟨_,_,hi,A,rfl,.inr ⟨rfl,rfl⟩⟩
  ·exact⟨_,_,f,m,hb,.inl rfl⟩
 have noi:∀id o,look ((a,.cells Ta 1 (R1++[.d (.v v)]::R2))::(s,.sld T (sI (l1++(v,xs)::l2)))::kill i σ) id=some o->id≠i:=λid o f=>by
  rcases look' id o f with ⟨rfl,rfl⟩|⟨rfl,rfl⟩|⟨_,_,M,_⟩
  ·exact hai
  ·exact Ne.symm Y
  ·exact M
 refine⟨h.os,h.tape,h.output,h.old,h.iLt,h.iNew,h.ext,⟨λid o f=>?_,λid o f=>?_,λid o f m b hb=>?_,λid id' o o' f S X m hn' b hb t=>?_⟩,λid o f m b hb=>?_,h.tabs,h.hid.same rfl (λ_ h=>h) (λ_ h=>.inl h) λb ⟨id,o,f,m,hb⟩=>let ⟨g,I,F,u,B,_⟩:=src id o f m b hb;⟨g,I,F,u,B⟩⟩
 ·rcases look' id o f with ⟨rfl,rfl⟩|⟨rfl,rfl⟩|⟨_,_,_,f⟩
  ·refine .inr ⟨hna,cur,Q,M,by simpa using h4,h5,λr K=>?_,λq r j c hq L=>?_⟩
   ·rcases f9.1 K with K|K
    ·exact h6 r (m9 _ K)
    ·rcases lc.1 K with rfl|K
     ·rfl
     ·exact h6 r (nI _ (nq _ K))
   ·by_cases hq0:q=R1.length
    ·subst hq0
     simp at hq;subst hq
     have hj0:j=0:=by have:=(am.1 L).1;simp at this;omega
     subst hj0;simp at L;subst L;exact⟨v,hv,.d (.v hsl)⟩
    ·refine h7 q r j c ?_ L
     rw [<-hq]
     rcases nh q R1.length with Z|Z
     ·rw [d8 Z,d8 Z]
     ·rw [ge Z,ge Z]
      obtain⟨k,hk⟩:∃k,q - R1.length=k+1:=⟨q - R1.length - 1,by omega⟩
      rw [hk];rfl
  ·refine⟨p.1,?_,λx z=>?_⟩
   ·have hp:=p.2.1
    rw [Jf,oK] at hp;rw [Jf,oK];refine⟨hp.1,nN.2 ⟨λy l b hb t=>G y (by rw [Jf];exact nI _ l) b t hb,hp.2.1⟩,λx z y l=>?_⟩
    rcases lc.1 l with rfl|l
    ·exact λb hb=>G x (by rw [Jf];exact m9 _ z) b hb
    ·exact hp.2.2 x z y l
   ·obtain⟨y,l,rfl⟩:=UW z
    rcases f9.1 l with l|l
    ·exact p.2.2 _ (em.2 ⟨y,m9 _ l,rfl⟩)
    ·rcases lc.1 l with rfl|l
     ·exact J
     ·exact p.2.2 _ (em.2 ⟨y,nI _ l,rfl⟩)
  ·exact h.st.obj id o f
 ·rcases look' id o f with ⟨rfl,rfl⟩|⟨rfl,rfl⟩|⟨_,_,_,f⟩
  ·exact h.st.lt _ _ ha
  ·exact h.st.lt _ _ N
  ·exact h.st.lt _ _ f
 ·obtain⟨g,I,F,u,B,_⟩:=src id o f m b hb
  exact h.st.free _ _ F u b B
 ·obtain⟨g,I,F,u,B,g4⟩:=src id o f m b hb
  obtain⟨R,o0',g1',g2',g3',g4'⟩:=src id' o' S hn' b t;refine h.st.inj g R _ _ F g1' ?_ u g2' b B g3';have n1:=noi id o f;have n2:=noi id' o' S;rintro rfl
  rcases g4 with rfl|⟨rfl,rfl⟩<;>rcases g4' with rfl|⟨e1,rfl⟩
  ·exact X rfl
  ·exact n1 e1
  ·exact n2 rfl
  ·exact X rfl
 ·obtain⟨g,I,F,u,B,_⟩:=src id o f m b hb
  exact h.live _ _ F u b B
theorem Au.put{c:Code}{Q:Exit->Env->Ab->Nat->Prop}{f:Env}{nx:Nat}(a i s:Nat)(R1 R2:List (List C))(xs:List Int)(l1 l2:IL)(ha:look σ a=some (.cells Ta 1 (R1++[.arr i 1 0 xs.length]::R2)))(hi:look σ i=some (.cells T 1 (JN xs)))(g:look σ s=some (.sld T (sI (l1++l2))))
 (h:∀v,Au P TB Γ N c Q f ((a,.cells Ta 1 (R1++[.d (.v v)]::R2))::(s,.sld T (sI (l1++(v,xs)::l2)))::kill i σ) nx):Au P TB Γ N c Q f σ nx:=by
 intro V ac b;obtain⟨v,e⟩:=b.inv.put ha hi g;exact h v V ac ⟨b.env,b.lt,b.size,e,b.nx,b.defers⟩
theorem Inv.take{v:Value}(h:Inv TB Γ V σ)(ha:look σ a=some (.cells Ta 1 (R1++[.d (.v v)]::R2)))(hs:look σ s=some (.sld T (sI (l1++(v,xs)::l2)))) :
 ∃V',V'.w=V.w/\V'.nx=V.nx+1/\Ext V V'/\Inv TB Γ V' ((a,.cells Ta 1 (R1++[.arr V.nx 1 0 xs.length]::R2))::(V.nx,.cells T 1 (JN xs))::(s,.sld T (sI (l1++l2)))::σ):=by
 have has:a≠s:=λe=>by rw [e,hs] at ha;cases ha
 have p:=h.st.obj s _ hs;have hsn:=h.st.lt _ _ hs;have l:=h.st.lt _ _ ha;have K:((v,xs.map (.int .i64)):Value×List Value)∈sI (l1++(v,xs)::l2):=em.2 ⟨(v,xs),by simp,rfl⟩
 obtain⟨u,cap,nl,hb0,hcr,hob⟩:∃u cap nl,(¬nl->IZ v u)/\AA (Aw V u cap nl V.w) (.arr V.nx 1 0 xs.length) v/\Ch (Aw V u cap nl V.w) V.nx (.cells T 1 (JN xs)):=by
  rcases p.2.2 _ K with ⟨m,G⟩|⟨b,cap,cur,m,G,z,h4,h5,h6⟩
  ·have m:v=.slice none 0 0:=m
   have hx0:xs=[]:=by simpa using G
   subst m;subst hx0;exact⟨0,0,True,λh=>absurd trivial h,.nil (by simp [Aw]) (by simp [Aw]),.inl ⟨by simp [Aw],rfl⟩⟩
  ·have m:v=.slice (some ⟨b,0,none⟩) (xs.map (Value.int .i64)).length cap:=m
   rw [f7] at m h4;refine⟨b,cap,False,λ_=>⟨_,_,_,m⟩,?_,.inr ⟨by simp [Aw],cur,by simpa [Aw] using G,by simpa [Aw] using z,by simpa [Aw] using h4,by simpa [Aw] using h5,λr A=>?_,λq r j c Z L=>?_⟩⟩
   ·rw [m]
    have:=@AA.arr (Aw V b cap False V.w) V.nx 1 0 xs.length (by simp [Aw]) (by simp [Aw]) (by simpa [Aw] using h4)
    simpa [Aw] using this
   ·obtain⟨n,_,rfl⟩:=em.1 A;rfl
   ·rw [d9,d7] at Z
    obtain⟨n,t,rfl⟩:=Z
    have R:j=0:=by have:=(am.1 L).1;simp at this;omega
    subst R;simp at L;subst L;exact⟨.int .i64 n,by simpa using (h6 q (.int .i64 n) (by simp [t])).1,.d (.v rfl)⟩
 have e:Ext V (Aw V u cap nl V.w):=Ec (io _) λ_ _=>rfl
 have hρ:(Aw V u cap nl V.w).ρ V.nx=u:=by simp [Aw]
 have hnl:(Aw V u cap nl V.w).nl V.nx↔nl:=by simp [Aw]
 refine⟨Aw V u cap nl V.w,rfl,rfl,e,?_⟩;have look':∀id o,look ((a,.cells Ta 1 (R1++[.arr V.nx 1 0 xs.length]::R2))::(V.nx,.cells T 1 (JN xs))::(s,.sld T (sI (l1++l2)))::σ) id=some o->
  (id=a/\o=.cells Ta 1 (R1++[.arr V.nx 1 0 xs.length]::R2))\/(id=V.nx/\o=.cells T 1 (JN xs))\/(id=s/\o=.sld T (sI (l1++l2)))\/(id≠a/\id≠s/\look σ id=some o):=λid o f=>by
  rw [Ax] at f;by_cases m:a=id
  ·rw [if_pos m] at f;injection f with f;exact .inl ⟨m.symm,f.symm⟩
  ·rw [if_neg m,Ax] at f
   by_cases G:V.nx=id
   ·rw [if_pos G] at f;injection f with f;exact .inr (.inl ⟨G.symm,f.symm⟩)
   ·rw [if_neg G,Ax] at f
    by_cases z:s=id
    ·rw [if_pos z] at f;injection f with f;exact .inr (.inr (.inl ⟨z.symm,f.symm⟩))
    ·rw [if_neg z] at f;exact .inr (.inr (.inr ⟨Ne.symm m,Ne.symm z,f⟩))
 have J:∀x∈sI (l1++l2),x∈sI (l1++(v,xs)::l2):=λx i=>by
  obtain⟨y,P,rfl⟩:=UW i;refine em.2 ⟨y,?_,rfl⟩
  rcases f9.1 P with P|P
  ·exact m9 _ P
  ·exact nI _ (nq _ P)
 have hp:=p.2.1;rw [Jf,oK] at hp;have hp2:=nN.1 hp.2.1
 have M:∀x∈sI (l1++l2),∀b,IZ x.1 b->¬IZ v b:=λx i b hb F=>by
  rw [Jf] at i
  rcases f9.1 i with i|i
  ·exact hp.2.2 x i _ (og ..) b hb F
  ·exact hp2.1 x i b F hb
 have src:∀id o,look ((a,.cells Ta 1 (R1++[.arr V.nx 1 0 xs.length]::R2))::(V.nx,.cells T 1 (JN xs))::(s,.sld T (sI (l1++l2)))::σ) id=some o->¬(Aw V u cap nl V.w).nl id->∀b,DY (Aw V u cap nl V.w) id o b->
  ∃g N,look σ g=some N/\¬V.nl g/\DY V g N b/\(g=id\/g=s/\id=V.nx/\IZ v b)/\(id=s->∃x∈sI (l1++l2),IZ x.1 b):=λid o f t b hb=>by
  rcases look' id o f with ⟨rfl,rfl⟩|⟨rfl,rfl⟩|⟨rfl,rfl⟩|⟨_,z,f⟩
  ·exact⟨_,_,ha,λh=>t ((e.nl _ l).2 h),by have:b=_:=hb;rw [e.ρ _ l] at this;exact this,.inl rfl,λe=>absurd e has⟩
  ·have hb:b=_:=hb
   rw [hρ] at hb;subst hb;have hv:=hb0 λh=>t (hnl.2 h);exact⟨_,_,hs,p.1,⟨_,K,hv⟩,.inr ⟨rfl,rfl,hv⟩,λe=>by omega⟩
  ·obtain⟨x,i,hb⟩:=hb
   exact⟨_,_,hs,p.1,⟨x,J x i,hb⟩,.inl rfl,λ_=>⟨x,i,hb⟩⟩
  ·have hlt:=h.st.lt _ _ f
   exact⟨_,_,f,λh=>t ((e.nl _ hlt).2 h),(AE e hlt).1 hb,.inl rfl,λe=>absurd e z⟩
 refine⟨h.os,h.tape,h.output,h.old,h.iLt,h.iNew,h.ext.trans e,⟨λid o f=>?_,λid o f=>?_,λid o f t b hb=>?_,λid id' o o' f ho' hne t hn' b hb F=>?_⟩,λid o f t b hb=>?_,h.tabs,h.hid.same rfl (λ_ h=>h) (λ_ h=>.inl h) λb ⟨id,o,f,t,hb⟩=>let ⟨g,N,Y,X,S,_⟩:=src id o f t b hb;⟨g,N,Y,X,S⟩⟩
 ·rcases look' id o f with ⟨rfl,rfl⟩|⟨rfl,rfl⟩|⟨rfl,rfl⟩|⟨_,_,f⟩
  ·rcases h.st.obj _ _ ha with ⟨_,h0⟩|⟨hna,cur,G,z,h4,h5,h6,h7⟩
   ·simp at h0
   refine .inr ⟨λh=>hna ((e.nl _ l).1 h),cur,by rw [e.ρ _ l];exact G,by rw [e.cap _ l];exact z,by rw [e.cap _ l];simpa using h4,by rw [e.cap _ l];exact h5,λr A=>?_,λq r j c Z L=>?_⟩
   ·rcases f9.1 A with A|A
    ·exact h6 r (m9 _ A)
    ·rcases lc.1 A with rfl|A
     ·rfl
     ·exact h6 r (nI _ (nq _ A))
   ·by_cases hq0:q=R1.length
    ·subst hq0
     simp at Z;subst Z
     have R:j=0:=by have:=(am.1 L).1;simp at this;omega
     subst R;simp at L;subst L;obtain⟨w,hw,hc⟩:=h7 R1.length [.d (.v v)] 0 (.d (.v v)) (by simp) rfl;have hw2:w=v:=AA.val hc;subst hw2;exact⟨w,hw,hcr⟩
    ·obtain⟨w,hw,hc⟩:=h7 q r j c (by
      rw [<-Z]
      rcases nh q R1.length with h8|h8
      ·rw [d8 h8,d8 h8]
      ·rw [ge h8,ge h8]
       obtain⟨k,hk⟩:∃k,q - R1.length=k+1:=⟨q - R1.length - 1,by omega⟩
       rw [hk];rfl) L
     exact⟨w,hw,hc.ext e⟩
  ·exact hob
  ·refine⟨λh=>p.1 ((e.nl _ hsn).1 h),?_,λx i=>p.2.2 x (J x i)⟩
   rw [Jf,oK];exact⟨hp.1,hp2.2,λx i y P=>hp.2.2 x i y (nq _ P)⟩
  ·exact(h.st.obj id o f).Bn e (h.st.lt id o f) λ_ _ _=>rfl
 ·rcases look' id o f with ⟨rfl,rfl⟩|⟨rfl,rfl⟩|⟨rfl,rfl⟩|⟨_,_,f⟩
  ·exact oN l
  ·exact oY _
  ·exact oN hsn
  ·exact oN (h.st.lt _ _ f)
 ·obtain⟨g,N,Y,X,S,_⟩:=src id o f t b hb
  exact h.st.free _ _ Y X b S
 ·obtain⟨g,N,Y,X,S,g4,g5⟩:=src id o f t b hb
  obtain⟨I,o0',g1',g2',g3',H,g5'⟩:=src id' o' ho' hn' b F;by_cases B:g=I
  ·rcases g4 with g4|⟨k1,k2,k3⟩<;>rcases H with H|⟨k1',k2',k3'⟩
   ·exact hne (by rw [<-g4,<-H,B])
   ·obtain⟨x,i,Q⟩:=g5 (by rw [<-g4,B,k1'])
    exact M x i b Q k3'
   ·obtain⟨x,i,Q⟩:=g5' (by rw [<-H,<-B,k1])
    exact M x i b Q k3
   ·exact hne (by rw [k2,k2'])
  ·exact h.st.inj g I _ _ Y g1' B X g2' b S g3'
 ·obtain⟨g,N,Y,X,S,_⟩:=src id o f t b hb
  exact h.live _ _ Y X b S
theorem Au.take{c:Code}{Q:Exit->Env->Ab->Nat->Prop}{f:Env}{nx:Nat}(a s:Nat)(R1 R2:List (List C))(v:Value)(xs:List Int)(l1 l2:IL)(ha:look σ a=some (.cells Ta 1 (R1++[.d (.v v)]::R2)))(g:look σ s=some (.sld T (sI (l1++(v,xs)::l2))))
 (h:Au P TB Γ N c Q f ((a,.cells Ta 1 (R1++[.arr nx 1 0 xs.length]::R2))::(nx,.cells T 1 (JN xs))::(s,.sld T (sI (l1++l2)))::σ) (nx+1)):Au P TB Γ N c Q f σ nx:=by
 intro V ac b;obtain⟨V',j,i,e,hi⟩:=b.inv.take ha g;have:=h V' ac ⟨b.env.ext e,b.lt,b.size,by have:=b.nx;subst this;exact hi,by rw [i,b.nx],b.defers⟩;rw [j] at this;exact this
theorem Au.iE{c:Code}{Q:Exit->Env->Ab->Nat->Prop}{f:Env}{nx:Nat}(T:TypeId)(h:Au P TB Γ N c Q f ((nx,.sld T (sI []))::σ) (nx+1)):Au P TB Γ N c Q f σ nx:=by
 intro V ac k;have hi:=k.inv;have e:Ext V (Aw V 0 0 False V.w):=Ec (io _) λ_ _=>rfl;have p:=k.nx;subst p
 have look':∀id o,look ((V.nx,.sld T (sI []))::σ) id=some o->(id=V.nx/\o=.sld T (sI []))\/(id≠V.nx/\look σ id=some o):=λid o a=>by
  rw [Ax] at a;by_cases d:V.nx=id
  ·rw [if_pos d] at a;injection a with a;exact .inl ⟨d.symm,a.symm⟩
  ·rw [if_neg d] at a;exact .inr ⟨Ne.symm d,a⟩
 have src:∀id o,look ((V.nx,.sld T (sI []))::σ) id=some o->∀b,DY (Aw V 0 0 False V.w) id o b->look σ id=some o/\DY V id o b/\((Aw V 0 0 False V.w).nl id↔V.nl id):=λid o a b hb=>by
  rcases look' id o a with ⟨rfl,rfl⟩|⟨_,a⟩
  ·obtain⟨x,m,_⟩:=hb;cases m
  ·have l:=hi.st.lt _ _ a
   exact⟨a,(AE e l).1 hb,e.nl _ l⟩
 refine h (Aw V 0 0 False V.w) ac ⟨k.env.ext e,k.lt,k.size,?_,rfl,k.defers⟩;refine⟨hi.os,hi.tape,hi.output,hi.old,hi.iLt,hi.iNew,hi.ext.trans e,⟨λid o a=>?_,λid o a=>?_,λid o a g b hb=>?_,λid id' o o' a n q g r b hb s=>?_⟩,λid o a g b hb=>?_,hi.tabs,hi.hid.same rfl (λ_ h=>h) (λ_ h=>.inl h) λb ⟨id,o,a,g,hb⟩=>let ⟨d,j,i⟩:=src id o a b hb;⟨id,o,d,λh=>g (i.2 h),j⟩⟩
 ·rcases look' id o a with ⟨rfl,rfl⟩|⟨_,a⟩
  ·exact⟨by simp [Aw],List.Pairwise.nil,λx m=>by cases m⟩
  ·exact(hi.st.obj id o a).Bn e (hi.st.lt id o a) λ_ _ _=>rfl
 ·rcases look' id o a with ⟨rfl,rfl⟩|⟨_,a⟩
  ·exact oY _
  ·exact oN (hi.st.lt _ _ a)
 ·obtain⟨d,j,i⟩:=src id o a b hb
  exact hi.st.free _ _ d (λh=>g (i.2 h)) b j
 ·obtain⟨d,j,i⟩:=src id o a b hb
  obtain⟨v,u,t⟩:=src id' o' n b s;exact hi.st.inj _ _ _ _ d v q (λh=>g (i.2 h)) (λh=>r (t.2 h)) b j u
 ·obtain⟨d,j,i⟩:=src id o a b hb
  exact hi.live _ _ d (λh=>g (i.2 h)) b j
def C.Ol:C->Bool
 | .d (.v _)|.d (.l [])|.arr ..|.ptr ..|.mp _|.fn _ []=>true
 | _=>false
def O.Ol:O->Prop
 | .cells _ _ rows=>∀r∈rows,∀c∈r,C.Ol c=true
 | _=>True
def E.Ol:E->Prop
 | .o c=>C.Ol c=true
 | .a cs=>∀c∈cs,C.Ol c=true
 | .t xs=>∀x∈xs,∀c∈x.2,C.Ol c=true
 | .e=>True
def lr(σ:Ab):Prop:=∀x∈σ,O.Ol x.2
theorem lr.get{σ:Ab}(h:lr σ){id:Nat}{o:O}(a:look σ id=some o):O.Ol o:=by
 induction σ with
 | nil=>cases a
 | cons x r b=>
  obtain⟨k,y⟩:=x;rw [Ax] at a;by_cases hk:k=id
  ·rw [if_pos hk] at a;injection a with a;subst a;exact h _ (og ..)
  ·rw [if_neg hk] at a;exact b (λz c=>h z (nq _ c)) a
structure RO (V V':View):Prop where
 ρ:V'.ρ=V.ρ
 cap:V'.cap=V.cap
 nl:V'.nl=V.nl
 nx:V'.nx=V.nx
 w:V'.w=V.w
theorem AA.Ol{V V':View}(s:RO V V'){c:C}{v:Value}(h:AA V c v)(i:c.Ol=true):AA V' c v:=by
 cases h with
 | @d x v h=>
  cases h with
  | v h=>exact .d (.v h)
  | nil=>exact .d .nil
  | e h=>exact .d (.e h)
  | @l rows b o k cap vs hb a g m r q=>
   cases rows with
   | nil=>exact .d (.e g)
   | cons=>cases i
  | p=>cases i
 | nil a g=>exact .nil (by rw [s.nx];exact a) (by rw [s.nl];exact g)
 | @arr id k off len a g m=>rw [<-s.ρ,<-s.cap];exact .arr (by rw [s.nx];exact a) (by rw [s.nl];exact g) (by rw [s.cap];exact m)
 | ptr a g=>rw [<-s.ρ];exact .ptr (by rw [s.nx];exact a) (by rw [s.nl];exact g)
 | @fn f cap vs a g=>
  cases cap with
  | nil=>exact .fn a λj c v n=>by simp at n
  | cons=>cases i
 | mp a=>rw [<-s.ρ];exact .mp (by rw [s.nx];exact a)
 | mv=>cases i
theorem A2.Ol{V V':View}(s:RO V V'){e:E}{v:Value}(h:A2 V e v)(i:e.Ol):A2 V' e v:=by
 cases e with
 | o c=>exact AA.Ol s h i
 | a cs=>obtain⟨vs,n,m,l⟩:=h;exact⟨vs,n,m,λj c v d f=>(l j c v d f).Ol s (i c (ce d))⟩
 | t xs=>
  obtain⟨vs,n,m,l⟩:=h;refine⟨vs,n,m,λj x v d f=>?_⟩;have q:=l j x v d f;have p:=i x (ce d);obtain⟨b,cs⟩:=x;cases b
  ·obtain⟨c,g,k⟩:=q
   have g:cs=[c]:=g;subst g;exact⟨c,rfl,k.Ol s (p c (by simp))⟩
  ·obtain⟨ws,g,k,r⟩:=q
   exact⟨ws,g,k,λj c v d f=>(r j c v d f).Ol s (p c (ce d))⟩
 | e=>exact h
theorem Ch.Ol{V V':View}(s:RO V V'){id:Nat}{o:O}(h:Ch V id o)(f:o.Ol):Ch V' id o:=by
 cases o with
 | cells T k rows=>
  rcases h with ⟨b,a⟩|⟨d,cur,a,u,t,q,p,n⟩
  ·exact .inl ⟨by rw [s.nl];exact b,a⟩
  ·refine .inr ⟨by rw [s.nl];exact d,cur,by rw [s.w,s.ρ];exact a,by rw [s.cap];exact u,by rw [s.cap];exact t,by rw [s.cap];exact q,p,λi r j c hi e=>?_⟩
   obtain⟨v,m,g⟩:=n i r j c hi e;exact⟨v,m,g.Ol s (f r (ce hi) c (ce e))⟩
 | mp es=>obtain⟨d,ents,clock,b,a⟩:=h;exact⟨by rw [s.nl];exact d,ents,clock,by rw [s.w,s.ρ];exact b,a⟩
 | sld T l=>exact⟨by rw [s.nl];exact h.1,by rw [s.w];exact h.2⟩
section
variable {o:Oper}{f:Env}{nx:Nat}
theorem Zn{V:View}{S:RP}(h:Inv TB Γ V σ)(c:LC TB V σ S):Inv TB (Fc (Gi V σ) (Gi V σ) [] S) (Gi V σ) []:=
 ⟨rfl,rfl,rfl,λ_ _ _=>rfl,λb hb=>by
  rcases hb with hb|⟨id,o,e,d,hb⟩
  ·exact h.iLt b hb
  ·exact(h.st.obj id o e).blt d hb,λ_ h=>.inl h,Ext.refl _,DL,λid o f=>(by cases f),λx a=>⟨.inl (h.tabs x a).1,(h.tabs x a).2⟩,⟨S,⟨c.r,λb hb=>.inl (c.ji b hb),λb hb hi=>hi.elim (c.bi b hb) λ⟨id,o,e,d,a⟩=>c.ap b ⟨id,o,e,d,a⟩ hb,λb ⟨_,_,h,_⟩=>by cases h⟩,λb hb=>.inl hb,λb hb=>.inr (.inr hb)⟩⟩
theorem XW{V V':View}{σ':Ab}{S:RP}(d:Inv TB Γ V σ)(N:LC TB V σ S)(H:∀b,S.J b->Γ.J b\/Γ.V.w.heap.size<=b\/Γ.F b)(n:∀b,S.B b->Γ.V.w.heap.size<=b\/Γ.F b)(m:Ext (Gi V σ) V')(hi:Inv TB (Fc (Gi V σ) (Gi V σ) [] S) V' σ')(G:lr σ') :
 ∃V3,RO V' V3/\Ext V V3/\Inv TB Γ V3 (σ'++σ):=by
 have s:RO V' { V' with I:=λb=>V.I b\/(V'.I b/\(V.w.heap.size<=b\/S.B b)) } := ⟨rfl,rfl,rfl,rfl,rfl⟩
 have e:Ext V { V' with I:=λb=>V.I b\/(V'.I b/\(V.w.heap.size<=b\/S.B b)) } := ⟨λ_ h=>.inl h,λb hb=>m.heap b (.inl hb),m.size,m.ρ,m.cap,m.nl,m.nx⟩
 have bs:∀ {id:Nat} {o:O} {b:Nat},DY { V' with I:=λb=>V.I b\/(V'.I b/\(V.w.heap.size<=b\/S.B b)) } id o b↔DY V' id o b:=λ{id o b} => by cases o<;>exact Iff.rfl
 have l:∀id o,look σ' id=some o->¬V'.nl id->∀b,DY V' id o b->V.w.heap.size<=b\/S.B b:=λid o a f b hb=>by
  rcases hi.live id o a f b hb with h|h|h
  ·exact .inl h
  ·obtain⟨_,_,h,_⟩:=h;cases h
  ·exact .inr h
 have t:∀id o,look σ id=some o->¬V.nl id->∀b,DY V id o b->(V.w.heap.size<=b\/S.B b)->False:=λid o a f b hb h=>by
  rcases h with h|h
  ·have:=(d.st.obj _ _ a).blt f hb;omega
  ·exact N.ap b ⟨id,o,a,f,hb⟩ h
 refine⟨_,s,e,⟨hi.os.trans d.os,hi.tape.trans d.tape,hi.output.trans d.output,λb hb M=>(hi.old b (mW hb d.ext.size) (λh=>h.elim (λ⟨_,_,h,_⟩=>by cases h) λh=>(n b h).elim (λh=>by omega) M)).trans (d.old b hb M),λb hb=>?_,λb hb=>?_,d.ext.trans e,⟨λid o a=>?_,λid o a=>?_,λid o a f b hb k=>?_,λid id' o o' j g z f p b hb q=>?_⟩,λid o a f b hb=>?_,λx L=>⟨.inl (d.tabs x L).1,(hi.tabs x L).2⟩,?_⟩⟩
 ·rcases hb with hb|hb
  ·exact hi.iLt b (m.i b (.inl hb))
  ·exact hi.iLt b hb.1
 ·rcases hb with hb|hb
  ·exact d.iNew b hb
  ·rcases hb.2 with h|h
   ·exact .inr (.inl (kw d.ext.size h))
   ·exact .inr (n b h)
 ·rcases Cb a with a|a
  ·exact(hi.st.obj id o a).Ol s (G.get a)
  ·exact(d.st.obj id o a).Bn e (d.st.lt id o a) λf b hb=>m.heap b (.inr ⟨id,o,a,f,hb⟩)
 ·rcases Cb a with a|a
  ·exact hi.st.lt id o a
  ·exact mW (d.st.lt id o a) m.nx
 ·rcases Cb a with a|a
  ·have v:=hi.st.free id o a f b (bs.1 hb)
   rcases k with k|k
   ·exact v (m.i b (.inl k))
   ·exact v k.1
  ·have c:=d.st.lt id o a
   have hb:=(AE e c).1 hb;have f:¬V.nl id:=λh=>f ((e.nl id c).2 h)
   rcases k with k|k
   ·exact d.st.free id o a f b hb k
   ·exact t id o a f b hb k.2
 ·rcases Cb j with j|j<;>rcases Cb g with g|g
  ·exact hi.st.inj _ _ _ _ j g z f p b (bs.1 hb) (bs.1 q)
  ·have v:=l id o j f b (bs.1 hb)
   have c:=d.st.lt _ _ g;exact t _ _ g (λh=>p ((e.nl _ c).2 h)) b ((AE e c).1 q) v
  ·have v:=l id' o' g p b (bs.1 q)
   have c:=d.st.lt _ _ j;exact t _ _ j (λh=>f ((e.nl _ c).2 h)) b ((AE e c).1 hb) v
  ·have c:=d.st.lt _ _ j
   have u:=d.st.lt _ _ g;exact d.st.inj _ _ _ _ j g z (λh=>f ((e.nl _ c).2 h)) (λh=>p ((e.nl _ u).2 h)) b ((AE e c).1 hb) ((AE e u).1 q)
 ·rcases Cb a with a|a
  ·rcases l id o a f b (bs.1 hb) with h|h
   ·exact .inl (kw d.ext.size h)
   ·exact n b h
  ·have c:=d.st.lt _ _ a
   exact d.live id o a (λh=>f ((e.nl _ c).2 h)) b ((AE e c).1 hb)
 ·obtain⟨S1,y,K,Q⟩:=hi.hid
  have P:∀b,S1.B b->V.w.heap.size<=b\/S.B b:=λb hb=>by
   rcases Q b hb with h|h|h
   ·exact .inl h
   ·obtain⟨_,_,h,_⟩:=h;cases h
   ·exact .inr h
  refine⟨S1,⟨y.r,λb hb=>?_,λb hb k=>y.bi b hb (k.elim (λh=>m.i b (.inl h)) λh=>h.1),λb ⟨id,o,a,f,hb⟩ A=>?_⟩,λb hb=>?_,λb hb=>?_⟩
  ·rcases K b hb with h|h|h|h
   ·exact .inl (N.ji b h)
   ·exact .inr ⟨y.ji b hb,.inl h⟩
   ·obtain⟨_,_,h,_⟩:=h;cases h
   ·exact .inr ⟨y.ji b hb,.inr h⟩
  ·rcases Cb a with a|a
   ·exact y.ap b ⟨id,o,a,f,bs.1 hb⟩ A
   ·have c:=d.st.lt _ _ a
    exact t _ _ a (λh=>f ((e.nl _ c).2 h)) b ((AE e c).1 hb) (P b A)
  ·rcases K b hb with h|h|h|h
   ·exact H b h
   ·exact .inr (.inl (kw d.ext.size h))
   ·obtain⟨_,_,h,_⟩:=h;cases h
   ·exact .inr (n b h)
  ·rcases P b hb with h|h
   ·exact .inl (kw d.ext.size h)
   ·exact n b h
theorem dP{V:View}{a:Act}{L:List (Nat×E)}(h:Inv TB Γ V σ)(c:TN σ f L)(i:HF V o f a):HF (Gi V σ) o (look L) a:=λt e ht b=>by
 obtain⟨y,g,d⟩:=c.get t e b;exact d.rel h (i t y ht g)
theorem AO.XV{x:E}(L:List (Nat×E))(n:TN σ f L)(h:∀Γ',AO P TB Γ' o (look L) [] nx x)(c:x.Ol):AO P TB Γ o f σ nx x:=by
 intro V a q b p;obtain⟨S,k,i,j⟩:=b.hid;refine Oper.wp_mono ?_ (h (Fc (Gi V σ) (Gi V σ) [] S) (Gi V σ) a (dP b n q) (Zn b k) p);rintro a' w' ⟨V',v,rfl,rfl,m,hi,l,d⟩;obtain⟨V3,s,e,g⟩:=XW b k i j m hi (λx d=>by cases d);exact⟨V3,v,s.w,rfl,e,g,by rw [s.nx];exact l,d.Ol s c⟩
end
def JO(σ:Ab):List Nat->Ab
 | []=>[]
 | i::r=>match look σ i with
  | some o=>(i,o)::JO σ r
  | none=>JO σ r
theorem Hg{σ:Ab}:∀ {ids:List Nat} {id:Nat} {o:O},look (JO σ ids) id=some o->id∈ids/\look σ id=some o
 | [],_,_,h=>by cases h
 | i :: r,id,o,h=>by
  unfold JO at h;split at h
  ·rename_i o' a
   rw [Ax] at h;by_cases hi:i=id
   ·rw [if_pos hi] at h;injection h with h;subst h;subst hi;exact⟨og ..,a⟩
   ·rw [if_neg hi] at h
    have:=Hg h;exact⟨nq _ this.1,this.2⟩
  ·have:=Hg h
   exact⟨nq _ this.1,this.2⟩
def Zc(σi:Ab)(f:Env):List (Nat×E)->Prop
 | []=>True
 | (t,e')::L=>(∃e,f t=some e/\(e=e'\/EZ σi e e'))/\Zc σi f L
theorem Zc.get{σi:Ab}{f:Env}:∀ {L:List (Nat×E)},Zc σi f L->∀t e',look L t=some e'->∃e,f t=some e/\(e=e'\/EZ σi e e')
 | [],_,t,e,h=>by cases h
 | (k,x)::L,a,t,e,h=>by
  rw [Ax] at h;by_cases hk:k=t
  ·rw [if_pos hk] at h;injection h with h;subst h;subst hk;exact a.1
  ·rw [if_neg hk] at h;exact Zc.get a.2 t e h
theorem Au.AM{c:Code}{Q:Exit->Env->Ab->Nat->Prop}{f:Env}{nx:Nat}(ids:List Nat)(L:List (Nat×E))(w:Zc (JO σ ids) f L)(h:Au P TB Γ N c Q (look L) (CC ids σ) nx):Au P TB Γ N c Q f σ nx:=by
 intro V a l;have hi:=l.inv;have i:∀id o,look (JO σ ids) id=some o->look σ id=some o:=λid o h=>(Hg h).2;have u:Inv TB Γ V (JO σ ids):=hi.sub i;have e:Ext V (Gi V (JO σ ids)):=LP;refine h (Gi V (JO σ ids)) a ⟨λt x p=>?_,λt x p=>?_,l.size,?_,l.nx,l.defers⟩
 ·obtain⟨y,q,g⟩:=w.get t x p
  rcases g with rfl|g
  ·exact(l.env t _ q).ext e
  ·exact g.rel u (l.env t y q)
 ·obtain⟨y,q,_⟩:=w.get t x p
  exact l.lt t y q
 ·refine⟨hi.os,hi.tape,hi.output,hi.old,?_,?_,hi.ext.trans e,⟨?_,?_,?_,?_⟩,?_,λx p=>⟨.inl (hi.tabs x p).1,(hi.tabs x p).2⟩,hi.hid.same rfl (λ_ h=>.inl h) (λb hb=>hb.elim .inl λ⟨id,o,d,j,v⟩=>.inr ⟨id,o,i _ _ d,j,v⟩) λb ⟨id,o,d,j,hb⟩=>have g:=(Be ids σ id o d).2;⟨id,o,g,j,(AE e (hi.st.lt id o g)).1 hb⟩⟩
  ·rintro b (hb|⟨id,o,d,j,hb⟩)
   ·exact hi.iLt b hb
   ·exact(hi.st.obj id o (i _ _ d)).blt j hb
  ·rintro b (hb|⟨id,o,d,j,hb⟩)
   ·exact hi.iNew b hb
   ·exact .inr (hi.live id o (i _ _ d) j b hb)
  ·intro id o d
   have:=(Be ids σ id o d).2;exact(hi.st.obj id o this).Bn e (hi.st.lt id o this) λ_ _ _=>rfl
  ·intro id o d;exact hi.st.lt id o (Be ids σ id o d).2
  ·intro id o d j b k hb
   obtain⟨q,g⟩:=Be ids σ id o d;have k:=(AE e (hi.st.lt id o g)).1 k
   rcases hb with hb|⟨id',o',n,m,v⟩
   ·exact hi.st.free id o g j b k hb
   ·have z:=Hg n
    exact hi.st.inj id id' o o' g z.2 (λe=>q (e ▸ z.1)) j m b k v
  ·intro id id' o o' d n s j m b hb k
   have g:=(Be ids σ id o d).2;have r:=(Be ids σ id' o' n).2;exact hi.st.inj id id' o o' g r s j m b ((AE e (hi.st.lt id o g)).1 hb) ((AE e (hi.st.lt id' o' r)).1 k)
  ·intro id o d j b hb
   have g:=(Be ids σ id o d).2;exact hi.live id o g j b ((AE e (hi.st.lt id o g)).1 hb)
theorem FZ.UI{a s:Nat}{T Ta:TypeId}{l:IL}(ha:look σ a=some (.cells Ta 1 (AR l)))(e:look σ s=some (.sld T (sI l))):FZ σ (.arr a 1 0 l.length) (CI (l.map (·.2))):=by
 refine .rows ha (by simp) (Dj l) λi r' hi=>?_;simp only [d9,d7] at hi;obtain⟨x,⟨y,b,rfl⟩,rfl⟩:=hi;refine⟨[.d (.v y.1)],by simp [AR,b],.cons ?_ .nil⟩;have c:FZ σ (.d (.v y.1)) (.l ((y.2.map (Value.int .i64)).map λx=>[D.v x])):=.sld e (em.2 ⟨y,ce b,rfl⟩);rw [nV] at c;exact c
theorem Au.bE{c:Code}{Q:Exit->Env->Ab->Nat->Prop}{f:Env}{nx:Nat}(a i s:Nat)(l:IL)(xs:List Int)(ha:look σ a=some (.cells Ta 1 (AR l++[[.arr i 1 0 xs.length]])))(hi:look σ i=some (.cells T 1 (JN xs)))(b:look σ s=some (.sld T (sI l)))
 (h:∀v,Au P TB Γ N c Q f ((a,.cells Ta 1 (AR (l++[(v,xs)])))::(s,.sld T (sI (l++[(v,xs)])))::kill i σ) nx):Au P TB Γ N c Q f σ nx:=
 Au.put a i s (AR l) [] xs l [] ha hi (by rw [nG];exact b) λv=>by
  have:=h v;rw [BC] at this;exact this
theorem QM{l:IL}{k:Nat}{y:Value×List Int}(h:l[k]? = some y):l=l.take k++y::l.drop (k+1)/\(l.take k).length=k:=by
 obtain⟨hk,rfl⟩:=am.1 h;refine⟨?_,by rw [ol];omega⟩;rw [<-pH hk,nJ]
theorem Rx{U:Type}{l1 l2:List U}{x y:U}{k:Nat}(h:l1.length=k):(l1++x::l2).set k y=l1++y::l2:=by
 subst h;simp
theorem Au.iI{c:Code}{Q:Exit->Env->Ab->Nat->Prop}{f:Env}{nx:Nat}(a s:Nat)(l:IL)(k:Nat)(y:Value×List Int)(hk:l[k]? = some y)(ha:look σ a=some (.cells Ta 1 (AR l)))(g:look σ s=some (.sld T (sI l)))
 (h:Au P TB Γ N c Q f ((a,.cells Ta 1 ((AR l).set k [.arr nx 1 0 y.2.length]))::(nx,.cells T 1 (JN y.2))::(s,.sld T (sI (l.eraseIdx k)))::σ) (nx+1)):Au P TB Γ N c Q f σ nx:=by
 obtain⟨b,i⟩:=QM hk;obtain⟨v,xs⟩:=y
 have e:AR l=AR (l.take k)++[.d (.v v)]::AR (l.drop (k+1)):=by
  have:=congrArg AR b;rw [BC] at this;exact this
 refine Au.take a s (AR (l.take k)) (AR (l.drop (k+1))) v xs (l.take k) (l.drop (k+1)) (by rw [<-e];exact ha) (by rw [<-b];exact g) ?_
 have m:(AR l).set k [.arr nx 1 0 xs.length]=AR (l.take k)++[.arr nx 1 0 xs.length]::AR (l.drop (k+1)):=by
  rw [e,Rx (by rw [Dj,i])]
 have j:l.eraseIdx k=l.take k++l.drop (k+1):=qg ..;rw [m,j] at h;exact h
theorem Au.putAt{c:Code}{Q:Exit->Env->Ab->Nat->Prop}{f:Env}{nx:Nat}(a i s:Nat)(l:IL)(k:Nat)(y:Value×List Int)(hk:l[k]? = some y)(xs:List Int)(ha:look σ a=some (.cells Ta 1 ((AR l).set k [.arr i 1 0 xs.length])))(hi:look σ i=some (.cells T 1 (JN xs)))(b:look σ s=some (.sld T (sI (l.eraseIdx k))))
 (h:∀v,Au P TB Γ N c Q f ((a,.cells Ta 1 (AR (l.set k (v,xs))))::(s,.sld T (sI (l.set k (v,xs))))::kill i σ) nx):Au P TB Γ N c Q f σ nx:=by
 obtain⟨g,e⟩:=QM hk
 have n:AR l=AR (l.take k)++[.d (.v y.1)]::AR (l.drop (k+1)):=by
  have:=congrArg AR g;rw [BC] at this;exact this
 rw [n,Rx (by rw [Dj,e])] at ha;rw [show l.eraseIdx k=l.take k++l.drop (k+1) from qg ..] at b;refine Au.put a i s (AR (l.take k)) (AR (l.drop (k+1))) xs (l.take k) (l.drop (k+1)) ha hi b λv=>?_
 have j:l.set k (v,xs)=l.take k++(v,xs)::l.drop (k+1):=by
  have this:l.set k (v,xs)=(l.take k++y::l.drop (k+1)).set k (v,xs):=congrArg (λm=>List.set m k (v,xs)) g;rw [this,Rx e]
 have:=h v;rw [j,BC] at this;exact this
theorem AJ.AX{g:FuncId}{m nx:Nat}{args:List E}{post:E->Ab->Nat->Prop}
 (h:AJ P TB g m σ nx args (λx d c=>∃(l:List Nat) (x':E) (a:Ab),((∀i,i < m->l[i]? = some i)/\l.Nodup)/\x=x'.AX (nm l c)/\AS (nm l c) d a/\post x' a l.length)):AJ P TB g m σ nx args post:=
 ⟨h.1, λV vs S n ha=>(h.2 V vs S n ha).mono λe w' ⟨V',v,x,σ',w,u,s,r,l,x',a,j,q,p,o⟩=>by
  have k:BY TB (Fc V (KE V m) σ S) 1 V' (look [(0,x)]) σ' V'.nx { tmps:=#[v],defers:=[] } := by
   refine⟨λt y b=>?_,λt y b=>?_,rfl,s,rfl,rfl⟩
   ·rw [Ax] at b
    by_cases ht:0=t
    ·rw [if_pos ht] at b;injection b with b;subst b;subst ht;exact r
    ·rw [if_neg ht] at b;cases b
   ·rw [Ax] at b
    by_cases ht:0=t
    ·subst ht;exact qO
    ·rw [if_neg ht] at b;cases b
  obtain⟨V'',z,f⟩:=k.AX l [(0,x')] a j.1 j.2 ⟨by rw [<-q];rfl,trivial⟩ p;refine⟨V'',v,x',a,w,z.trans u,f.inv,f.env 0 x' rfl,?_⟩
  rw [f.nx];exact o⟩
theorem FA{m:Nat}{σ σ':Ab}(i:Nat)(a:m=2 ^ i)(h:look σ' i=look σ i):Kept m σ σ':=λid hb=>by
 subst a;rw [o6] at hb;have:i=id:=of_decide_eq_true hb;subst this;exact h
theorem Pm{m:Nat}{σ σ':Ab}(i j:Nat)(a:m=2 ^ i ||| 2 ^ j)(h:look σ' i=look σ i)(b:look σ' j=look σ j):Kept m σ σ':=λid hb=>by
 subst a;rw [oP,nr,o6,o6,decide_eq_true_eq,decide_eq_true_eq] at hb
 rcases hb with hb|hb
 ·subst hb;exact h
 ·subst hb;exact b
theorem Te{l1 l2:IL}{c:C}{k:Nat}(h:l1.length=k):(AR l1++[c]::AR l2)[k]? = some [c]:=by
 subst h;rw [ge (by rw [Dj];exact io _),Dj];simp
theorem eR [j:CS P] {g:FuncId} {fn:Func} {c:Code} {nx:Nat} {args:List E} {post:E->Ab->Nat->Prop} (f:P.funcs[g]? = some fn) (hb:fn.body=some c) (a:(fn.name == "runtime.NumGoroutine")=false)
 (ha:Nat.ble args.length fn.ntmps=true) (h:∀Γ:Ctx,Γ.V.nx=nx->Au P TB Γ fn.ntmps c (Zf j.T fn.results (λx e d=>∃(l:List Nat) (x':E) (b:Ab),((∀i,i < nx->l[i]? = some i)/\l.Nodup)/\x=x'.AX (nm l d)/\AS (nm l d) e b/\post x' b l.length)) (look (Ci 0 args)) σ nx):Spec P TB g σ nx args post:=
 AJ.Gw (AJ.AX (AJ.QP (io _) f hb a (co ha) h))
end
theorem cN:(∀(r:Nat->Nat) (l:IL),(AR l).map (C.BK r)=AR l)/\(∀(U:Type) (b:Bool) (x y:U),(bif b then x else y)=if b=true then x else y)/\∀a b:Nat,(Nat.beq a b=true)=(a=b):=
 ⟨Tf,λ_ b _ _=>by cases b<;>rfl,λ_ _=>Nat.beq_eq⟩
end Go.Am
namespace Go.Am
open Go Go.Proofs
instance:fF Tryz.prog 79:=⟨by kernel_rfl⟩
end Go.Am
namespace Go.Am
open Go Go.Proofs
set_option maxHeartbeats 1000000
set_option maxRecDepth 4000
attribute [local irreducible] AO BS Lex A4 Au Spec
variable {TB:Bi}
abbrev YT(n:UInt8):List D:=[.v (.int .u8 n.toNat)]
abbrev Xa(l:List UInt8):D:=.l (l.map YT)
abbrev Bo(b:List UInt8)(p:Int):O:=.cells 137 2 [[.d (Xa b),.d (iD p)]]
theorem ZX{a b:Nat}(ha:a < 2 ^ 62)(hb:b < 2 ^ 62):Uh .i64 a b=((a ^^^ b:Nat):Int):=by
 unfold Uh
 have d:(BitVec.ofInt IntKind.i64.bits (a:Int)).toNat=a:=by
  rw [BitVec.toNat_ofInt];have:IntKind.i64.bits=64:=rfl;rw [this];omega
 have c:(BitVec.ofInt IntKind.i64.bits (b:Int)).toNat=b:=by
  rw [BitVec.toNat_ofInt];have:IntKind.i64.bits=64:=rfl;rw [this];omega
 rw [BitVec.toNat_xor,d,c];have e:a ^^^ b < 2 ^ 62:=Nat.xor_lt_two_pow ha hb;exact IntWalk.i64_in _ (by omega)
theorem dK{x y:Int}(d:0<=x/\x < 4611686018427387904)(c:0<=y/\y < 4611686018427387904):0<=Uh .i64 x y/\Uh .i64 x y < 4611686018427387904:=by
 obtain⟨a,rfl⟩:∃a:Nat,x=a:=⟨x.toNat,by omega⟩
 obtain⟨b,rfl⟩:∃b:Nat,y=b:=⟨y.toNat,by omega⟩
 rw [ZX (by omega) (by omega)];have e:a ^^^ b < 2 ^ 62:=Nat.xor_lt_two_pow (by omega) (by omega);omega
theorem Ul(b:List UInt8)(hb:b.length<=9223372036854775807):∃b':List UInt8,b'.length<=2000/\AJ Tryz.prog TB 49 0 [] 0 [.o (.d (Xa b))] (λx σ nx=>x=.o (.ptr 0 2 0 0)/\σ=[(0,Bo b' 0)]/\nx=1):=by
 by_cases h:b.length<=2000
 ·refine⟨b,h,?_⟩
  refine AJ.QP (m:=0) (co rfl) Tryz.func49 rfl (by kernel_rfl) (co rfl) ?_;intro Γ c;(repeat first|refine sN rfl ?_ |refine tX rfl ?_ |refine s2 rfl λ_ a=>?_ |refine aU rfl ?_ |refine Aa ?_)
  ((refine aC rfl ?_ ?_<;>rintro⟨⟩);all_goals try (simp at a;done))
  ·exfalso;(simp only[oZ] at *;omega)
  refine aK ?_;(repeat first|refine tX rfl ?_|(refine Af rfl ?_;refine gA rfl ?_;first| refine gS (λ_ _=>AF rfl rfl (by rfl) (by rfl)) ?_) |refine aU rfl ?_);(refine pW rfl ?_ rfl (by rfl);refine Db rfl rfl ?_);(repeat first|refine tX rfl ?_ |refine Aa ?_);refine aR ⟨_,rfl,rfl,rfl,rfl⟩
 ·refine⟨b.take 2000,by simp;omega,?_⟩
  have e:(b.map YT).take (2000:Int).toNat=(b.take 2000).map YT:=by simp [p9]
  refine AJ.QP (m:=0) (co rfl) Tryz.func49 rfl (by kernel_rfl) (co rfl) ?_;intro Γ c;(repeat first|refine sN rfl ?_ |refine tX rfl ?_ |refine s2 rfl λ_ a=>?_ |refine aU rfl ?_ |refine Aa ?_)
  ((refine aC rfl ?_ ?_<;>rintro⟨⟩);all_goals try (simp at a;done))
  ·(repeat first|refine tX rfl ?_|(refine Af rfl ?_;refine gA rfl ?_;first| refine gS (λ_ _=>Rp rfl rfl (by simp) (by omega) (by simp;omega)) ?_) |refine aU rfl ?_ |refine Aa ?_)
   rw [e];(repeat first| (refine Af rfl ?_;refine gA rfl ?_;first| refine gS (λ_ _=>AF rfl rfl (by rfl) (by rfl)) ?_));(refine pW rfl ?_ rfl (by rfl);refine Db rfl rfl ?_);(repeat first|refine tX rfl ?_ |refine Aa ?_);refine aR ⟨_,rfl,rfl,rfl,rfl⟩
  ·exfalso;(simp only[oZ] at *;omega)
theorem Bz(b:List UInt8)(hb:b.length<=2000)(p n:Int)(K:0<=p/\p < 1000000000):∃k:Int,0<=k/\(k=0\/k < n)/\Spec Tryz.prog TB 119 [(0,Bo b p)] 1 [.o (.ptr 0 2 0 0),eI .i64 n] (λx σ nx=>x=eI .i64 k/\σ=[(0,Bo b (p+1))]/\nx=1):=by
 by_cases I:n < 1\/b.length=0
 ·refine⟨0,by omega,.inl rfl,?_⟩
  refine eR Tryz.func119 rfl (by kernel_rfl) rfl ?_;intro Γ a;(repeat' first|refine sN rfl ?_ |(refine sA rfl ?_ ?_;first|exact tI|omega|simp only[oZ] at *;omega) |refine s2 rfl λ_ e=>?_ |refine s3 rfl ?_ ?_<;>rintro rfl |refine aU rfl ?_ |refine Aa ?_ |refine rE (by kernel_rfl) ?_|(refine aC rfl ?_ ?_<;>rintro⟨⟩)|refine aK ?_|refine aE ?_|refine aB ?_|refine aR ⟨_,rfl,?_⟩)
  all_goals first
   | (exfalso;(simp only[oZ] at *;omega);done)
   | refine⟨[0],eI .i64 0,[(0,Bo b (p+1))],⟨by first|(simp;done)|decide|(intro i hi;match i with|0=>rfl),by decide⟩,rfl,by (simp[cX,zC,a]),rfl,rfl,rfl⟩
 have J:0 < b.length:=by omega
 have q:0 < n:=by omega
 by_cases hp:p < b.length
 ·obtain⟨c,m⟩:=get_some (l:=b) (k:=(p+1 - 1).toNat) (by omega)
  have j:=get_map (g:=YT) m;have h:=c.toNat_lt;refine⟨(c.toNat:Int) % n,pc _ (by omega),.inr (oT _ q),?_⟩;refine eR Tryz.func119 rfl (by kernel_rfl) rfl ?_;intro Γ a;(repeat' first|refine sN rfl ?_ |(refine sA rfl ?_ ?_;first|exact tI|omega) |(refine s4 rfl ‹_› rfl ?_ ?_;omega) |refine s2 rfl λ_ e=>?_ |refine s3 rfl ?_ ?_<;>rintro rfl |refine aU rfl ?_ |refine Aa ?_ |refine rE (by kernel_rfl) ?_|(refine aC rfl ?_ ?_<;>rintro⟨⟩)|refine aK ?_|refine aE ?_|refine aB ?_|refine aR ⟨_,rfl,?_⟩)
  all_goals first
   | (exfalso;(simp only[oZ] at *;omega);done)
   | refine⟨[0],_,[(0,Bo b (p+1))],⟨by first|(simp;done)|decide|(intro i hi;match i with|0=>rfl),by decide⟩,rfl,by (simp[cX,zC,a]),rfl,rfl,rfl⟩
 ·have f:(0:Int) < b.length:=by omega
  have H:=pc (p+1 - 1) (show (b.length:Int)≠0 by omega);have G:=oT (p+1 - 1) f;have F:=pc ((p+1 - 1)*7+3) (show (b.length:Int)≠0 by omega);have B:=oT ((p+1 - 1)*7+3) f;obtain⟨c,m⟩:=get_some (l:=b) (k:=((p+1 - 1) % (b.length:Int)).toNat) (by omega);have j:=get_map (g:=YT) m;have h:=c.toNat_lt;obtain⟨d,u⟩:=get_some (l:=b) (k:=(((p+1 - 1)*7+3) % (b.length:Int)).toNat) (by omega);have t:=get_map (g:=YT) u;have s:=d.toNat_lt;have A:0<=(p+1 - 1) / (b.length:Int):=qL (by omega) (by omega);have z:(p+1 - 1) / (b.length:Int)<=p+1 - 1:=Int.ediv_le_self _ (by omega)
  obtain⟨x,r⟩:∃x,x=(c.toNat:Int)*131+(d.toNat:Int)*1117+(p+1 - 1)*29+(p+1 - 1) / (b.length:Int)*53:=⟨_,rfl⟩
  have w:0<=x/\x < 1000000000000:=by omega
  have v:=dK (x:=x) (y:=x / 64) (by omega) (by omega);refine⟨Uh .i64 x (x / 64) % n,pc _ (by omega),.inr (oT _ q),?_⟩;refine eR Tryz.func119 rfl (by kernel_rfl) rfl ?_;intro Γ a;(repeat' first|refine sN rfl ?_ |(refine sA rfl ?_ ?_;first|exact tI|omega) |(refine s4 rfl ‹_› rfl ?_ ?_;omega) |(refine s2 rfl λ_ e=>?_;try (simp only[Bool.not_true,Bool.not_false] at e;subst e))|(refine Af rfl ?_;refine gA rfl ?_;first| refine gS (λ_ _=>ku rfl rfl rfl) ?_) |refine s3 rfl ?_ ?_<;>rintro rfl |refine aU rfl ?_ |refine Aa ?_ |refine rE (by kernel_rfl) ?_|(refine aC rfl ?_ ?_<;>rintro⟨⟩)|refine aK ?_|refine aR ⟨_,rfl,?_⟩|(rw [<-r]))
  all_goals first
   | (exfalso;(simp only[oZ] at *;omega);done)
   | refine⟨[0],_,[(0,Bo b (p+1))],⟨by first|(simp;done)|decide|(intro i hi;match i with|0=>rfl),by decide⟩,rfl,by (simp[cX,zC,a]),rfl,rfl,rfl⟩
theorem CA(b:List UInt8)(hb:b.length<=2000)(p:Int)(m:0<=p/\p < 1000000000)(l:List Int)(s:0 < l.length)(j:l.length < 1000000):∃k∈l,Spec Tryz.prog TB 51 [(0,Bo b p)] 1 [.o (.ptr 0 2 0 0),AH l] (λx σ nx=>x=eI .i64 k/\σ=[(0,Bo b (p+1))]/\nx=1):=by
 obtain⟨k,r,q,h⟩:=Bz (TB:=TB) b hb p l.length m;obtain⟨x,c⟩:=get_some (l:=l) (k:=k.toNat) (by omega);have f:=get_map (g:=Br) c;refine⟨x,ce c,?_⟩;refine eR Tryz.func51 rfl (by kernel_rfl) rfl ?_;intro Γ a;(repeat first|refine sN rfl ?_ |refine tA rfl ?_ |refine aU rfl ?_ |refine Aa ?_);(refine pW rfl ?_ rfl (by rfl);refine Ag [0] rfl rfl (h) ⟨rfl,by decide,by decide⟩ rfl (by simp[cX,zC,a]) ?_;rintro n d e ⟨rfl,rfl,rfl⟩ _);(repeat first|refine tA rfl ?_ |(refine s4 rfl ‹_› rfl ?_ ?_;omega) |refine Aa ?_);refine aR ⟨_,rfl,?_⟩;refine⟨[0],_,[(0,Bo b (p+1))],⟨by first|(simp;done)|decide|(intro i hi;match i with|0=>rfl),by decide⟩,rfl,by (simp[cX,zC,a]),rfl,rfl,rfl⟩
theorem fO(b:List UInt8)(hb:b.length<=2000)(p:Int)(m:0<=p/\p < 1000000000)(l:List W)(s:0 < l.length)(j:l.length < 1000000):∃k∈l,Spec Tryz.prog TB 157 [(0,Bo b p)] 1 [.o (.ptr 0 2 0 0),EY l] (λx σ nx=>x=eT k/\σ=[(0,Bo b (p+1))]/\nx=1):=by
 obtain⟨k,r,q,h⟩:=Bz (TB:=TB) b hb p l.length m;obtain⟨x,c⟩:=get_some (l:=l) (k:=k.toNat) (by omega);have f:=get_map (g:=DQ) c;refine⟨x,ce c,?_⟩;refine eR Tryz.func157 rfl (by kernel_rfl) rfl ?_;intro Γ a;(repeat first|refine sN rfl ?_ |refine tA rfl ?_ |refine aU rfl ?_ |refine Aa ?_);(refine pW rfl ?_ rfl (by rfl);refine Ag [0] rfl rfl (h) ⟨rfl,by decide,by decide⟩ rfl (by simp[cX,zC,a]) ?_;rintro n d e ⟨rfl,rfl,rfl⟩ _);(repeat first|refine tA rfl ?_ |(refine s4 rfl ‹_› rfl ?_ ?_;omega) |refine Aa ?_);refine aR ⟨_,rfl,?_⟩;refine⟨[0],_,[(0,Bo b (p+1))],⟨by first|(simp;done)|decide|(intro i hi;match i with|0=>rfl),by decide⟩,rfl,by (simp[cX,zC,a]),rfl,rfl,rfl⟩
end Go.Am
namespace Go.Am
open Go
set_option linter.unusedVariables false
variable {TB:Bi}
section
variable {P:Program}{Γ:Ctx}{d:Option Tmp}{ty:TypeId}{pos:String}{af:Array Edge}{g:Option (Nat×Bool)}{f:Env}{σ:Ab}{nx:Nat}
theorem NB{t:TypeId}{z:List Value}{fl:List (Nat×Nat)}{parts:Array (Nat×Operand)}{es:List E}{qs:List (Nat×List C)}[Y:BU P t z][hf:EC P t fl](R:Il f (parts.toList.map (·.2))=some es)(Z:EN fl parts.toList es=some qs)
 (M:z.all NT=true) (N:(qs.all λx=>Nat.ble (x.1+x.2.length) z.length)=true):AO P TB Γ ⟨d,.build t parts,ty,pos,af,g⟩ f σ nx (.a (Bb qs (z.map λv=>C.d (.v v)))):=
 AG λV ρ h1 _=>by
  obtain⟨i,zv,hi,A,s⟩:=Hs Y.out;have Q:=C3 (V:=V) (ρ:=ρ) parts.toList es qs (λx J e he=>h1.get (by simp only [Op.operands];simpa using J) he) R Z
  have I:C0 V (z.map λv=>C.d (.v v)) zv.cells:=by
   refine⟨by rw [f7,<-s];simp,λj c v T S=>?_⟩;simp only [d9,d7] at T;obtain⟨u,k,rfl⟩:=T
   have:u=v:=by
    rw [<-s] at k;simp only [nZ] at k;rw [k] at S;exact Option.some.inj S
   subst this;exact .d (.v (gt.1 M u (ce k)))
  obtain⟨cells,G,h4⟩:=Fz _ _ _ _ Q I (λx J=>by rw [f7];exact HM _ _ N x J);have r:=hf.out
  have b:(parts.map λ(i,x)=>(i,ρ x)).toList=parts.toList.map λ(i,x)=>(i,ρ x):=by simp
  refine⟨.agg cells,?_,cells,rfl,h4⟩
  have hb : (Instr.build t (parts.map λ(i,x)=>(i,ρ x))).run P V.w=.ok (.agg cells) V.w:=by
   unfold jB at r;split at r
   ·rename_i fs k
    have L:∀(l:List Field) (ll:List (Nat×Nat)),(l.mapM λf=>(P.info? f.type).map λi=>(f.offset,i.size))=some ll->∀w,((l.mapM λf=>do pure (f.offset,<-sizeOf f.type)):Sem (List (Nat×Nat))).run P w=.ok ll w:=by
     intro l
     induction l with
     | nil=>intro ll h w;simp at h;subst h;simp [go_sem]
     | cons y l H=>
      intro ll h w;simp only [oX,qm,m8,d7] at h;obtain⟨p,⟨ii,o,rfl⟩,ll',h5,X⟩:=h;simp at X;subst X
      have K:(sizeOf y.type).run P w=.ok ii.size w:=by simp [sizeOf,typeInfo,o,go_sem]
      have ihh:=H ll' h5 w;simp only [bind_pure_comp] at ihh;simp only [oX,nf,K,mY,bind_pure_comp,pe,ihh]
    have B:=L fs.toList fl r V.w
    have m:(zeroValue t).run P V.w=.ok zv V.w:=by simp [zeroValue,typeInfo,hi,A,go_sem]
    have ha:((fs.mapM λf=>do pure (f.offset,<-sizeOf f.type)):Sem (Array (Nat×Nat))).run P V.w=.ok fl.toArray V.w:=by
     rw [pG,pe,B];rfl
    rw [<-b] at G;simp only [Instr.build,nf,m,mY,run_underlying k,ha];simp only [oa];rw [G];rfl
   ·rename_i n e k
    simp only [d7] at r;obtain⟨ii,o,rfl⟩:=r
    have m:(zeroValue t).run P V.w=.ok zv V.w:=by simp [zeroValue,typeInfo,hi,A,go_sem]
    have K:(sizeOf e).run P V.w=.ok ii.size V.w:=by simp [sizeOf,typeInfo,o,go_sem]
    have q:∀(ps:List (Nat×Value)) (c c':Array Value),Instr.fill (λi=>((List.range n).map λj=>(j*ii.size,ii.size))[i]?) c ps=some c'->Instr.fill (λi=>some (i*ii.size,ii.size)) c ps=some c':=by
     intro ps
     induction ps with
     | nil=>intro c c' h;simpa [Instr.fill] using h
     | cons p ps H=>
      intro c c' h;obtain⟨i',v'⟩:=p;unfold Instr.fill at h |-;by_cases F:i' < n
      ·simp only [d9,o5 F,nv] at h
       simp only at h |-;split at h
       ·cases h
       ·rename_i hno
        rw [if_neg hno];exact H _ _ (by simpa only [d9] using h)
      ·simp [F] at h
    rw [<-b] at G;simp only [Instr.build,nf,m,mY,run_underlying k,K];rw [q _ _ _ G];rfl
   ·cases r
  show ((do let v <-Instr.build t (parts.map λ(i,x)=>(i,ρ x));pure (Go.Next.value v):Sem Go.Next)).run P V.w=_
  simp only [nf,hb,mY];rfl
end
theorem VY{P:Program}{Γ:Ctx}{o:Oper}{L:List (Nat×E)}{σ:Ab}{nx:Nat}{K:E->Ab->Nat->Prop}{b:Option Addr}(t:Tmp)(j:look L t=some (.o (.d (.v (.slice b 0 0)))))(h:BS P TB Γ o (look ((t,.e)::L)) σ nx K):BS P TB Γ o (look L) σ nx K:=by
 intro V a i l k;refine h V a ?_ l k;intro t' e' f c;rw [Ax] at c;by_cases g:t=t'
 ·subst g
  rw [if_pos rfl] at c
  injection c with c
  subst c;exact⟨b,AA.val (i t _ f j)⟩
 ·rw [if_neg g] at c
  exact i t' e' f c
theorem bB{P:Program}{Γ:Ctx}{ops:Array Oper}{fl:Fl}{i n:Nat}{L:List (Nat×E)}{σ:Ab}{nx:Nat}{K:Env->Ab->Nat->Prop}{op:Op}{ty:TypeId}{pos:String}{af:Array Edge}{g:Option (Nat×Bool)}
 (h:BS P TB Γ ⟨none,op,ty,pos,af,g⟩ (look L) σ nx (λ_ σ' nx'=>Kept (fl i - 1000) σ σ'/\Lex P TB Γ ops (Ak fl (i+1) n) K (look L) σ' nx')) (b:Bj ops ⟨none,op,ty,pos,af,g⟩ (look L)=some true) (c:Nat.ble 10 (fl i)=true/\Nat.ble 1000 (fl i)=true):A4 P TB Γ ops ⟨none,op,ty,pos,af,g⟩ fl i n K L σ nx:=
 λa=>Wu a b c h
end Go.Am
