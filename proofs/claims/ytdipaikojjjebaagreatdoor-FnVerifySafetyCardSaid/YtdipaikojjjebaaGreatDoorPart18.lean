/-
  Arrays of arrays of the call's own: the inner ones lie sealed, one of them at a time is taken out and put back.
-/
import Derived.Test.YtdipaikojjjebaaGreatDoorPart16
import Derived.Test.YtdipaikojjjebaaGreatDoorPart11
import Derived.Test.YtdipaikojjjebaaGreatDoorPart15
set_option linter.all false
namespace Go.Am
open Go
abbrev IY:=List (Value×List Int)
def sI(l:IY):List (Value×List Value):=l.map λx=>(x.1,x.2.map (.int .i64))
def AA(l:IY):List (List C):=l.map λx=>[.d (.v x.1)]
abbrev Mu(xs:List Int):List (List C):=xs.map AD
theorem fJ{V:View}{i k off n:Nat}{v:Value}(h:AH V (.arr i k off n) v):(V.nl i/\off=0/\n=0/\v=.slice none 0 0)\/(¬V.nl i/\off+n<=V.cap i/\v=.slice (some ⟨V.ρ i,off*k,none⟩) n (V.cap i-off)):=by
 cases h with
 | nil _ h=>exact .inl ⟨h,rfl,rfl,rfl⟩
 | arr _ b a=>exact .inr ⟨b,a,rfl⟩
theorem Ln(l m:IY):sI (l++m)=sI l++sI m:=pO
theorem A2(l m:IY):AA (l++m)=AA l++AA m:=pO
theorem CR(l:IY):(AA l).length=l.length:=gt _
theorem VB(r:Nat->Nat)(l:IY):(AA l).map (C.CB r)=AA l:=by
 unfold AA;rw[pR];rfl
theorem dP(l:List Int):(Mu l).length=l.length:=gt _
section
variable {P:Program}{TB:BJ}{Γ:Ctx}{N:Nat}{V:View}{σ:Ab}{a i s:Nat}{T Ta:TypeId}{R1 R2:List (List C)}{xs:List Int}{l1 l2:IY}
theorem XR{l:IY}{x:Value×List Value}(h:x∈sI l):∃y∈l,x=(y.1,y.2.map (.int .i64)):=by
 obtain⟨y,a,rfl⟩:=d9.1 h;exact⟨y,a,rfl⟩
theorem Inv.put(h:Inv TB Γ V σ)(ha:look σ a=some (.cells Ta 1 (R1++[.arr i 1 0 xs.length]::R2)))(hi:look σ i=some (.cells T 1 (Mu xs)))(P:look σ s=some (.sld T (sI (l1++l2)))) :
 ∃v,Inv TB Γ V ((a,.cells Ta 1 (R1++[.d (.v v)]::R2))::(s,.sld T (sI (l1++(v,xs)::l2)))::kill i σ):=by
 have has:a≠s:=λe=>by rw[e,P]at ha;cases ha
 have Y:i≠s:=λe=>by rw[e,P]at hi;cases hi
 have hai:a≠i:=λe=>by
  rw[e,hi]at ha
  injection ha with ha;injection ha with _ _ ha
  have B:(Mu xs)[R1.length]?=some [.arr i 1 0 xs.length]:=by rw[ha];simp
  rw[i9,d7]at B;obtain⟨x,_,A⟩:=B;cases A
 rcases h.st.obj a _ ha with ⟨_,h0⟩|⟨hna,cur,R,N,h4,h5,h6,h7⟩
 ·simp at h0
 obtain⟨v,hv,Q⟩:=h7 R1.length [.arr i 1 0 xs.length] 0 (.arr i 1 0 xs.length) (by simp) rfl;have Q:=fJ Q
 have hsl:Qq v=true:=by rcases Q with ⟨_,_,_,rfl⟩|⟨_,_,rfl⟩<;>rfl
 have I:∀b,KO v b->¬V.nl i/\b=V.ρ i:=by
  rintro b ⟨o,n,c,rfl⟩
  rcases Q with ⟨_,_,_,p⟩|⟨m,_,p⟩
  ·cases p
  ·injection p with p;injection p with p;injection p with p;exact⟨m,p⟩
 have K:Lz V.w T v (xs.map (.int .i64)):=by
  rcases h.st.obj i _ hi with ⟨G,z⟩|⟨hni,cur',z,F,g4,g5,g6,g7⟩
  ·have:xs=[]:=by simpa using z
   subst this
   rcases Q with ⟨_,_,_,rfl⟩|⟨m,_⟩
   ·exact .inl ⟨rfl,rfl⟩
   ·exact absurd G m
  ·rcases Q with ⟨m,_⟩|⟨_,hle,rfl⟩
   ·exact absurd m hni
   ·refine .inr ⟨V.ρ i,V.cap i,cur',by simp,z,by simpa using F,by rw[dP]at g4;simpa using g4,g5,λj x M=>?_⟩
    rw[i9,d7]at M;obtain⟨n,m,rfl⟩:=M;obtain⟨w,p,hcw⟩:=g7 j [.d (.v (.int .i64 n))] 0 (.d (.v (.int .i64 n))) (by simp[Mu,m]) rfl;have:w=.int .i64 n:=AH.val hcw;subst this;exact⟨by simpa using p,rfl⟩
 refine⟨v,?_⟩;have look':∀id o,look ((a,.cells Ta 1 (R1++[.d (.v v)]::R2))::(s,.sld T (sI (l1++(v,xs)::l2)))::kill i σ) id=some o->
  (id=a/\o=.cells Ta 1 (R1++[.d (.v v)]::R2))\/(id=s/\o=.sld T (sI (l1++(v,xs)::l2)))\/(id≠a/\id≠s/\id≠i/\look σ id=some o):=λid o f=>by
  rw[Az]at f;by_cases B:a=id
  ·rw[if_pos B]at f;injection f with f;exact .inl ⟨B.symm,f.symm⟩
  ·rw [if_neg B,Az]at f
   by_cases R:s=id
   ·rw[if_pos R]at f;injection f with f;exact .inr (.inl ⟨R.symm,f.symm⟩)
   ·rw[if_neg R,FB]at f
    by_cases N:id=i
    ·rw[if_pos N]at f;cases f
    ·rw[if_neg N]at f;exact .inr (.inr ⟨Ne.symm B,Ne.symm R,N,f⟩)
 have hsb:∀b,E5 V s (.sld T (sI (l1++(v,xs)::l2))) b->E5 V s (.sld T (sI (l1++l2))) b\/(¬V.nl i/\b=V.ρ i):=by
  rintro b ⟨x,A,hb⟩;obtain⟨y,l,rfl⟩:=XR A
  rcases f6.1 l with l|l
  ·exact .inl ⟨_,d9.2 ⟨y,pf _ l,rfl⟩,hb⟩
  ·rcases o3.1 l with rfl|l
   ·exact .inr (I b hb)
   ·exact .inl ⟨_,d9.2 ⟨y,pm _ l,rfl⟩,hb⟩
 have t:=h.st.obj s _ P
 have H:∀x∈sI (l1++l2),∀b,KO x.1 b->¬KO v b:=λx A b hb u=>by
  obtain⟨m,rfl⟩:=I b u;exact h.st.inj s i _ _ P hi (Ne.symm Y) t.1 m _ ⟨x,A,hb⟩ rfl
 have src:∀id o,look ((a,.cells Ta 1 (R1++[.d (.v v)]::R2))::(s,.sld T (sI (l1++(v,xs)::l2)))::kill i σ) id=some o->¬V.nl id->∀b,E5 V id o b->∃g J,look σ g=some J/\¬V.nl g/\E5 V g J b/\(g=id\/g=i/\id=s):=λid o f m b hb=>by
  rcases look' id o f with ⟨rfl,rfl⟩|⟨rfl,rfl⟩|⟨_,_,_,f⟩
  ·exact⟨_,_,ha,m,hb,.inl rfl⟩
  ·rcases hsb b hb with hb|⟨B,rfl⟩
   ·exact⟨_,_,P,m,hb,.inl rfl⟩
   ·exact⟨_,_,hi,B,rfl,.inr ⟨rfl,rfl⟩⟩
  ·exact⟨_,_,f,m,hb,.inl rfl⟩
 have noi:∀id o,look ((a,.cells Ta 1 (R1++[.d (.v v)]::R2))::(s,.sld T (sI (l1++(v,xs)::l2)))::kill i σ) id=some o->id≠i:=λid o f=>by
  rcases look' id o f with ⟨rfl,rfl⟩|⟨rfl,rfl⟩|⟨_,_,N,_⟩
  ·exact hai
  ·exact Ne.symm Y
  ·exact N
 refine⟨h.os,h.tape,h.output,h.old,h.iLt,h.iNew,h.ext,⟨λid o f=>?_,λid o f=>?_,λid o f m b hb=>?_,λid id' o o' f U X m hn' b hb u=>?_⟩,λid o f m b hb=>?_,h.tabs,h.hid.same rfl (λ_ h=>h) (λ_ h=>.inl h) λb ⟨id,o,f,m,hb⟩=>let ⟨g,J,G,z,F,_⟩:=src id o f m b hb;⟨g,J,G,z,F⟩⟩
 ·rcases look' id o f with ⟨rfl,rfl⟩|⟨rfl,rfl⟩|⟨_,_,_,f⟩
  ·refine .inr ⟨hna,cur,R,N,by simpa using h4,h5,λr L=>?_,λq r j c hq M=>?_⟩
   ·rcases f6.1 L with L|L
    ·exact h6 r (pf _ L)
    ·rcases o3.1 L with rfl|L
     ·rfl
     ·exact h6 r (pm _ (pg _ L))
   ·by_cases hq0:q=R1.length
    ·subst hq0
     simp at hq;subst hq
     have hj0:j=0:=by have:=(ce.1 M).1;simp at this;omega
     subst hj0;simp at M;subst M;exact⟨v,hv,.d (.v hsl)⟩
    ·refine h7 q r j c ?_ M
     rw[<-hq]
     rcases po q R1.length with Z|Z
     ·rw[f9 Z,f9 Z]
     ·rw[gc Z,gc Z]
      obtain⟨k,hk⟩:∃k,q-R1.length=k+1:=⟨q-R1.length-1,by omega⟩
      rw[hk];rfl
  ·refine⟨t.1,?_,λx A=>?_⟩
   ·have hp:=t.2.1
    rw[Ln,qA]at hp;rw[Ln,qA];refine⟨hp.1,pF.2 ⟨λy l b hb u=>H y (by rw[Ln];exact pm _ l) b u hb,hp.2.1⟩,λx A y l=>?_⟩
    rcases o3.1 l with rfl|l
    ·exact λb hb=>H x (by rw[Ln];exact pf _ A) b hb
    ·exact hp.2.2 x A y l
   ·obtain⟨y,l,rfl⟩:=XR A
    rcases f6.1 l with l|l
    ·exact t.2.2 _ (d9.2 ⟨y,pf _ l,rfl⟩)
    ·rcases o3.1 l with rfl|l
     ·exact K
     ·exact t.2.2 _ (d9.2 ⟨y,pm _ l,rfl⟩)
  ·exact h.st.obj id o f
 ·rcases look' id o f with ⟨rfl,rfl⟩|⟨rfl,rfl⟩|⟨_,_,_,f⟩
  ·exact h.st.lt _ _ ha
  ·exact h.st.lt _ _ P
  ·exact h.st.lt _ _ f
 ·obtain⟨g,J,G,z,F,_⟩:=src id o f m b hb
  exact h.st.free _ _ G z b F
 ·obtain⟨g,J,G,z,F,g4⟩:=src id o f m b hb
  obtain⟨S,o0',g1',g2',g3',g4'⟩:=src id' o' U hn' b u;refine h.st.inj g S _ _ G g1' ?_ z g2' b F g3';have n1:=noi id o f;have n2:=noi id' o' U;rintro rfl
  rcases g4 with rfl|⟨rfl,rfl⟩<;>rcases g4' with rfl|⟨e1,rfl⟩
  ·exact X rfl
  ·exact n1 e1
  ·exact n2 rfl
  ·exact X rfl
 ·obtain⟨g,J,G,z,F,_⟩:=src id o f m b hb
  exact h.live _ _ G z b F
theorem Ak.put{c:Code}{Q:Exit->Env->Ab->Nat->Prop}{f:Env}{nx:Nat}(a i s:Nat)(R1 R2:List (List C))(xs:List Int)(l1 l2:IY)(ha:look σ a=some (.cells Ta 1 (R1++[.arr i 1 0 xs.length]::R2)))(hi:look σ i=some (.cells T 1 (Mu xs)))(g:look σ s=some (.sld T (sI (l1++l2))))
 (h:∀v,Ak P TB Γ N c Q f ((a,.cells Ta 1 (R1++[.d (.v v)]::R2))::(s,.sld T (sI (l1++(v,xs)::l2)))::kill i σ) nx):Ak P TB Γ N c Q f σ nx:=by
 intro V ac b;obtain⟨v,e⟩:=b.inv.put ha hi g;exact h v V ac ⟨b.env,b.lt,b.size,e,b.nx,b.defers⟩
theorem Inv.take{v:Value}(h:Inv TB Γ V σ)(ha:look σ a=some (.cells Ta 1 (R1++[.d (.v v)]::R2)))(hs:look σ s=some (.sld T (sI (l1++(v,xs)::l2)))) :
 ∃V',V'.w=V.w/\V'.nx=V.nx+1/\Ext V V'/\Inv TB Γ V' ((a,.cells Ta 1 (R1++[.arr V.nx 1 0 xs.length]::R2))::(V.nx,.cells T 1 (Mu xs))::(s,.sld T (sI (l1++l2)))::σ):=by
 have has:a≠s:=λe=>by rw[e,hs]at ha;cases ha
 have p:=h.st.obj s _ hs;have Z:=h.st.lt _ _ hs;have l:=h.st.lt _ _ ha;have K:((v,xs.map (.int .i64)):Value×List Value)∈sI (l1++(v,xs)::l2):=d9.2 ⟨(v,xs),by simp,rfl⟩
 obtain⟨u,cap,nl,hb0,hcr,hob⟩:∃u cap nl,(¬nl->KO v u)/\AH (Ax V u cap nl V.w) (.arr V.nx 1 0 xs.length) v/\CO (Ax V u cap nl V.w) V.nx (.cells T 1 (Mu xs)):=by
  rcases p.2.2 _ K with ⟨m,G⟩|⟨b,cap,cur,m,G,z,h4,h5,h6⟩
  ·have m:v=.slice none 0 0:=m
   have hx0:xs=[]:=by simpa using G
   subst m;subst hx0;exact⟨0,0,True,λh=>absurd trivial h,.nil (by simp[Ax]) (by simp[Ax]),.inl ⟨by simp[Ax],rfl⟩⟩
  ·have m:v=.slice (some ⟨b,0,none⟩) (xs.map (Value.int .i64)).length cap:=m
   rw[gt]at m h4;refine⟨b,cap,False,λ_=>⟨_,_,_,m⟩,?_,.inr ⟨by simp[Ax],cur,by simpa[Ax]using G,by simpa[Ax]using z,by simpa[Ax]using h4,by simpa[Ax]using h5,λr A=>?_,λq r j c Y L=>?_⟩⟩
   ·rw[m]
    have:=@AH.arr (Ax V b cap False V.w) V.nx 1 0 xs.length (by simp[Ax]) (by simp[Ax]) (by simpa[Ax]using h4)
    simpa[Ax]using this
   ·obtain⟨n,_,rfl⟩:=d9.1 A;rfl
   ·rw[i9,d7]at Y
    obtain⟨n,t,rfl⟩:=Y
    have R:j=0:=by have:=(ce.1 L).1;simp at this;omega
    subst R;simp at L;subst L;exact⟨.int .i64 n,by simpa using (h6 q (.int .i64 n) (by simp[t])).1,.d (.v rfl)⟩
 have e:Ext V (Ax V u cap nl V.w):=Fc (jp _) λ_ _=>rfl
 have hρ:(Ax V u cap nl V.w).ρ V.nx=u:=by simp[Ax]
 have hnl:(Ax V u cap nl V.w).nl V.nx↔nl:=by simp[Ax]
 refine⟨Ax V u cap nl V.w,rfl,rfl,e,?_⟩;have look':∀id o,look ((a,.cells Ta 1 (R1++[.arr V.nx 1 0 xs.length]::R2))::(V.nx,.cells T 1 (Mu xs))::(s,.sld T (sI (l1++l2)))::σ) id=some o->
  (id=a/\o=.cells Ta 1 (R1++[.arr V.nx 1 0 xs.length]::R2))\/(id=V.nx/\o=.cells T 1 (Mu xs))\/(id=s/\o=.sld T (sI (l1++l2)))\/(id≠a/\id≠s/\look σ id=some o):=λid o f=>by
  rw[Az]at f;by_cases m:a=id
  ·rw[if_pos m]at f;injection f with f;exact .inl ⟨m.symm,f.symm⟩
  ·rw [if_neg m,Az]at f
   by_cases G:V.nx=id
   ·rw[if_pos G]at f;injection f with f;exact .inr (.inl ⟨G.symm,f.symm⟩)
   ·rw[if_neg G,Az]at f
    by_cases z:s=id
    ·rw[if_pos z]at f;injection f with f;exact .inr (.inr (.inl ⟨z.symm,f.symm⟩))
    ·rw[if_neg z]at f;exact .inr (.inr (.inr ⟨Ne.symm m,Ne.symm z,f⟩))
 have J:∀x∈sI (l1++l2),x∈sI (l1++(v,xs)::l2):=λx i=>by
  obtain⟨y,P,rfl⟩:=XR i;refine d9.2 ⟨y,?_,rfl⟩
  rcases f6.1 P with P|P
  ·exact pf _ P
  ·exact pm _ (pg _ P)
 have hp:=p.2.1;rw[Ln,qA]at hp;have hp2:=pF.1 hp.2.1
 have M:∀x∈sI (l1++l2),∀b,KO x.1 b->¬KO v b:=λx i b hb F=>by
  rw[Ln]at i
  rcases f6.1 i with i|i
  ·exact hp.2.2 x i _ (qO ..) b hb F
  ·exact hp2.1 x i b F hb
 have src:∀id o,look ((a,.cells Ta 1 (R1++[.arr V.nx 1 0 xs.length]::R2))::(V.nx,.cells T 1 (Mu xs))::(s,.sld T (sI (l1++l2)))::σ) id=some o->¬(Ax V u cap nl V.w).nl id->∀b,E5 (Ax V u cap nl V.w) id o b->
  ∃g N,look σ g=some N/\¬V.nl g/\E5 V g N b/\(g=id\/g=s/\id=V.nx/\KO v b)/\(id=s->∃x∈sI (l1++l2),KO x.1 b):=λid o f t b hb=>by
  rcases look' id o f with ⟨rfl,rfl⟩|⟨rfl,rfl⟩|⟨rfl,rfl⟩|⟨_,z,f⟩
  ·exact⟨_,_,ha,λh=>t ((e.nl _ l).2 h),by have:b=_:=hb;rw[e.ρ _ l]at this;exact this,.inl rfl,λe=>absurd e has⟩
  ·have hb:b=_:=hb
   rw[hρ]at hb;subst hb;have hv:=hb0 λh=>t (hnl.2 h);exact⟨_,_,hs,p.1,⟨_,K,hv⟩,.inr ⟨rfl,rfl,hv⟩,λe=>by omega⟩
  ·obtain⟨x,i,hb⟩:=hb
   exact⟨_,_,hs,p.1,⟨x,J x i,hb⟩,.inl rfl,λ_=>⟨x,i,hb⟩⟩
  ·have hlt:=h.st.lt _ _ f
   exact⟨_,_,f,λh=>t ((e.nl _ hlt).2 h),(AB e hlt).1 hb,.inl rfl,λe=>absurd e z⟩
 refine⟨h.os,h.tape,h.output,h.old,h.iLt,h.iNew,h.ext.trans e,⟨λid o f=>?_,λid o f=>?_,λid o f t b hb=>?_,λid id' o o' f ho' hne t hn' b hb F=>?_⟩,λid o f t b hb=>?_,h.tabs,h.hid.same rfl (λ_ h=>h) (λ_ h=>.inl h) λb ⟨id,o,f,t,hb⟩=>let ⟨g,N,X,U,S,_⟩:=src id o f t b hb;⟨g,N,X,U,S⟩⟩
 ·rcases look' id o f with ⟨rfl,rfl⟩|⟨rfl,rfl⟩|⟨rfl,rfl⟩|⟨_,_,f⟩
  ·rcases h.st.obj _ _ ha with ⟨_,h0⟩|⟨hna,cur,G,z,h4,h5,h6,h7⟩
   ·simp at h0
   refine .inr ⟨λh=>hna ((e.nl _ l).1 h),cur,by rw[e.ρ _ l];exact G,by rw[e.cap _ l];exact z,by rw[e.cap _ l];simpa using h4,by rw[e.cap _ l];exact h5,λr A=>?_,λq r j c Y L=>?_⟩
   ·rcases f6.1 A with A|A
    ·exact h6 r (pf _ A)
    ·rcases o3.1 A with rfl|A
     ·rfl
     ·exact h6 r (pm _ (pg _ A))
   ·by_cases hq0:q=R1.length
    ·subst hq0
     simp at Y;subst Y
     have R:j=0:=by have:=(ce.1 L).1;simp at this;omega
     subst R;simp at L;subst L;obtain⟨w,hw,hc⟩:=h7 R1.length [.d (.v v)] 0 (.d (.v v)) (by simp) rfl;have hw2:w=v:=AH.val hc;subst hw2;exact⟨w,hw,hcr⟩
    ·obtain⟨w,hw,hc⟩:=h7 q r j c (by
      rw[<-Y]
      rcases po q R1.length with h8|h8
      ·rw[f9 h8,f9 h8]
      ·rw[gc h8,gc h8]
       obtain⟨k,hk⟩:∃k,q-R1.length=k+1:=⟨q-R1.length-1,by omega⟩
       rw[hk];rfl) L
     exact⟨w,hw,hc.ext e⟩
  ·exact hob
  ·refine⟨λh=>p.1 ((e.nl _ Z).1 h),?_,λx i=>p.2.2 x (J x i)⟩
   rw[Ln,qA];exact⟨hp.1,hp2.2,λx i y P=>hp.2.2 x i y (pg _ P)⟩
  ·exact(h.st.obj id o f).AS e (h.st.lt id o f) λ_ _ _=>rfl
 ·rcases look' id o f with ⟨rfl,rfl⟩|⟨rfl,rfl⟩|⟨rfl,rfl⟩|⟨_,_,f⟩
  ·exact qB l
  ·exact qZ _
  ·exact qB Z
  ·exact qB (h.st.lt _ _ f)
 ·obtain⟨g,N,X,U,S,_⟩:=src id o f t b hb
  exact h.st.free _ _ X U b S
 ·obtain⟨g,N,X,U,S,g4,g5⟩:=src id o f t b hb
  obtain⟨I,o0',g1',g2',g3',H,g5'⟩:=src id' o' ho' hn' b F;by_cases B:g=I
  ·rcases g4 with g4|⟨k1,k2,k3⟩<;>rcases H with H|⟨k1',k2',k3'⟩
   ·exact hne (by rw[<-g4,<-H,B])
   ·obtain⟨x,i,Q⟩:=g5 (by rw[<-g4,B,k1'])
    exact M x i b Q k3'
   ·obtain⟨x,i,Q⟩:=g5' (by rw[<-H,<-B,k1])
    exact M x i b Q k3
   ·exact hne (by rw[k2,k2'])
  ·exact h.st.inj g I _ _ X g1' B U g2' b S g3'
 ·obtain⟨g,N,X,U,S,_⟩:=src id o f t b hb
  exact h.live _ _ X U b S
theorem Ak.take{c:Code}{Q:Exit->Env->Ab->Nat->Prop}{f:Env}{nx:Nat}(a s:Nat)(R1 R2:List (List C))(v:Value)(xs:List Int)(l1 l2:IY)(ha:look σ a=some (.cells Ta 1 (R1++[.d (.v v)]::R2)))(g:look σ s=some (.sld T (sI (l1++(v,xs)::l2))))
 (h:Ak P TB Γ N c Q f ((a,.cells Ta 1 (R1++[.arr nx 1 0 xs.length]::R2))::(nx,.cells T 1 (Mu xs))::(s,.sld T (sI (l1++l2)))::σ) (nx+1)):Ak P TB Γ N c Q f σ nx:=by
 intro V ac b;obtain⟨V',j,i,e,hi⟩:=b.inv.take ha g;have:=h V' ac ⟨b.env.ext e,b.lt,b.size,by have:=b.nx;subst this;exact hi,by rw[i,b.nx],b.defers⟩;rw[j]at this;exact this
theorem Ak.fb{c:Code}{Q:Exit->Env->Ab->Nat->Prop}{f:Env}{nx:Nat}(T:TypeId)(h:Ak P TB Γ N c Q f ((nx,.sld T (sI []))::σ) (nx+1)):Ak P TB Γ N c Q f σ nx:=by
 intro V ac k;have hi:=k.inv;have e:Ext V (Ax V 0 0 False V.w):=Fc (jp _) λ_ _=>rfl;have p:=k.nx;subst p
 have look':∀id o,look ((V.nx,.sld T (sI []))::σ) id=some o->(id=V.nx/\o=.sld T (sI []))\/(id≠V.nx/\look σ id=some o):=λid o a=>by
  rw[Az]at a;by_cases d:V.nx=id
  ·rw[if_pos d]at a;injection a with a;exact .inl ⟨d.symm,a.symm⟩
  ·rw[if_neg d]at a;exact .inr ⟨Ne.symm d,a⟩
 have src:∀id o,look ((V.nx,.sld T (sI []))::σ) id=some o->∀b,E5 (Ax V 0 0 False V.w) id o b->look σ id=some o/\E5 V id o b/\((Ax V 0 0 False V.w).nl id↔V.nl id):=λid o a b hb=>by
  rcases look' id o a with ⟨rfl,rfl⟩|⟨_,a⟩
  ·obtain⟨x,m,_⟩:=hb;cases m
  ·have l:=hi.st.lt _ _ a
   exact⟨a,(AB e l).1 hb,e.nl _ l⟩
 refine h (Ax V 0 0 False V.w) ac ⟨k.env.ext e,k.lt,k.size,?_,rfl,k.defers⟩;refine⟨hi.os,hi.tape,hi.output,hi.old,hi.iLt,hi.iNew,hi.ext.trans e,⟨λid o a=>?_,λid o a=>?_,λid o a g b hb=>?_,λid id' o o' a n q g r b hb s=>?_⟩,λid o a g b hb=>?_,hi.tabs,hi.hid.same rfl (λ_ h=>h) (λ_ h=>.inl h) λb ⟨id,o,a,g,hb⟩=>let ⟨d,j,i⟩:=src id o a b hb;⟨id,o,d,λh=>g (i.2 h),j⟩⟩
 ·rcases look' id o a with ⟨rfl,rfl⟩|⟨_,a⟩
  ·exact⟨by simp[Ax],List.Pairwise.nil,λx m=>by cases m⟩
  ·exact(hi.st.obj id o a).AS e (hi.st.lt id o a) λ_ _ _=>rfl
 ·rcases look' id o a with ⟨rfl,rfl⟩|⟨_,a⟩
  ·exact qZ _
  ·exact qB (hi.st.lt _ _ a)
 ·obtain⟨d,j,i⟩:=src id o a b hb
  exact hi.st.free _ _ d (λh=>g (i.2 h)) b j
 ·obtain⟨d,j,i⟩:=src id o a b hb
  obtain⟨v,u,t⟩:=src id' o' n b s;exact hi.st.inj _ _ _ _ d v q (λh=>g (i.2 h)) (λh=>r (t.2 h)) b j u
 ·obtain⟨d,j,i⟩:=src id o a b hb
  exact hi.live _ _ d (λh=>g (i.2 h)) b j
def C.OI:C->Bool
 | .d (.v _)|.d (.l [])|.arr ..|.ptr ..|.mp _|.fn _ []=>true
 | _=>false
def O.OI:O->Prop
 | .cells _ _ rows=>∀r∈rows,∀c∈r,C.OI c=true
 | _=>True
def E.OI:E->Prop
 | .o c=>C.OI c=true
 | .a cs=>∀c∈cs,C.OI c=true
 | .t xs=>∀x∈xs,∀c∈x.2,C.OI c=true
 | .e=>True
def mZ(σ:Ab):Prop:=∀x∈σ,O.OI x.2
theorem mZ.get{σ:Ab}(h:mZ σ){id:Nat}{o:O}(a:look σ id=some o):O.OI o:=by
 induction σ with
 | nil=>cases a
 | cons x r b=>
  obtain⟨k,y⟩:=x;rw[Az]at a;by_cases hk:k=id
  ·rw[if_pos hk]at a;injection a with a;subst a;exact h _ (qO ..)
  ·rw[if_neg hk]at a;exact b (λz c=>h z (pg _ c)) a
structure Un (V V':View):Prop where
 ρ:V'.ρ=V.ρ
 cap:V'.cap=V.cap
 nl:V'.nl=V.nl
 nx:V'.nx=V.nx
 w:V'.w=V.w
theorem AH.OI{V V':View}(s:Un V V'){c:C}{v:Value}(h:AH V c v)(i:c.OI=true):AH V' c v:=by
 cases h with
 | @d x v h=>
  cases h with
  | v h=>exact .d (.v h)
  | nil=>exact .d .nil
  | e h=>exact .d (.e h)
  | @l rows b o k cap vs hb a g m r q=>
   cases rows with
   | nil=>exact .d (.e g)
   | cons=>cases i
  | p=>cases i
 | nil a g=>exact .nil (by rw[s.nx];exact a) (by rw[s.nl];exact g)
 | @arr id k off len a g m=>rw[<-s.ρ,<-s.cap];exact .arr (by rw[s.nx];exact a) (by rw[s.nl];exact g) (by rw[s.cap];exact m)
 | ptr a g=>rw[<-s.ρ];exact .ptr (by rw[s.nx];exact a) (by rw[s.nl];exact g)
 | @fn f cap vs a g=>
  cases cap with
  | nil=>exact .fn a λj c v n=>by simp at n
  | cons=>cases i
 | mp a=>rw[<-s.ρ];exact .mp (by rw[s.nx];exact a)
 | mv=>cases i
theorem Bm.OI{V V':View}(s:Un V V'){e:E}{v:Value}(h:Bm V e v)(i:e.OI):Bm V' e v:=by
 cases e with
 | o c=>exact AH.OI s h i
 | a cs=>obtain⟨vs,n,m,l⟩:=h;exact⟨vs,n,m,λj c v d f=>(l j c v d f).OI s (i c (co d))⟩
 | t xs=>
  obtain⟨vs,n,m,l⟩:=h;refine⟨vs,n,m,λj x v d f=>?_⟩;have q:=l j x v d f;have p:=i x (co d);obtain⟨b,cs⟩:=x;cases b
  ·obtain⟨c,g,k⟩:=q
   have g:cs=[c]:=g;subst g;exact⟨c,rfl,k.OI s (p c (by simp))⟩
  ·obtain⟨ws,g,k,r⟩:=q
   exact⟨ws,g,k,λj c v d f=>(r j c v d f).OI s (p c (co d))⟩
 | e=>exact h
theorem CO.OI{V V':View}(s:Un V V'){id:Nat}{o:O}(h:CO V id o)(f:o.OI):CO V' id o:=by
 cases o with
 | cells T k rows=>
  rcases h with ⟨b,a⟩|⟨d,cur,a,u,t,q,p,n⟩
  ·exact .inl ⟨by rw[s.nl];exact b,a⟩
  ·refine .inr ⟨by rw[s.nl];exact d,cur,by rw[s.w,s.ρ];exact a,by rw[s.cap];exact u,by rw[s.cap];exact t,by rw[s.cap];exact q,p,λi r j c hi e=>?_⟩
   obtain⟨v,m,g⟩:=n i r j c hi e;exact⟨v,m,g.OI s (f r (co hi) c (co e))⟩
 | mp es=>obtain⟨d,ents,clock,b,a⟩:=h;exact⟨by rw[s.nl];exact d,ents,clock,by rw[s.w,s.ρ];exact b,a⟩
 | sld T l=>exact⟨by rw[s.nl];exact h.1,by rw[s.w];exact h.2⟩
section
variable {o:Oper}{f:Env}{nx:Nat}
theorem cD{V:View}{S:Uo}(h:Inv TB Γ V σ)(c:OA TB V σ S):Inv TB (Fz (Gl V σ) (Gl V σ) [] S) (Gl V σ) []:=
 ⟨rfl,rfl,rfl,λ_ _ _=>rfl,λb hb=>by
  rcases hb with hb|⟨id,o,e,d,hb⟩
  ·exact h.iLt b hb
  ·exact(h.st.obj id o e).blt d hb,λ_ h=>.inl h,Ext.refl _,EM,λid o f=>(by cases f),λx a=>⟨.inl (h.tabs x a).1,(h.tabs x a).2⟩,⟨S,⟨c.r,λb hb=>.inl (c.ji b hb),λb hb hi=>hi.elim (c.bi b hb) λ⟨id,o,e,d,a⟩=>c.ap b ⟨id,o,e,d,a⟩ hb,λb ⟨_,_,h,_⟩=>by cases h⟩,λb hb=>.inl hb,λb hb=>.inr (.inr hb)⟩⟩
theorem aM{V V':View}{σ':Ab}{S:Uo}(d:Inv TB Γ V σ)(M:OA TB V σ S)(G:∀b,S.J b->Γ.J b\/Γ.V.w.heap.size<=b\/Γ.F b)(m:∀b,S.B b->Γ.V.w.heap.size<=b\/Γ.F b)(l:Ext (Gl V σ) V')(hi:Inv TB (Fz (Gl V σ) (Gl V σ) [] S) V' σ')(A:mZ σ') :
 ∃V3,Un V' V3/\Ext V V3/\Inv TB Γ V3 (σ'++σ):=by
 have s:Un V' { V' with I:=λb=>V.I b\/(V'.I b/\(V.w.heap.size<=b\/S.B b)) } := ⟨rfl,rfl,rfl,rfl,rfl⟩
 have e:Ext V { V' with I:=λb=>V.I b\/(V'.I b/\(V.w.heap.size<=b\/S.B b)) } := ⟨λ_ h=>.inl h,λb hb=>l.heap b (.inl hb),l.size,l.ρ,l.cap,l.nl,l.nx⟩
 have bs:∀ {id:Nat} {o:O} {b:Nat},E5 { V' with I:=λb=>V.I b\/(V'.I b/\(V.w.heap.size<=b\/S.B b)) } id o b↔E5 V' id o b:=λ{id o b} => by cases o<;>exact Iff.rfl
 have k:∀id o,look σ' id=some o->¬V'.nl id->∀b,E5 V' id o b->V.w.heap.size<=b\/S.B b:=λid o a f b hb=>by
  rcases hi.live id o a f b hb with h|h|h
  ·exact .inl h
  ·obtain⟨_,_,h,_⟩:=h;cases h
  ·exact .inr h
 have q:∀id o,look σ id=some o->¬V.nl id->∀b,E5 V id o b->(V.w.heap.size<=b\/S.B b)->False:=λid o a f b hb h=>by
  rcases h with h|h
  ·have:=(d.st.obj _ _ a).blt f hb;omega
  ·exact M.ap b ⟨id,o,a,f,hb⟩ h
 refine⟨_,s,e,⟨hi.os.trans d.os,hi.tape.trans d.tape,hi.output.trans d.output,λb hb L=>(hi.old b (ms hb d.ext.size) (λh=>h.elim (λ⟨_,_,h,_⟩=>by cases h) λh=>(m b h).elim (λh=>by omega) L)).trans (d.old b hb L),λb hb=>?_,λb hb=>?_,d.ext.trans e,⟨λid o a=>?_,λid o a=>?_,λid o a f b hb hI=>?_,λid id' o o' j g y f n b hb p=>?_⟩,λid o a f b hb=>?_,λx K=>⟨.inl (d.tabs x K).1,(hi.tabs x K).2⟩,?_⟩⟩
 ·rcases hb with hb|hb
  ·exact hi.iLt b (l.i b (.inl hb))
  ·exact hi.iLt b hb.1
 ·rcases hb with hb|hb
  ·exact d.iNew b hb
  ·rcases hb.2 with h|h
   ·exact .inr (.inl (lm d.ext.size h))
   ·exact .inr (m b h)
 ·rcases CJ a with a|a
  ·exact(hi.st.obj id o a).OI s (A.get a)
  ·exact(d.st.obj id o a).AS e (d.st.lt id o a) λf b hb=>l.heap b (.inr ⟨id,o,a,f,hb⟩)
 ·rcases CJ a with a|a
  ·exact hi.st.lt id o a
  ·exact ms (d.st.lt id o a) l.nx
 ·rcases CJ a with a|a
  ·have u:=hi.st.free id o a f b (bs.1 hb)
   rcases hI with hI|hI
   ·exact u (l.i b (.inl hI))
   ·exact u hI.1
  ·have c:=d.st.lt id o a
   have hb:=(AB e c).1 hb;have f:¬V.nl id:=λh=>f ((e.nl id c).2 h)
   rcases hI with hI|hI
   ·exact d.st.free id o a f b hb hI
   ·exact q id o a f b hb hI.2
 ·rcases CJ j with j|j<;>rcases CJ g with g|g
  ·exact hi.st.inj _ _ _ _ j g y f n b (bs.1 hb) (bs.1 p)
  ·have u:=k id o j f b (bs.1 hb)
   have c:=d.st.lt _ _ g;exact q _ _ g (λh=>n ((e.nl _ c).2 h)) b ((AB e c).1 p) u
  ·have u:=k id' o' g n b (bs.1 p)
   have c:=d.st.lt _ _ j;exact q _ _ j (λh=>f ((e.nl _ c).2 h)) b ((AB e c).1 hb) u
  ·have c:=d.st.lt _ _ j
   have t:=d.st.lt _ _ g;exact d.st.inj _ _ _ _ j g y (λh=>f ((e.nl _ c).2 h)) (λh=>n ((e.nl _ t).2 h)) b ((AB e c).1 hb) ((AB e t).1 p)
 ·rcases CJ a with a|a
  ·rcases k id o a f b (bs.1 hb) with h|h
   ·exact .inl (lm d.ext.size h)
   ·exact m b h
  ·have c:=d.st.lt _ _ a
   exact d.live id o a (λh=>f ((e.nl _ c).2 h)) b ((AB e c).1 hb)
 ·obtain⟨S1,v,H,P⟩:=hi.hid
  have N:∀b,S1.B b->V.w.heap.size<=b\/S.B b:=λb hb=>by
   rcases P b hb with h|h|h
   ·exact .inl h
   ·obtain⟨_,_,h,_⟩:=h;cases h
   ·exact .inr h
  refine⟨S1,⟨v.r,λb hb=>?_,λb hb hI=>v.bi b hb (hI.elim (λh=>l.i b (.inl h)) λh=>h.1),λb ⟨id,o,a,f,hb⟩ z=>?_⟩,λb hb=>?_,λb hb=>?_⟩
  ·rcases H b hb with h|h|h|h
   ·exact .inl (M.ji b h)
   ·exact .inr ⟨v.ji b hb,.inl h⟩
   ·obtain⟨_,_,h,_⟩:=h;cases h
   ·exact .inr ⟨v.ji b hb,.inr h⟩
  ·rcases CJ a with a|a
   ·exact v.ap b ⟨id,o,a,f,bs.1 hb⟩ z
   ·have c:=d.st.lt _ _ a
    exact q _ _ a (λh=>f ((e.nl _ c).2 h)) b ((AB e c).1 hb) (N b z)
  ·rcases H b hb with h|h|h|h
   ·exact G b h
   ·exact .inr (.inl (lm d.ext.size h))
   ·obtain⟨_,_,h,_⟩:=h;cases h
   ·exact .inr (m b h)
  ·rcases N b hb with h|h
   ·exact .inl (lm d.ext.size h)
   ·exact m b h
theorem gp{V:View}{a:Act}{L:List (Nat×E)}(h:Inv TB Γ V σ)(c:WL σ f L)(i:Jh V o f a):Jh (Gl V σ) o (look L) a:=λt e ht b=>by
 obtain⟨y,g,d⟩:=c.get t e b;exact d.rel h (i t y ht g)
theorem A6.Rt{x:E}(L:List (Nat×E))(n:WL σ f L)(h:∀Γ',A6 P TB Γ' o (look L) [] nx x)(c:x.OI):A6 P TB Γ o f σ nx x:=by
 intro V a q b p;obtain⟨S,k,i,j⟩:=b.hid;refine Oper.wp_mono ?_ (h (Fz (Gl V σ) (Gl V σ) [] S) (Gl V σ) a (gp b n q) (cD b k) p);rintro a' w' ⟨V',v,rfl,rfl,m,hi,l,d⟩;obtain⟨V3,s,e,g⟩:=aM b k i j m hi (λx d=>by cases d);exact⟨V3,v,s.w,rfl,e,g,by rw[s.nx];exact l,d.OI s c⟩
end
def He(σ:Ab):List Nat->Ab
 | []=>[]
 | i::r=>match look σ i with
  | some o=>(i,o)::He σ r
  | none=>He σ r
theorem EJ{σ:Ab}:∀ {ids:List Nat} {id:Nat} {o:O},look (He σ ids) id=some o->id∈ids/\look σ id=some o
 | [],_,_,h=>by cases h
 | i :: r,id,o,h=>by
  unfold He at h;split at h
  ·rename_i o' a
   rw[Az]at h;by_cases hi:i=id
   ·rw[if_pos hi]at h;injection h with h;subst h;subst hi;exact⟨qO ..,a⟩
   ·rw[if_neg hi]at h
    have:=EJ h;exact⟨pg _ this.1,this.2⟩
  ·have:=EJ h
   exact⟨pg _ this.1,this.2⟩
def bZ(σi:Ab)(f:Env):List (Nat×E)->Prop
 | []=>True
 | (t,e')::L=>(∃e,f t=some e/\(e=e'\/EZ σi e e'))/\bZ σi f L
theorem bZ.get{σi:Ab}{f:Env}:∀ {L:List (Nat×E)},bZ σi f L->∀t e',look L t=some e'->∃e,f t=some e/\(e=e'\/EZ σi e e')
 | [],_,t,e,h=>by cases h
 | (k,x)::L,a,t,e,h=>by
  rw[Az]at h;by_cases hk:k=t
  ·rw[if_pos hk]at h;injection h with h;subst h;subst hk;exact a.1
  ·rw[if_neg hk]at h;exact bZ.get a.2 t e h
theorem Ak.AF{c:Code}{Q:Exit->Env->Ab->Nat->Prop}{f:Env}{nx:Nat}(ids:List Nat)(L:List (Nat×E))(w:bZ (He σ ids) f L)(h:Ak P TB Γ N c Q (look L) (Ce ids σ) nx):Ak P TB Γ N c Q f σ nx:=by
 intro V a l;have hi:=l.inv;have i:∀id o,look (He σ ids) id=some o->look σ id=some o:=λid o h=>(EJ h).2;have u:Inv TB Γ V (He σ ids):=hi.sub i;have e:Ext V (Gl V (He σ ids)):=LF;refine h (Gl V (He σ ids)) a ⟨λt x p=>?_,λt x p=>?_,l.size,?_,l.nx,l.defers⟩
 ·obtain⟨y,q,g⟩:=w.get t x p
  rcases g with rfl|g
  ·exact(l.env t _ q).ext e
  ·exact g.rel u (l.env t y q)
 ·obtain⟨y,q,_⟩:=w.get t x p
  exact l.lt t y q
 ·refine⟨hi.os,hi.tape,hi.output,hi.old,?_,?_,hi.ext.trans e,⟨?_,?_,?_,?_⟩,?_,λx p=>⟨.inl (hi.tabs x p).1,(hi.tabs x p).2⟩,hi.hid.same rfl (λ_ h=>.inl h) (λb hb=>hb.elim .inl λ⟨id,o,d,j,v⟩=>.inr ⟨id,o,i _ _ d,j,v⟩) λb ⟨id,o,d,j,hb⟩=>have g:=(A9 ids σ id o d).2;⟨id,o,g,j,(AB e (hi.st.lt id o g)).1 hb⟩⟩
  ·rintro b (hb|⟨id,o,d,j,hb⟩)
   ·exact hi.iLt b hb
   ·exact(hi.st.obj id o (i _ _ d)).blt j hb
  ·rintro b (hb|⟨id,o,d,j,hb⟩)
   ·exact hi.iNew b hb
   ·exact .inr (hi.live id o (i _ _ d) j b hb)
  ·intro id o d
   have:=(A9 ids σ id o d).2;exact(hi.st.obj id o this).AS e (hi.st.lt id o this) λ_ _ _=>rfl
  ·intro id o d;exact hi.st.lt id o (A9 ids σ id o d).2
  ·intro id o d j b k hb
   obtain⟨q,g⟩:=A9 ids σ id o d;have k:=(AB e (hi.st.lt id o g)).1 k
   rcases hb with hb|⟨id',o',n,m,v⟩
   ·exact hi.st.free id o g j b k hb
   ·have z:=EJ n
    exact hi.st.inj id id' o o' g z.2 (λe=>q (e▸z.1)) j m b k v
  ·intro id id' o o' d n s j m b hb k
   have g:=(A9 ids σ id o d).2;have r:=(A9 ids σ id' o' n).2;exact hi.st.inj id id' o o' g r s j m b ((AB e (hi.st.lt id o g)).1 hb) ((AB e (hi.st.lt id' o' r)).1 k)
  ·intro id o d j b hb
   have g:=(A9 ids σ id o d).2;exact hi.live id o g j b ((AB e (hi.st.lt id o g)).1 hb)
theorem FZ.Nx{a s:Nat}{T Ta:TypeId}{l:IY}(ha:look σ a=some (.cells Ta 1 (AA l)))(e:look σ s=some (.sld T (sI l))):FZ σ (.arr a 1 0 l.length) (C7 (l.map (·.2))):=by
 refine .rows ha (by simp) (CR l) λi r' hi=>?_;simp only[i9,d7]at hi;obtain⟨x,⟨y,b,rfl⟩,rfl⟩:=hi;refine⟨[.d (.v y.1)],by simp[AA,b],.cons ?_ .nil⟩;have c:FZ σ (.d (.v y.1)) (.l ((y.2.map (Value.int .i64)).map λx=>[D.v x])):=.sld e (d9.2 ⟨y,co b,rfl⟩);rw[pR]at c;exact c
theorem Ak.TQ{c:Code}{Q:Exit->Env->Ab->Nat->Prop}{f:Env}{nx:Nat}(a i s:Nat)(l:IY)(xs:List Int)(ha:look σ a=some (.cells Ta 1 (AA l++[[.arr i 1 0 xs.length]])))(hi:look σ i=some (.cells T 1 (Mu xs)))(b:look σ s=some (.sld T (sI l)))
 (h:∀v,Ak P TB Γ N c Q f ((a,.cells Ta 1 (AA (l++[(v,xs)])))::(s,.sld T (sI (l++[(v,xs)])))::kill i σ) nx):Ak P TB Γ N c Q f σ nx:=
 Ak.put a i s (AA l) [] xs l [] ha hi (by rw[pA];exact b) λv=>by
  have:=h v;rw[A2]at this;exact this
theorem PZ{l:IY}{k:Nat}{y:Value×List Int}(h:l[k]?=some y):l=l.take k++y::l.drop (k+1)/\(l.take k).length=k:=by
 obtain⟨hk,rfl⟩:=ce.1 h;refine⟨?_,by rw[qu];omega⟩;rw[<-qS hk,pP]
theorem T9{α:Type}{l1 l2:List α}{x y:α}{k:Nat}(h:l1.length=k):(l1++x::l2).set k y=l1++y::l2:=by
 subst h;simp
theorem Ak.km{c:Code}{Q:Exit->Env->Ab->Nat->Prop}{f:Env}{nx:Nat}(a s:Nat)(l:IY)(k:Nat)(y:Value×List Int)(hk:l[k]?=some y)(ha:look σ a=some (.cells Ta 1 (AA l)))(g:look σ s=some (.sld T (sI l)))
 (h:Ak P TB Γ N c Q f ((a,.cells Ta 1 ((AA l).set k [.arr nx 1 0 y.2.length]))::(nx,.cells T 1 (Mu y.2))::(s,.sld T (sI (l.eraseIdx k)))::σ) (nx+1)):Ak P TB Γ N c Q f σ nx:=by
 obtain⟨b,i⟩:=PZ hk;obtain⟨v,xs⟩:=y
 have e:AA l=AA (l.take k)++[.d (.v v)]::AA (l.drop (k+1)):=by
  have:=congrArg AA b;rw[A2]at this;exact this
 refine Ak.take a s (AA (l.take k)) (AA (l.drop (k+1))) v xs (l.take k) (l.drop (k+1)) (by rw[<-e];exact ha) (by rw[<-b];exact g) ?_
 have m:(AA l).set k [.arr nx 1 0 xs.length]=AA (l.take k)++[.arr nx 1 0 xs.length]::AA (l.drop (k+1)):=by
  rw[e,T9 (by rw[CR,i])]
 have j:l.eraseIdx k=l.take k++l.drop (k+1):=r8 ..;rw[m,j]at h;exact h
theorem Ak.putAt{c:Code}{Q:Exit->Env->Ab->Nat->Prop}{f:Env}{nx:Nat}(a i s:Nat)(l:IY)(k:Nat)(y:Value×List Int)(hk:l[k]?=some y)(xs:List Int)(ha:look σ a=some (.cells Ta 1 ((AA l).set k [.arr i 1 0 xs.length])))(hi:look σ i=some (.cells T 1 (Mu xs)))(b:look σ s=some (.sld T (sI (l.eraseIdx k))))
 (h:∀v,Ak P TB Γ N c Q f ((a,.cells Ta 1 (AA (l.set k (v,xs))))::(s,.sld T (sI (l.set k (v,xs))))::kill i σ) nx):Ak P TB Γ N c Q f σ nx:=by
 obtain⟨g,e⟩:=PZ hk
 have n:AA l=AA (l.take k)++[.d (.v y.1)]::AA (l.drop (k+1)):=by
  have:=congrArg AA g;rw[A2]at this;exact this
 rw[n,T9 (by rw[CR,e])]at ha;rw[show l.eraseIdx k=l.take k++l.drop (k+1) from r8 ..]at b;refine Ak.put a i s (AA (l.take k)) (AA (l.drop (k+1))) xs (l.take k) (l.drop (k+1)) ha hi b λv=>?_
 have j:l.set k (v,xs)=l.take k++(v,xs)::l.drop (k+1):=by
  have this:l.set k (v,xs)=(l.take k++y::l.drop (k+1)).set k (v,xs):=congrArg (λm=>List.set m k (v,xs)) g;rw[this,T9 e]
 have:=h v;rw[j,A2]at this;exact this
theorem AR.Bi{g:FuncId}{m nx:Nat}{args:List E}{post:E->Ab->Nat->Prop}
 (h:AR P TB g m σ nx args (λx d c=>∃(l:List Nat) (x':E) (a:Ab),((∀i,i<m->l[i]?=some i)/\l.Nodup)/\x=x'.Bi (nm l c)/\Bd (nm l c) d a/\post x' a l.length)):AR P TB g m σ nx args post:=
 ⟨h.1, λV vs S n ha=>(h.2 V vs S n ha).mono λe w' ⟨V',v,x,σ',w,u,s,r,l,x',a,j,q,p,o⟩=>by
  have k:Cw TB (Fz V (Lc V m) σ S) 1 V' (look [(0,x)]) σ' V'.nx { tmps:=#[v],defers:=[] } := by
   refine⟨λt y b=>?_,λt y b=>?_,rfl,s,rfl,rfl⟩
   ·rw[Az]at b
    by_cases ht:0=t
    ·rw[if_pos ht]at b;injection b with b;subst b;subst ht;exact r
    ·rw[if_neg ht]at b;cases b
   ·rw[Az]at b
    by_cases ht:0=t
    ·subst ht;exact sV
    ·rw[if_neg ht]at b;cases b
  obtain⟨V'',z,f⟩:=k.Bi l [(0,x')] a j.1 j.2 ⟨by rw[<-q];rfl,trivial⟩ p;refine⟨V'',v,x',a,w,z.trans u,f.inv,f.env 0 x' rfl,?_⟩
  rw[f.nx];exact o⟩
theorem Fs{m:Nat}{σ σ':Ab}(i:Nat)(a:m=2 ^ i)(h:look σ' i=look σ i):Kept m σ σ':=λid hb=>by
 subst a;rw[qq]at hb;have:i=id:=of_decide_eq_true hb;subst this;exact h
theorem KF{m:Nat}{σ σ':Ab}(i j:Nat)(a:m=2 ^ i ||| 2 ^ j)(h:look σ' i=look σ i)(b:look σ' j=look σ j):Kept m σ σ':=λid hb=>by
 subst a;rw[ql,o8,qq,qq,decide_eq_true_eq,decide_eq_true_eq]at hb
 rcases hb with hb|hb
 ·subst hb;exact h
 ·subst hb;exact b
theorem Mx{l1 l2:IY}{c:C}{k:Nat}(h:l1.length=k):(AA l1++[c]::AA l2)[k]?=some [c]:=by
 subst h;rw[gc (by rw[CR];exact jp _),CR];simp
theorem eR [j:Dp P] {g:FuncId} {fn:Func} {c:Code} {nx:Nat} {args:List E} {post:E->Ab->Nat->Prop} (f:P.funcs[g]?=some fn) (hb:fn.body=some c) (a:(fn.name == "runtime.NumGoroutine")=false)
 (ha:Nat.ble args.length fn.ntmps=true) (h:∀Γ:Ctx,Γ.V.nx=nx->Ak P TB Γ fn.ntmps c (cd j.T fn.results (λx e d=>∃(l:List Nat) (x':E) (b:Ab),((∀i,i<nx->l[i]?=some i)/\l.Nodup)/\x=x'.Bi (nm l d)/\Bd (nm l d) e b/\post x' b l.length)) (look (Cr 0 args)) σ nx):Spec P TB g σ nx args post:=
 AR.HH (AR.Bi (AR.Sq (jp _) f hb a (am ha) h))
end
theorem cN:(∀(r:Nat->Nat) (l:IY),(AA l).map (C.CB r)=AA l)/\(∀(α:Type) (b:Bool) (x y:α),(bif b then x else y)=if b=true then x else y)/\∀a b:Nat,(Nat.beq a b=true)=(a=b):=
 ⟨VB,λ_ b _ _=>by cases b<;>rfl,λ_ _=>Nat.beq_eq⟩
end Go.Am
namespace Go.Am
open Go Go.Proofs
set_option maxHeartbeats 1000000
set_option maxRecDepth 4000
attribute [local irreducible] A6 CC Lex Bz Ak Spec
variable {TB:BJ}
abbrev bN(n:UInt8):List D:=[.v (.int .u8 n.toNat)]
abbrev ft(l:List UInt8):D:=.l (l.map bN)
abbrev Bo(b:List UInt8)(p:Int):O:=.cells 98 2 [[.d (ft b),.d (iD p)]]
theorem da{a b:Nat}(ha:a<2 ^ 62)(hb:b<2 ^ 62):Xj .i64 a b=((a ^^^ b:Nat):Int):=by
 unfold Xj
 have d:(BitVec.ofInt IntKind.i64.bits (a:Int)).toNat=a:=by
  rw[BitVec.toNat_ofInt];have:IntKind.i64.bits=64:=rfl;rw[this];omega
 have c:(BitVec.ofInt IntKind.i64.bits (b:Int)).toNat=b:=by
  rw[BitVec.toNat_ofInt];have:IntKind.i64.bits=64:=rfl;rw[this];omega
 rw[BitVec.toNat_xor,d,c];have e:a ^^^ b<2 ^ 62:=Nat.xor_lt_two_pow ha hb;exact IntWalk.i64_in _ (by omega)
theorem gf{x y:Int}(d:0<=x/\x<4611686018427387904)(c:0<=y/\y<4611686018427387904):0<=Xj .i64 x y/\Xj .i64 x y<4611686018427387904:=by
 obtain⟨a,rfl⟩:∃a:Nat,x=a:=⟨x.toNat,by omega⟩
 obtain⟨b,rfl⟩:∃b:Nat,y=b:=⟨y.toNat,by omega⟩
 rw[da (by omega) (by omega)];have e:a ^^^ b<2 ^ 62:=Nat.xor_lt_two_pow (by omega) (by omega);omega
theorem Xn(b:List UInt8)(hb:b.length<=9223372036854775807):∃b':List UInt8,b'.length<=2000/\AR Tryz.prog TB 28 0 [] 0 [.o (.d (ft b))] (λx σ nx=>x=.o (.ptr 0 2 0 0)/\σ=[(0,Bo b' 0)]/\nx=1):=by
 by_cases h:b.length<=2000
 ·refine⟨b,h,?_⟩
  refine AR.Sq (m:=0) (am rfl) Tryz.func28 rfl (by kernel_rfl) (am rfl) ?_;intro Γ c;(repeat first|refine sN rfl ?_|refine tX rfl ?_|refine s2 rfl λ_ a=>?_|refine aU rfl ?_|apply Aa)
  ((refine aC rfl ?_ ?_<;>rintro⟨⟩);all_goals try (simp at a;done))
  ·exfalso;(simp only[oZ] at *;omega)
  apply aK;(repeat first|refine tX rfl ?_|(refine Ag rfl ?_;refine gA rfl ?_;first|refine gS (λ_ _=>AG rfl rfl (by rfl) (by rfl)) ?_)|refine aU rfl ?_);(refine pW rfl ?_ rfl (by rfl);refine Dm rfl rfl ?_);(repeat first|refine tX rfl ?_|apply Aa);refine aR ⟨_,rfl,rfl,rfl,rfl⟩
 ·refine⟨b.take 2000,by simp;omega,?_⟩
  have e:(b.map bN).take (2000:Int).toNat=(b.take 2000).map bN:=by simp[sx]
  refine AR.Sq (m:=0) (am rfl) Tryz.func28 rfl (by kernel_rfl) (am rfl) ?_;intro Γ c;(repeat first|refine sN rfl ?_|refine tX rfl ?_|refine s2 rfl λ_ a=>?_|refine aU rfl ?_|apply Aa)
  ((refine aC rfl ?_ ?_<;>rintro⟨⟩);all_goals try (simp at a;done))
  ·(repeat first|refine tX rfl ?_|(refine Ag rfl ?_;refine gA rfl ?_;first|refine gS (λ_ _=>O9 rfl rfl (by simp) (by omega) (by simp;omega)) ?_)|refine aU rfl ?_|apply Aa)
   rw[e];(repeat first|(refine Ag rfl ?_;refine gA rfl ?_;first|refine gS (λ_ _=>AG rfl rfl (by rfl) (by rfl)) ?_));(refine pW rfl ?_ rfl (by rfl);refine Dm rfl rfl ?_);(repeat first|refine tX rfl ?_|apply Aa);refine aR ⟨_,rfl,rfl,rfl,rfl⟩
  ·exfalso;(simp only[oZ] at *;omega)
theorem Bn(b:List UInt8)(hb:b.length<=2000)(p n:Int)(L:0<=p/\p<1000000000):∃k:Int,0<=k/\(k=0\/k<n)/\Spec Tryz.prog TB 46 [(0,Bo b p)] 1 [.o (.ptr 0 2 0 0),eI .i64 n] (λx σ nx=>x=eI .i64 k/\σ=[(0,Bo b (p+1))]/\nx=1):=by
 by_cases I:n<1\/b.length=0
 ·refine⟨0,by omega,.inl rfl,?_⟩
  refine eR Tryz.func46 rfl (by kernel_rfl) rfl ?_;intro Γ a;(repeat' first|refine sN rfl ?_|(refine sA rfl ?_ ?_;first|exact tI|omega|simp only[oZ] at *;omega)|refine s2 rfl λ_ e=>?_|refine s3 rfl ?_ ?_<;>rintro rfl|refine aU rfl ?_|apply Aa|refine rE (by kernel_rfl) ?_|(refine aC rfl ?_ ?_<;>rintro⟨⟩)|apply aK|apply aE|apply aB|refine aR ⟨_,rfl,?_⟩)
  all_goals first
   | (exfalso;(simp only[oZ] at *;omega);done)
   | refine⟨[0],eI .i64 0,[(0,Bo b (p+1))],⟨by first|(simp;done)|decide|(intro i hi;match i with|0=>rfl),by decide⟩,rfl,by (simp[cX,zC,a]),rfl,rfl,rfl⟩
 have K:0<b.length:=by omega
 have q:0<n:=by omega
 by_cases J:p<b.length
 ·obtain⟨c,m⟩:=get_some (l:=b) (k:=(p+1-1).toNat) (by omega)
  have j:=get_map (g:=bN) m;have h:=c.toNat_lt;refine⟨(c.toNat:Int)%n,pX _ (by omega),.inr (pM _ q),?_⟩;refine eR Tryz.func46 rfl (by kernel_rfl) rfl ?_;intro Γ a;(repeat' first|refine sN rfl ?_|(refine sA rfl ?_ ?_;first|exact tI|omega)|(refine s4 rfl ‹_› rfl ?_ ?_;omega)|refine s2 rfl λ_ e=>?_|refine s3 rfl ?_ ?_<;>rintro rfl|refine aU rfl ?_|apply Aa|refine rE (by kernel_rfl) ?_|(refine aC rfl ?_ ?_<;>rintro⟨⟩)|apply aK|apply aE|apply aB|refine aR ⟨_,rfl,?_⟩)
  all_goals first
   | (exfalso;(simp only[oZ] at *;omega);done)
   | refine⟨[0],_,[(0,Bo b (p+1))],⟨by first|(simp;done)|decide|(intro i hi;match i with|0=>rfl),by decide⟩,rfl,by (simp[cX,zC,a]),rfl,rfl,rfl⟩
 ·have f:(0:Int)<b.length:=by omega
  have H:=pX (p+1-1) (show (b.length:Int)≠0 by omega);have G:=pM (p+1-1) f;have F:=pX ((p+1-1)*7+3) (show (b.length:Int)≠0 by omega);have B:=pM ((p+1-1)*7+3) f;obtain⟨c,m⟩:=get_some (l:=b) (k:=((p+1-1)%(b.length:Int)).toNat) (by omega);have j:=get_map (g:=bN) m;have h:=c.toNat_lt;obtain⟨d,u⟩:=get_some (l:=b) (k:=(((p+1-1)*7+3)%(b.length:Int)).toNat) (by omega);have t:=get_map (g:=bN) u;have s:=d.toNat_lt;have A:0<=(p+1-1) / (b.length:Int):=qP (by omega) (by omega);have z:(p+1-1) / (b.length:Int)<=p+1-1:=qJ _ (by omega)
  obtain⟨x,r⟩:∃x,x=(c.toNat:Int)*131+(d.toNat:Int)*1117+(p+1-1)*29+(p+1-1) / (b.length:Int)*53:=⟨_,rfl⟩
  have w:0<=x/\x<1000000000000:=by omega
  have v:=gf (x:=x) (y:=x / 64) (by omega) (by omega);refine⟨Xj .i64 x (x / 64)%n,pX _ (by omega),.inr (pM _ q),?_⟩;refine eR Tryz.func46 rfl (by kernel_rfl) rfl ?_;intro Γ a;(repeat' first|refine sN rfl ?_|(refine sA rfl ?_ ?_;first|exact tI|omega)|(refine s4 rfl ‹_› rfl ?_ ?_;omega)|(refine s2 rfl λ_ e=>?_;try (simp only[pT,p7]at e;subst e))|(refine Ag rfl ?_;refine gA rfl ?_;first|refine gS (λ_ _=>mj rfl rfl rfl) ?_)|refine s3 rfl ?_ ?_<;>rintro rfl|refine aU rfl ?_|apply Aa|refine rE (by kernel_rfl) ?_|(refine aC rfl ?_ ?_<;>rintro⟨⟩)|apply aK|refine aR ⟨_,rfl,?_⟩|(rw[<-r]))
  all_goals first
   | (exfalso;(simp only[oZ] at *;omega);done)
   | refine⟨[0],_,[(0,Bo b (p+1))],⟨by first|(simp;done)|decide|(intro i hi;match i with|0=>rfl),by decide⟩,rfl,by (simp[cX,zC,a]),rfl,rfl,rfl⟩
theorem Ds(b:List UInt8)(hb:b.length<=2000)(p:Int)(m:0<=p/\p<1000000000)(l:List Int)(s:0<l.length)(j:l.length<1000000):∃k∈l,Spec Tryz.prog TB 88 [(0,Bo b p)] 1 [.o (.ptr 0 2 0 0),Al l] (λx σ nx=>x=eI .i64 k/\σ=[(0,Bo b (p+1))]/\nx=1):=by
 obtain⟨k,r,q,h⟩:=Bn (TB:=TB) b hb p l.length m;obtain⟨x,c⟩:=get_some (l:=l) (k:=k.toNat) (by omega);have f:=get_map (g:=Bs) c;refine⟨x,co c,?_⟩;refine eR Tryz.func88 rfl (by kernel_rfl) rfl ?_;intro Γ a;(repeat first|refine sN rfl ?_|refine tA rfl ?_|refine aU rfl ?_|apply Aa);(refine pW rfl ?_ rfl (by rfl);refine Ai [0] rfl rfl (h) ⟨rfl,by decide,by decide⟩ rfl (by simp[cX,zC,a]) ?_;rintro n d e ⟨rfl,rfl,rfl⟩ _);(repeat first|refine tA rfl ?_|(refine s4 rfl ‹_› rfl ?_ ?_;omega)|apply Aa);refine aR ⟨_,rfl,?_⟩;refine⟨[0],_,[(0,Bo b (p+1))],⟨by first|(simp;done)|decide|(intro i hi;match i with|0=>rfl),by decide⟩,rfl,by (simp[cX,zC,a]),rfl,rfl,rfl⟩
theorem lN(b:List UInt8)(hb:b.length<=2000)(p:Int)(m:0<=p/\p<1000000000)(l:List W)(s:0<l.length)(j:l.length<1000000):∃k∈l,Spec Tryz.prog TB 109 [(0,Bo b p)] 1 [.o (.ptr 0 2 0 0),BW l] (λx σ nx=>x=eT k/\σ=[(0,Bo b (p+1))]/\nx=1):=by
 obtain⟨k,r,q,h⟩:=Bn (TB:=TB) b hb p l.length m;obtain⟨x,c⟩:=get_some (l:=l) (k:=k.toNat) (by omega);have f:=get_map (g:=CX) c;refine⟨x,co c,?_⟩;refine eR Tryz.func109 rfl (by kernel_rfl) rfl ?_;intro Γ a;(repeat first|refine sN rfl ?_|refine tA rfl ?_|refine aU rfl ?_|apply Aa);(refine pW rfl ?_ rfl (by rfl);refine Ai [0] rfl rfl (h) ⟨rfl,by decide,by decide⟩ rfl (by simp[cX,zC,a]) ?_;rintro n d e ⟨rfl,rfl,rfl⟩ _);(repeat first|refine tA rfl ?_|(refine s4 rfl ‹_› rfl ?_ ?_;omega)|apply Aa);refine aR ⟨_,rfl,?_⟩;refine⟨[0],_,[(0,Bo b (p+1))],⟨by first|(simp;done)|decide|(intro i hi;match i with|0=>rfl),by decide⟩,rfl,by (simp[cX,zC,a]),rfl,rfl,rfl⟩
abbrev Xf(al:Int)(i j:Nat)(n m:Nat):E:=.a [.d (iD al),.arr i 1 0 n,.arr j 1 0 m]
def Ul(b:List UInt8)(al p n:Int)(x:E)(σ:Ab)(nx:Nat):Prop:=∃(p':Int) (l:IY) (ac:List Bool),(p<=p'/\p'<=p+7*n)/\(l.length:Int)=n/\ac.length=l.length/\(∀x∈l,x.2.length=(Ac al).length)/\
 x=Xf al 1 2 l.length ac.length/\σ=[(0,Bo b p'),(1,.cells 63 1 (AA l)),(2,.cells 4 1 (ac.map AU)),(3,.sld 3 (sI l))]/\nx=4
theorem Od(b:List UInt8)(hb:b.length<=2000)(p:Int)(R:0<=p/\p<900000000)(al n:Int)(Q:0<=n/\n<1000):AR Tryz.prog TB 107 1 [(0,Bo b p)] 1 [.o (.ptr 0 2 0 0),eI .i64 al,eI .i64 n] (Ul b al p n):=by
 have L:(Ac al).length<=6:=AM al 6;refine AR.Bi (AR.Sq (m:=1) (am rfl) Tryz.func107 rfl (by kernel_rfl) (am rfl) ?_);intro Γ a;(repeat first|refine tA rfl ?_|refine aU rfl ?_|apply Aa);(refine pW rfl ?_ rfl (by rfl);refine JY 1 1 63 2 1 4 rfl rfl (by decide) rfl rfl (by rfl) (by rfl) ?_);(repeat first|refine sN rfl ?_|refine tA rfl ?_|refine sP rfl (Cm al) rfl ?_|refine aU rfl ?_|apply Aa);apply aB;refine Ak.fb 3 ?_;refine aL (α:={s:Nat×Int×IY×List Bool // (s.1:Int)<=n/\(p<=s.2.1/\s.2.1<=p+7*s.1)/\s.2.2.1.length=s.1/\s.2.2.2.length=s.1/\∀x∈s.2.2.1,x.2.length=(Ac al).length}) [0,2,6,7,8] [1] rfl rfl (λs=>[(9,eI .i64 s.1.1)]) (λs=>[(0,Bo b s.1.2.1),(2,.cells 63 1 (AA s.1.2.2.1)),(3,.cells 4 1 (s.1.2.2.2.map AU)),(4,.cells 29 3 [[.d (iD al),.arr 2 1 0 s.1.2.2.1.length,.arr 3 1 0 s.1.2.2.2.length]]),(5,.sld 3 (sI s.1.2.2.1))]) 6 (λs=>n.toNat-s.1.1) (⟨⟨0,p,[],[]⟩,by simp;omega⟩) a rfl (by (simp[cX,zC,a]<;>rfl)) ?_;rintro⟨⟨k,q,l,ac⟩,hk,G,H,t,B⟩;(try dsimp only[cA,cB]);have hk:(k:Int)<=n:=hk;have G:p<=q/\q<=p+7*k:=G;have H:l.length=k:=H;have t:ac.length=k:=t;(repeat first|refine tM rfl ?_|refine s2 rfl λ_ e=>?_|refine aU rfl ?_|apply Aa)
 ((refine aC rfl ?_ ?_<;>rintro⟨⟩);all_goals try (simp at e;done))
 ·have K:(k:Int)<n:=by (simp only[oZ] at *;omega)
  apply aK;refine aS (aB ?_);(repeat first|refine aU rfl ?_);(refine pW rfl ?_ rfl (by rfl);refine Bj rfl rfl rfl rfl (by simp) (by rfl) (by rfl) (by rfl) (by rfl) ?_);(repeat first|refine tX rfl ?_|refine aU rfl ?_|apply Aa);apply aB;refine aL (α:={s:Nat×Int×List Int // s.1<=(Ac al).length/\(q<=s.2.1/\s.2.1<=q+s.1)/\s.2.2.length=s.1}) [0,2,6,7,8,9] [1,2,3,4,5] rfl rfl (λs=>[(10,.o (.arr 6 1 0 s.1.2.2.length)),(11,eI .i64 s.1.1)]) (λs=>[(0,Bo b s.1.2.1),(6,.cells 3 1 (s.1.2.2.map AD))]) 7 (λs=>(Ac al).length-s.1.1) (⟨⟨0,q,[]⟩,by simp⟩) a rfl (by (simp[cX,zC,a,VB])) ?_;rintro⟨⟨j,u,xs⟩,I,F,g⟩;(try dsimp only[cA,cB]);have I:j<=(Ac al).length:=I;have F:q<=u/\u<=q+j:=F;have g:xs.length=j:=g;(repeat first|refine tM rfl ?_|refine s2 rfl λ_ e=>?_|refine aU rfl ?_|apply Aa)
  ((refine aC rfl ?_ ?_<;>rintro⟨⟩);all_goals try (simp at e;done))
  ·obtain⟨c,P,N,A⟩:=Bn (TB:=TB) b hb u n (by omega)
   apply aK;refine aS (aB ?_);(repeat first|refine tA rfl ?_|refine aU rfl ?_);(refine pW rfl ?_ rfl (by rfl);refine Ai [0] rfl rfl (A) ⟨rfl,by decide,by decide⟩ rfl (by simp[cX,zC,a]) ?_;rintro J w y ⟨rfl,rfl,rfl⟩ _);(repeat first|refine tA rfl ?_);(refine pW rfl ?_ rfl (by rfl);refine Au rfl rfl rfl (by first|(simp;done)|(simp;(omega))) rfl (by intro r f;simp at f;subst f;rfl) (by rfl) (am rfl) (by simp;omega) ?_);(repeat first|(refine sA rfl ?_ ?_;first|exact tI|omega)|refine aU rfl ?_|apply Aa);refine⟨⟨⟨j+1,u+1,xs++[c]⟩,by simp;(simp only[oZ] at *;omega)⟩,by dsimp only;((simp only[oZ] at *;omega)),[0,1,2,3,4,5,7],?_⟩;(simp[cX,zC,a,cN]<;>rfl)
  ·obtain rfl:j=(Ac al).length:=by (simp only[oZ] at *;omega)
   obtain⟨c,P,N,A⟩:=Bn (TB:=TB) b hb u 3 (by omega);apply aE;(repeat first|refine tX rfl ?_|refine aU rfl ?_);(refine pW rfl ?_ rfl (by rfl);refine Bj rfl rfl rfl rfl (by simp[eC]) (by rfl) (by rfl) (by rfl) (by rfl) ?_);(refine pW rfl ?_ rfl (by rfl);refine Au rfl rfl rfl (CR _) rfl (by intro r f;simp at f;subst f;rfl) (by rfl) (am rfl) (by simp;omega) ?_);(repeat first|refine tX rfl ?_|apply Aa);refine Ak.TQ 8 6 5 l xs rfl rfl rfl λv=>?_;refine rG (KC [(1,14),(3,1016),(6,1),(8,1)]) (by kernel_rfl) ?_;(repeat first|refine tA rfl ?_);(refine Ag rfl ?_;refine Di ?_ rfl ⟨rfl,rfl⟩;refine Ai [0] rfl rfl (A) ⟨rfl,by decide,by decide⟩ rfl (by simp[cX,zC,a,cN]) ?_;rintro J w y ⟨rfl,rfl,rfl⟩ _;refine⟨Fs 4 rfl rfl,?_⟩);(repeat first|refine tA rfl ?_|refine s2 rfl λ_ e=>?_);(refine pW rfl ?_ rfl (by rfl);refine Au rfl rfl rfl (by first|(simp;done)|(simp;(omega))) rfl (by intro r f;simp at f;subst f;rfl) (by rfl) (am rfl) (by simp;omega) ?_);(repeat first|(refine sA rfl ?_ ?_;first|exact tI|omega)|refine aU rfl ?_|apply Aa);subst e
   have z:∀x∈l++[(v,xs)],x.2.length=(Ac al).length:=λx h=>by
    rcases f6.1 h with h|h
    ·exact B x h
    ·simp at h;subst h;exact g
   refine⟨⟨⟨k+1,u+1,l++[(v,xs)],ac++[decide (c > 0)]⟩,by dsimp only;omega,by dsimp only;omega,by simp;omega,by simp;omega,z⟩,by dsimp only;(omega),[0,1,8,9,4,5],?_⟩;(simp[cX,zC,a,cN]<;>rfl)
 ·have M:(k:Int)=n:=by (simp only[oZ] at *;omega)
  apply aE;(repeat first|refine tA rfl ?_|refine aU rfl ?_|apply Aa);refine aR ⟨_,rfl,[0,2,3,5],Xf al 1 2 l.length ac.length,[(0,Bo b q),(1,.cells 63 1 (AA l)),(2,.cells 4 1 (ac.map AU)),(3,.sld 3 (sI l))],⟨by intro i hi;match i with|0=>rfl,by decide⟩,rfl,by (simp[cX,zC,a,cN]),q,l,ac,by omega,by omega,by omega,B,rfl,rfl,rfl⟩
theorem Nv(b:List UInt8)(hb:b.length<=2000)(p:Int)(P:0<=p/\p<900000000)(al n:Int)(S:1<=n/\n<1000):AR Tryz.prog TB 106 1 [(0,Bo b p)] 1 [.o (.ptr 0 2 0 0),eI .i64 al,eI .i64 n] (Ul b al p n):=by
 have J:(Ac al).length<=6:=AM al 6;refine AR.Bi (AR.Sq (m:=1) (am rfl) Tryz.func106 rfl (by kernel_rfl) (am rfl) ?_);intro Γ a;(repeat first|refine tA rfl ?_|refine aU rfl ?_|apply Aa);(refine pW rfl ?_ rfl (by rfl);refine Cn [0] rfl rfl 1 (Od b hb p P al n (by omega)) (by decide) ⟨rfl,by decide,by decide⟩ rfl (by simp[cX,zC,a]) ?_;rintro Q H I ⟨q,l,ac,R,T,L,F,rfl,rfl,rfl⟩ _);(repeat first|refine tA rfl ?_|refine aU rfl ?_|apply Aa);apply aB;refine aL (α:={s:Nat×List Bool // (s.1:Int)<=n/\s.2.length=l.length}) [2,6,7] [1] rfl rfl (λs=>[(8,eI .i64 s.1.1)]) (λs=>[(0,Bo b q),(2,.cells 63 1 (AA l)),(4,.sld 3 (sI l)),(3,.cells 4 1 (s.1.2.map AU)),(5,.cells 29 3 [[.d (iD al),.arr 2 1 0 l.length,.arr 3 1 0 s.1.2.length]])]) 6 (λs=>n.toNat-s.1.1) (⟨⟨0,ac⟩,by simp;omega⟩) a rfl (by (simp[cX,zC,a,cN])) ?_;rintro⟨⟨k,bc⟩,hk,r⟩;(try dsimp only[cA,cB]);have hk:(k:Int)<=n:=hk;have r:bc.length=l.length:=r;(repeat first|refine tM rfl ?_|refine s2 rfl λ_ e=>?_|refine aU rfl ?_|apply Aa)
 ((refine aC rfl ?_ ?_<;>rintro⟨⟩);all_goals try (simp at e;done))
 ·have z:(k:Int)<n:=by (simp only[oZ] at *;omega)
  obtain⟨c,B⟩:=get_some (l:=bc) (k:=0+(k:Int).toNat) (by omega);have A:=get_map (g:=AU) B;apply aK;refine aS (aB ?_);(repeat first|(refine sA rfl ?_ ?_;first|exact tI|omega)|refine t4 rfl ‹_› rfl ?_|refine s2 rfl λ_ e=>?_|refine aU rfl ?_|apply Aa);subst e;refine⟨⟨⟨k+1,bc.set k (decide ((k:Int)<n-1))⟩,by dsimp only;omega,by simp;omega⟩,by dsimp only;(omega),[0,1,2,3,4,5],?_⟩;(simp[cX,zC,a,cN,p6,Ae,eC]<;>rfl)
 obtain⟨K,N⟩:∃K:Nat,(K:Int)=n-1:=⟨(n-1).toNat,by omega⟩
 obtain⟨y,u⟩:=get_some (l:=l) (k:=K) (by omega);apply aE;(repeat first|refine tA rfl ?_|refine aU rfl ?_|apply Aa);apply aB;refine Ak.km 2 4 l K y u rfl rfl ?_;have t:y.2.length=(Ac al).length:=F y (co u)
 have M:((AA l).set K [.arr 6 1 0 y.2.length])[0+(n-1).toNat]?=some [.arr 6 1 0 y.2.length]:=by
  rw[<-N,oY,i7,pI (by rw[CR];omega)]
 refine aL (α:={s:Nat×List Int // s.1<=y.2.length/\s.2.length=y.2.length}) [2,6,7] [0,1,2,3,4,5] rfl rfl (λs=>[(9,eI .i64 s.1.1)]) (λs=>[(6,.cells 3 1 (s.1.2.map AD))]) 7 (λs=>y.2.length-s.1.1) (⟨⟨0,y.2⟩,by simp⟩) a rfl (by (simp[cX,zC,a,cN])) ?_;rintro⟨⟨j,ys⟩,G,f⟩;(try dsimp only[cA,cB]);have G:j<=y.2.length:=G;have f:ys.length=y.2.length:=f;(repeat first|(refine sA rfl ?_ ?_;first|exact tI|omega)|refine t4 rfl ‹_› rfl ?_|refine s2 rfl λ_ e=>?_|refine aU rfl ?_|apply Aa)
 ((refine aC rfl ?_ ?_<;>rintro⟨⟩);all_goals try (simp at e;done))
 ·have z:j<y.2.length:=by (simp only[oZ] at *;omega)
  obtain⟨c,B⟩:=get_some (l:=ys) (k:=0+(j:Int).toNat) (by omega);have A:=get_map (g:=AD) B;apply aK;refine aS (aB ?_);(repeat first|(refine sA rfl ?_ ?_;first|exact tI|omega)|refine t4 rfl ‹_› rfl ?_|refine aU rfl ?_|apply Aa);refine⟨⟨⟨j+1,ys.set j (n-1)⟩,by dsimp only;omega,by simp;omega⟩,by dsimp only;(omega),[0,1,2,3,4,5,6],?_⟩;(simp[cX,zC,a,cN,p6,Ae,eC]<;>rfl)
 apply aE;refine Ak.putAt 2 6 4 l K y u ys (by rw[f];rfl) rfl rfl λv=>?_;(repeat first|refine tA rfl ?_|refine aU rfl ?_|apply Aa)
 have w:∀x∈l.set K (v,ys),x.2.length=(Ac al).length:=λx h=>by
  rcases List.mem_or_eq_of_mem_set h with h|h
  ·exact F x h
  ·subst h;exact f.trans t
 refine aR ⟨_,rfl,[0,2,3,4],Xf al 1 2 (l.set K (v,ys)).length bc.length,[(0,Bo b q),(1,.cells 63 1 (AA (l.set K (v,ys)))),(2,.cells 4 1 (bc.map AU)),(3,.sld 3 (sI (l.set K (v,ys))))],⟨by intro i hi;match i with|0=>rfl,by decide⟩,by rw[pv];rfl,by (simp[cX,zC,a,cN]),q,l.set K (v,ys),bc,by omega,by rw[pv];omega,by rw[pv];omega,w,rfl,rfl,rfl⟩
structure MV (m:Nat) (a:AY):Prop where
 nx:a.nx.length<=m
 ac:a.ac.length<=m
 row:∀r∈a.nx,r.length<=m
def Lv(b:List UInt8)(p w:Int)(Q:AY->Prop)(x:E)(σ:Ab)(nx:Nat):Prop:=∃(p':Int) (a:AY),(p<=p'/\p'<=p+w)/\Q a/\x=Bk a/\σ=[(0,Bo b p')]/\nx=1
theorem TK{al:Int}{l:IY}{ac:List Bool}{n:Int}{m:Nat}(h:(l.length:Int)=n)(g:ac.length=l.length)(d:∀x∈l,x.2.length=(Ac al).length)(e:n<=m)(f:6<=m):MV m ⟨al,l.map (·.2),ac⟩:=by
 have c:(Ac al).length<=6:=AM al 6;refine⟨by simp;omega,by simp;omega,λr b=>?_⟩;obtain⟨x,a,rfl⟩:=d9.1 b;have:=d x a;omega
theorem Sd(b:List UInt8)(hb:b.length<=2000)(p:Int)(H:0<=p/\p<800000000)(al:Int):Spec Tryz.prog TB 45 [(0,Bo b p)] 1 [.o (.ptr 0 2 0 0),eI .i64 al] (Lv b p 50 (λa=>a.al=al/\MV 6 a)):=by
 obtain⟨c,J,I,A⟩:=Bn (TB:=TB) b hb p 2 (by omega);obtain⟨m,w,y⟩:=Ds (TB:=TB) b hb (p+1) (by omega) [3,2,4,1] (by decide) (by decide);obtain⟨k,u,x⟩:=Ds (TB:=TB) b hb (p+1) (by omega) [2,3,1,4,5] (by decide) (by decide)
 have v:1<=m/\m<=5:=by simp at w;omega
 have t:1<=k/\k<=5:=by simp at u;omega
 have F:=Nv (TB:=TB) b hb (p+1+1) (by omega) al m (by omega);have B:=Od (TB:=TB) b hb (p+1+1) (by omega) al k (by omega);refine eR Tryz.func45 rfl (by kernel_rfl) rfl ?_;intro Γ e;(repeat first|refine tA rfl ?_|refine aU rfl ?_|apply Aa);(refine pW rfl ?_ rfl (by rfl);refine Ai [0] rfl rfl (A) ⟨rfl,by decide,by decide⟩ rfl (by simp[cX,zC,e]) ?_;rintro j f g ⟨rfl,rfl,rfl⟩ _);(repeat first|refine s2 rfl λ_ G=>?_|apply Aa);(refine aC rfl ?_ ?_<;>rintro⟨⟩)
 ·(repeat first|refine tA rfl ?_|refine aU rfl ?_)
  (refine pW rfl ?_ rfl (by rfl);refine Ai [0] rfl rfl (y) ⟨rfl,by decide,by decide⟩ rfl (by simp[cX,zC,e]) ?_;rintro j f g ⟨rfl,rfl,rfl⟩ _);(refine pW rfl ?_ rfl (by rfl);refine Cn [0] rfl rfl 1 (F) (by decide) ⟨rfl,by decide,by decide⟩ rfl (by simp[cX,zC,e,cN]) ?_;rintro j f g ⟨q,l,ac,z,r,h,n,rfl,rfl,rfl⟩ _);(repeat first|refine tA rfl ?_|apply Aa);refine Ak.Ay [4] [] rfl rfl [] [(0,Bo b q),(1,.cells 29 3 [[.d (iD al),.arr 2 1 0 l.length,.arr 3 1 0 ac.length]]),(2,.cells 63 1 (AA l)),(3,.cells 4 1 (ac.map AU)),(4,.sld 3 (sI l))] [0,1,2,3,4] (rl e rfl) (by (simp[cX,zC,e,cN])) ?_;(try dsimp only[cA,cB]);refine Ak.AF [1,2,3,4] [(4,.o (.ip (AQ ⟨al,l.map (·.2),ac⟩)))] ⟨⟨_,rfl,.inr (.o (.box rfl (.cons .d (.cons (.Nx (s:=4) rfl rfl) (.cons (.full rfl (by simp[d5]) (by simp)) .nil)))))⟩,trivial⟩ ?_;refine aR ⟨_,rfl,[0],Bk ⟨al,l.map (·.2),ac⟩,[(0,Bo b q)],⟨by intro i hi;match i with|0=>rfl,by decide⟩,rfl,by (simp[cX,zC,e,cN]),q,_,by omega,⟨rfl,TK r h n (by omega) (by omega)⟩,rfl,rfl,rfl⟩
 ·apply aK
  (repeat first|refine tA rfl ?_|refine aU rfl ?_);(refine pW rfl ?_ rfl (by rfl);refine Ai [0] rfl rfl (x) ⟨rfl,by decide,by decide⟩ rfl (by simp[cX,zC,e]) ?_;rintro j f g ⟨rfl,rfl,rfl⟩ _);(refine pW rfl ?_ rfl (by rfl);refine Cn [0] rfl rfl 1 (B) (by decide) ⟨rfl,by decide,by decide⟩ rfl (by simp[cX,zC,e,cN]) ?_;rintro j f g ⟨q,l,ac,z,r,h,n,rfl,rfl,rfl⟩ _);(repeat first|refine tA rfl ?_|apply Aa);refine Ak.Ay [4] [] rfl rfl [] [(0,Bo b q),(1,.cells 29 3 [[.d (iD al),.arr 2 1 0 l.length,.arr 3 1 0 ac.length]]),(2,.cells 63 1 (AA l)),(3,.cells 4 1 (ac.map AU)),(4,.sld 3 (sI l))] [0,1,2,3,4] (rl e rfl) (by (simp[cX,zC,e,cN])) ?_;(try dsimp only[cA,cB]);refine Ak.AF [1,2,3,4] [(4,.o (.ip (AQ ⟨al,l.map (·.2),ac⟩)))] ⟨⟨_,rfl,.inr (.o (.box rfl (.cons .d (.cons (.Nx (s:=4) rfl rfl) (.cons (.full rfl (by simp[d5]) (by simp)) .nil)))))⟩,trivial⟩ ?_;refine aR ⟨_,rfl,[0],Bk ⟨al,l.map (·.2),ac⟩,[(0,Bo b q)],⟨by intro i hi;match i with|0=>rfl,by decide⟩,rfl,by (simp[cX,zC,e,cN]),q,_,by omega,⟨rfl,TK r h n (by omega) (by omega)⟩,rfl,rfl,rfl⟩
end Go.Am
