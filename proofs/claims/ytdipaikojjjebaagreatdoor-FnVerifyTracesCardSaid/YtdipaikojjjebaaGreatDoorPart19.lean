/-
  Arrays of arrays of the call's own: the inner ones lie sealed, one of them at a time is taken out and put back.
-/
import Derived.Test.YtdipaikojjjebaaGreatDoorPart17
import Derived.Test.YtdipaikojjjebaaGreatDoorPart15
set_option linter.all false
namespace Go.Am
open Go
abbrev HG:=List (Value×List Int)
def sI(l:HG):List (Value×List Value):=l.map λx=>(x.1,x.2.map (.int .i64))
def AB(l:HG):List (List C):=l.map λx=>[.d (.v x.1)]
abbrev Kv(xs:List Int):List (List C):=xs.map A8
theorem bM{V:View}{i k off n:Nat}{v:Value}(h:AF V (.arr i k off n) v):(V.nl i/\off=0/\n=0/\v=.slice none 0 0)\/(¬V.nl i/\off+n<=V.cap i/\v=.slice (some ⟨V.ρ i,off*k,none⟩) n (V.cap i-off)):=by
 cases h with
 | nil _ h=>exact .inl ⟨h,rfl,rfl,rfl⟩
 | arr _ b a=>exact .inr ⟨b,a,rfl⟩
theorem JB(l m:HG):sI (l++m)=sI l++sI m:=mE
theorem AV(l m:HG):AB (l++m)=AB l++AB m:=mE
theorem Cu(l:HG):(AB l).length=l.length:=f7 _
theorem SM(r:Nat->Nat)(l:HG):(AB l).map (C.Ch r)=AB l:=by
 unfold AB;rw[mu];rfl
theorem ZI(l:List Int):(Kv l).length=l.length:=f7 _
section
variable {P:Program}{TB:BA}{Γ:Ctx}{N:Nat}{V:View}{σ:Ab}{a i s:Nat}{T Ta:TypeId}{R1 R2:List (List C)}{xs:List Int}{l1 l2:HG}
theorem Uz{l:HG}{x:Value×List Value}(h:x∈sI l):∃y∈l,x=(y.1,y.2.map (.int .i64)):=by
 obtain⟨y,a,rfl⟩:=d8.1 h;exact⟨y,a,rfl⟩
theorem Inv.put(h:Inv TB Γ V σ)(ha:look σ a=some (.cells Ta 1 (R1++[.arr i 1 0 xs.length]::R2)))(hi:look σ i=some (.cells T 1 (Kv xs)))(hs:look σ s=some (.sld T (sI (l1++l2)))) :
 ∃v,Inv TB Γ V ((a,.cells Ta 1 (R1++[.d (.v v)]::R2))::(s,.sld T (sI (l1++(v,xs)::l2)))::kill i σ):=by
 have has:a≠s:=λe=>by rw[e,hs]at ha;cases ha
 have X:i≠s:=λe=>by rw[e,hs]at hi;cases hi
 have hai:a≠i:=λe=>by
  rw[e,hi]at ha
  injection ha with ha;injection ha with _ _ ha
  have B:(Kv xs)[R1.length]?=some [.arr i 1 0 xs.length]:=by rw[ha];simp
  rw[io,d6]at B;obtain⟨x,_,A⟩:=B;cases A
 rcases h.st.obj a _ ha with ⟨_,h0⟩|⟨hna,cur,Q,N,h4,h5,h6,h7⟩
 ·simp at h0
 obtain⟨v,hv,P⟩:=h7 R1.length [.arr i 1 0 xs.length] 0 (.arr i 1 0 xs.length) (by simp) rfl;have P:=bM P
 have hsl:OA v=true:=by rcases P with ⟨_,_,_,rfl⟩|⟨_,_,rfl⟩<;>rfl
 have I:∀b,Jl v b->¬V.nl i/\b=V.ρ i:=by
  rintro b ⟨o,n,c,rfl⟩
  rcases P with ⟨_,_,_,p⟩|⟨m,_,p⟩
  ·cases p
  ·injection p with p;injection p with p;injection p with p;exact⟨m,p⟩
 have K:JL V.w T v (xs.map (.int .i64)):=by
  rcases h.st.obj i _ hi with ⟨G,z⟩|⟨hni,cur',z,F,g4,g5,g6,g7⟩
  ·have:xs=[]:=by simpa using z
   subst this
   rcases P with ⟨_,_,_,rfl⟩|⟨m,_⟩
   ·exact .inl ⟨rfl,rfl⟩
   ·exact absurd G m
  ·rcases P with ⟨m,_⟩|⟨_,hle,rfl⟩
   ·exact absurd m hni
   ·refine .inr ⟨V.ρ i,V.cap i,cur',by simp,z,by simpa using F,by rw[ZI]at g4;simpa using g4,g5,λj x M=>?_⟩
    rw[io,d6]at M;obtain⟨n,m,rfl⟩:=M;obtain⟨w,p,hcw⟩:=g7 j [.d (.v (.int .i64 n))] 0 (.d (.v (.int .i64 n))) (by simp[Kv,m]) rfl;have:w=.int .i64 n:=AF.val hcw;subst this;exact⟨by simpa using p,rfl⟩
 refine⟨v,?_⟩;have look':∀id o,look ((a,.cells Ta 1 (R1++[.d (.v v)]::R2))::(s,.sld T (sI (l1++(v,xs)::l2)))::kill i σ) id=some o->
  (id=a/\o=.cells Ta 1 (R1++[.d (.v v)]::R2))\/(id=s/\o=.sld T (sI (l1++(v,xs)::l2)))\/(id≠a/\id≠s/\id≠i/\look σ id=some o):=λid o f=>by
  rw[Ax]at f;by_cases B:a=id
  ·rw[if_pos B]at f;injection f with f;exact .inl ⟨B.symm,f.symm⟩
  ·rw [if_neg B,Ax]at f
   by_cases Q:s=id
   ·rw[if_pos Q]at f;injection f with f;exact .inr (.inl ⟨Q.symm,f.symm⟩)
   ·rw[if_neg Q,EO]at f
    by_cases N:id=i
    ·rw[if_pos N]at f;cases f
    ·rw[if_neg N]at f;exact .inr (.inr ⟨Ne.symm B,Ne.symm Q,N,f⟩)
 have hsb:∀b,En V s (.sld T (sI (l1++(v,xs)::l2))) b->En V s (.sld T (sI (l1++l2))) b\/(¬V.nl i/\b=V.ρ i):=by
  rintro b ⟨x,A,hb⟩;obtain⟨y,l,rfl⟩:=Uz A
  rcases f6.1 l with l|l
  ·exact .inl ⟨_,d8.2 ⟨y,lP _ l,rfl⟩,hb⟩
  ·rcases lJ.1 l with rfl|l
   ·exact .inr (I b hb)
   ·exact .inl ⟨_,d8.2 ⟨y,lX _ l,rfl⟩,hb⟩
 have t:=h.st.obj s _ hs
 have H:∀x∈sI (l1++l2),∀b,Jl x.1 b->¬Jl v b:=λx A b hb u=>by
  obtain⟨m,rfl⟩:=I b u;exact h.st.inj s i _ _ hs hi (Ne.symm X) t.1 m _ ⟨x,A,hb⟩ rfl
 have src:∀id o,look ((a,.cells Ta 1 (R1++[.d (.v v)]::R2))::(s,.sld T (sI (l1++(v,xs)::l2)))::kill i σ) id=some o->¬V.nl id->∀b,En V id o b->∃g J,look σ g=some J/\¬V.nl g/\En V g J b/\(g=id\/g=i/\id=s):=λid o f m b hb=>by
  rcases look' id o f with ⟨rfl,rfl⟩|⟨rfl,rfl⟩|⟨_,_,_,f⟩
  ·exact⟨_,_,ha,m,hb,.inl rfl⟩
  ·rcases hsb b hb with hb|⟨B,rfl⟩
   ·exact⟨_,_,hs,m,hb,.inl rfl⟩
   ·exact⟨_,_,hi,B,rfl,.inr ⟨rfl,rfl⟩⟩
  ·exact⟨_,_,f,m,hb,.inl rfl⟩
 have noi:∀id o,look ((a,.cells Ta 1 (R1++[.d (.v v)]::R2))::(s,.sld T (sI (l1++(v,xs)::l2)))::kill i σ) id=some o->id≠i:=λid o f=>by
  rcases look' id o f with ⟨rfl,rfl⟩|⟨rfl,rfl⟩|⟨_,_,N,_⟩
  ·exact hai
  ·exact Ne.symm X
  ·exact N
 refine⟨h.os,h.tape,h.output,h.old,h.iLt,h.iNew,h.ext,⟨λid o f=>?_,λid o f=>?_,λid o f m b hb=>?_,λid id' o o' f S U m hn' b hb u=>?_⟩,λid o f m b hb=>?_,h.tabs,h.hid.same rfl (λ_ h=>h) (λ_ h=>.inl h) λb ⟨id,o,f,m,hb⟩=>let ⟨g,J,G,z,F,_⟩:=src id o f m b hb;⟨g,J,G,z,F⟩⟩
 ·rcases look' id o f with ⟨rfl,rfl⟩|⟨rfl,rfl⟩|⟨_,_,_,f⟩
  ·refine .inr ⟨hna,cur,Q,N,by simpa using h4,h5,λr L=>?_,λq r j c hq M=>?_⟩
   ·rcases f6.1 L with L|L
    ·exact h6 r (lP _ L)
    ·rcases lJ.1 L with rfl|L
     ·rfl
     ·exact h6 r (lX _ (lU _ L))
   ·by_cases hq0:q=R1.length
    ·subst hq0
     simp at hq;subst hq
     have hj0:j=0:=by have:=(am.1 M).1;simp at this;omega
     subst hj0;simp at M;subst M;exact⟨v,hv,.d (.v hsl)⟩
    ·refine h7 q r j c ?_ M
     rw[<-hq]
     rcases l5 q R1.length with Y|Y
     ·rw[d9 Y,d9 Y]
     ·rw[f9 Y,f9 Y]
      obtain⟨k,hk⟩:∃k,q-R1.length=k+1:=⟨q-R1.length-1,by omega⟩
      rw[hk];rfl
  ·refine⟨t.1,?_,λx A=>?_⟩
   ·have Z:=t.2.1
    rw[JB,m8]at Z;rw[JB,m8];refine⟨Z.1,mg.2 ⟨λy l b hb u=>H y (by rw[JB];exact lX _ l) b u hb,Z.2.1⟩,λx A y l=>?_⟩
    rcases lJ.1 l with rfl|l
    ·exact λb hb=>H x (by rw[JB];exact lP _ A) b hb
    ·exact Z.2.2 x A y l
   ·obtain⟨y,l,rfl⟩:=Uz A
    rcases f6.1 l with l|l
    ·exact t.2.2 _ (d8.2 ⟨y,lP _ l,rfl⟩)
    ·rcases lJ.1 l with rfl|l
     ·exact K
     ·exact t.2.2 _ (d8.2 ⟨y,lX _ l,rfl⟩)
  ·exact h.st.obj id o f
 ·rcases look' id o f with ⟨rfl,rfl⟩|⟨rfl,rfl⟩|⟨_,_,_,f⟩
  ·exact h.st.lt _ _ ha
  ·exact h.st.lt _ _ hs
  ·exact h.st.lt _ _ f
 ·obtain⟨g,J,G,z,F,_⟩:=src id o f m b hb
  exact h.st.free _ _ G z b F
 ·obtain⟨g,J,G,z,F,g4⟩:=src id o f m b hb
  obtain⟨R,o0',g1',g2',g3',g4'⟩:=src id' o' S hn' b u;refine h.st.inj g R _ _ G g1' ?_ z g2' b F g3';have n1:=noi id o f;have n2:=noi id' o' S;rintro rfl
  rcases g4 with rfl|⟨rfl,rfl⟩<;>rcases g4' with rfl|⟨e1,rfl⟩
  ·exact U rfl
  ·exact n1 e1
  ·exact n2 rfl
  ·exact U rfl
 ·obtain⟨g,J,G,z,F,_⟩:=src id o f m b hb
  exact h.live _ _ G z b F
theorem Aj.put{c:Code}{Q:Exit->Env->Ab->Nat->Prop}{f:Env}{nx:Nat}(a i s:Nat)(R1 R2:List (List C))(xs:List Int)(l1 l2:HG)(ha:look σ a=some (.cells Ta 1 (R1++[.arr i 1 0 xs.length]::R2)))(hi:look σ i=some (.cells T 1 (Kv xs)))(hs:look σ s=some (.sld T (sI (l1++l2))))
 (h:∀v,Aj P TB Γ N c Q f ((a,.cells Ta 1 (R1++[.d (.v v)]::R2))::(s,.sld T (sI (l1++(v,xs)::l2)))::kill i σ) nx):Aj P TB Γ N c Q f σ nx:=by
 intro V ac b;obtain⟨v,e⟩:=b.inv.put ha hi hs;exact h v V ac ⟨b.env,b.lt,b.size,e,b.nx,b.defers⟩
theorem Inv.take{v:Value}(h:Inv TB Γ V σ)(ha:look σ a=some (.cells Ta 1 (R1++[.d (.v v)]::R2)))(hs:look σ s=some (.sld T (sI (l1++(v,xs)::l2)))) :
 ∃V',V'.w=V.w/\V'.nx=V.nx+1/\Ext V V'/\Inv TB Γ V' ((a,.cells Ta 1 (R1++[.arr V.nx 1 0 xs.length]::R2))::(V.nx,.cells T 1 (Kv xs))::(s,.sld T (sI (l1++l2)))::σ):=by
 have has:a≠s:=λe=>by rw[e,hs]at ha;cases ha
 have p:=h.st.obj s _ hs;have Z:=h.st.lt _ _ hs;have l:=h.st.lt _ _ ha;have K:((v,xs.map (.int .i64)):Value×List Value)∈sI (l1++(v,xs)::l2):=d8.2 ⟨(v,xs),by simp,rfl⟩
 obtain⟨u,cap,nl,hb0,hcr,hob⟩:∃u cap nl,(¬nl->Jl v u)/\AF (Au V u cap nl V.w) (.arr V.nx 1 0 xs.length) v/\Ci (Au V u cap nl V.w) V.nx (.cells T 1 (Kv xs)):=by
  rcases p.2.2 _ K with ⟨m,G⟩|⟨b,cap,cur,m,G,z,h4,h5,h6⟩
  ·have m:v=.slice none 0 0:=m
   have hx0:xs=[]:=by simpa using G
   subst m;subst hx0;exact⟨0,0,True,λh=>absurd trivial h,.nil (by simp[Au]) (by simp[Au]),.inl ⟨by simp[Au],rfl⟩⟩
  ·have m:v=.slice (some ⟨b,0,none⟩) (xs.map (Value.int .i64)).length cap:=m
   rw[f7]at m h4;refine⟨b,cap,False,λ_=>⟨_,_,_,m⟩,?_,.inr ⟨by simp[Au],cur,by simpa[Au]using G,by simpa[Au]using z,by simpa[Au]using h4,by simpa[Au]using h5,λr A=>?_,λq r j c Y L=>?_⟩⟩
   ·rw[m]
    have:=@AF.arr (Au V b cap False V.w) V.nx 1 0 xs.length (by simp[Au]) (by simp[Au]) (by simpa[Au]using h4)
    simpa[Au]using this
   ·obtain⟨n,_,rfl⟩:=d8.1 A;rfl
   ·rw[io,d6]at Y
    obtain⟨n,t,rfl⟩:=Y
    have R:j=0:=by have:=(am.1 L).1;simp at this;omega
    subst R;simp at L;subst L;exact⟨.int .i64 n,by simpa using (h6 q (.int .i64 n) (by simp[t])).1,.d (.v rfl)⟩
 have e:Ext V (Au V u cap nl V.w):=Eu (i9 _) λ_ _=>rfl
 have hρ:(Au V u cap nl V.w).ρ V.nx=u:=by simp[Au]
 have hnl:(Au V u cap nl V.w).nl V.nx↔nl:=by simp[Au]
 refine⟨Au V u cap nl V.w,rfl,rfl,e,?_⟩;have look':∀id o,look ((a,.cells Ta 1 (R1++[.arr V.nx 1 0 xs.length]::R2))::(V.nx,.cells T 1 (Kv xs))::(s,.sld T (sI (l1++l2)))::σ) id=some o->
  (id=a/\o=.cells Ta 1 (R1++[.arr V.nx 1 0 xs.length]::R2))\/(id=V.nx/\o=.cells T 1 (Kv xs))\/(id=s/\o=.sld T (sI (l1++l2)))\/(id≠a/\id≠s/\look σ id=some o):=λid o f=>by
  rw[Ax]at f;by_cases m:a=id
  ·rw[if_pos m]at f;injection f with f;exact .inl ⟨m.symm,f.symm⟩
  ·rw [if_neg m,Ax]at f
   by_cases G:V.nx=id
   ·rw[if_pos G]at f;injection f with f;exact .inr (.inl ⟨G.symm,f.symm⟩)
   ·rw[if_neg G,Ax]at f
    by_cases z:s=id
    ·rw[if_pos z]at f;injection f with f;exact .inr (.inr (.inl ⟨z.symm,f.symm⟩))
    ·rw[if_neg z]at f;exact .inr (.inr (.inr ⟨Ne.symm m,Ne.symm z,f⟩))
 have J:∀x∈sI (l1++l2),x∈sI (l1++(v,xs)::l2):=λx i=>by
  obtain⟨y,P,rfl⟩:=Uz i;refine d8.2 ⟨y,?_,rfl⟩
  rcases f6.1 P with P|P
  ·exact lP _ P
  ·exact lX _ (lU _ P)
 have hp:=p.2.1;rw[JB,m8]at hp;have hp2:=mg.1 hp.2.1
 have M:∀x∈sI (l1++l2),∀b,Jl x.1 b->¬Jl v b:=λx i b hb F=>by
  rw[JB]at i
  rcases f6.1 i with i|i
  ·exact hp.2.2 x i _ (nH ..) b hb F
  ·exact hp2.1 x i b F hb
 have src:∀id o,look ((a,.cells Ta 1 (R1++[.arr V.nx 1 0 xs.length]::R2))::(V.nx,.cells T 1 (Kv xs))::(s,.sld T (sI (l1++l2)))::σ) id=some o->¬(Au V u cap nl V.w).nl id->∀b,En (Au V u cap nl V.w) id o b->
  ∃g N,look σ g=some N/\¬V.nl g/\En V g N b/\(g=id\/g=s/\id=V.nx/\Jl v b)/\(id=s->∃x∈sI (l1++l2),Jl x.1 b):=λid o f t b hb=>by
  rcases look' id o f with ⟨rfl,rfl⟩|⟨rfl,rfl⟩|⟨rfl,rfl⟩|⟨_,z,f⟩
  ·exact⟨_,_,ha,λh=>t ((e.nl _ l).2 h),by have:b=_:=hb;rw[e.ρ _ l]at this;exact this,.inl rfl,λe=>absurd e has⟩
  ·have hb:b=_:=hb
   rw[hρ]at hb;subst hb;have hv:=hb0 λh=>t (hnl.2 h);exact⟨_,_,hs,p.1,⟨_,K,hv⟩,.inr ⟨rfl,rfl,hv⟩,λe=>by omega⟩
  ·obtain⟨x,i,hb⟩:=hb
   exact⟨_,_,hs,p.1,⟨x,J x i,hb⟩,.inl rfl,λ_=>⟨x,i,hb⟩⟩
  ·have hlt:=h.st.lt _ _ f
   exact⟨_,_,f,λh=>t ((e.nl _ hlt).2 h),(AA e hlt).1 hb,.inl rfl,λe=>absurd e z⟩
 refine⟨h.os,h.tape,h.output,h.old,h.iLt,h.iNew,h.ext.trans e,⟨λid o f=>?_,λid o f=>?_,λid o f t b hb=>?_,λid id' o o' f ho' hne t hn' b hb F=>?_⟩,λid o f t b hb=>?_,h.tabs,h.hid.same rfl (λ_ h=>h) (λ_ h=>.inl h) λb ⟨id,o,f,t,hb⟩=>let ⟨g,N,X,U,S,_⟩:=src id o f t b hb;⟨g,N,X,U,S⟩⟩
 ·rcases look' id o f with ⟨rfl,rfl⟩|⟨rfl,rfl⟩|⟨rfl,rfl⟩|⟨_,_,f⟩
  ·rcases h.st.obj _ _ ha with ⟨_,h0⟩|⟨hna,cur,G,z,h4,h5,h6,h7⟩
   ·simp at h0
   refine .inr ⟨λh=>hna ((e.nl _ l).1 h),cur,by rw[e.ρ _ l];exact G,by rw[e.cap _ l];exact z,by rw[e.cap _ l];simpa using h4,by rw[e.cap _ l];exact h5,λr A=>?_,λq r j c Y L=>?_⟩
   ·rcases f6.1 A with A|A
    ·exact h6 r (lP _ A)
    ·rcases lJ.1 A with rfl|A
     ·rfl
     ·exact h6 r (lX _ (lU _ A))
   ·by_cases hq0:q=R1.length
    ·subst hq0
     simp at Y;subst Y
     have R:j=0:=by have:=(am.1 L).1;simp at this;omega
     subst R;simp at L;subst L;obtain⟨w,hw,hc⟩:=h7 R1.length [.d (.v v)] 0 (.d (.v v)) (by simp) rfl;have hw2:w=v:=AF.val hc;subst hw2;exact⟨w,hw,hcr⟩
    ·obtain⟨w,hw,hc⟩:=h7 q r j c (by
      rw[<-Y]
      rcases l5 q R1.length with h8|h8
      ·rw[d9 h8,d9 h8]
      ·rw[f9 h8,f9 h8]
       obtain⟨k,hk⟩:∃k,q-R1.length=k+1:=⟨q-R1.length-1,by omega⟩
       rw[hk];rfl) L
     exact⟨w,hw,hc.ext e⟩
  ·exact hob
  ·refine⟨λh=>p.1 ((e.nl _ Z).1 h),?_,λx i=>p.2.2 x (J x i)⟩
   rw[JB,m8];exact⟨hp.1,hp2.2,λx i y P=>hp.2.2 x i y (lU _ P)⟩
  ·exact(h.st.obj id o f).AR e (h.st.lt id o f) λ_ _ _=>rfl
 ·rcases look' id o f with ⟨rfl,rfl⟩|⟨rfl,rfl⟩|⟨rfl,rfl⟩|⟨_,_,f⟩
  ·exact m9 l
  ·exact ny _
  ·exact m9 Z
  ·exact m9 (h.st.lt _ _ f)
 ·obtain⟨g,N,X,U,S,_⟩:=src id o f t b hb
  exact h.st.free _ _ X U b S
 ·obtain⟨g,N,X,U,S,g4,g5⟩:=src id o f t b hb
  obtain⟨I,o0',g1',g2',g3',H,g5'⟩:=src id' o' ho' hn' b F;by_cases B:g=I
  ·rcases g4 with g4|⟨k1,k2,k3⟩<;>rcases H with H|⟨k1',k2',k3'⟩
   ·exact hne (by rw[<-g4,<-H,B])
   ·obtain⟨x,i,Q⟩:=g5 (by rw[<-g4,B,k1'])
    exact M x i b Q k3'
   ·obtain⟨x,i,Q⟩:=g5' (by rw[<-H,<-B,k1])
    exact M x i b Q k3
   ·exact hne (by rw[k2,k2'])
  ·exact h.st.inj g I _ _ X g1' B U g2' b S g3'
 ·obtain⟨g,N,X,U,S,_⟩:=src id o f t b hb
  exact h.live _ _ X U b S
theorem Aj.take{c:Code}{Q:Exit->Env->Ab->Nat->Prop}{f:Env}{nx:Nat}(a s:Nat)(R1 R2:List (List C))(v:Value)(xs:List Int)(l1 l2:HG)(ha:look σ a=some (.cells Ta 1 (R1++[.d (.v v)]::R2)))(hs:look σ s=some (.sld T (sI (l1++(v,xs)::l2))))
 (h:Aj P TB Γ N c Q f ((a,.cells Ta 1 (R1++[.arr nx 1 0 xs.length]::R2))::(nx,.cells T 1 (Kv xs))::(s,.sld T (sI (l1++l2)))::σ) (nx+1)):Aj P TB Γ N c Q f σ nx:=by
 intro V ac b;obtain⟨V',i,g,e,hi⟩:=b.inv.take ha hs;have:=h V' ac ⟨b.env.ext e,b.lt,b.size,by have:=b.nx;subst this;exact hi,by rw[g,b.nx],b.defers⟩;rw[i]at this;exact this
theorem Aj.aV{c:Code}{Q:Exit->Env->Ab->Nat->Prop}{f:Env}{nx:Nat}(T:TypeId)(h:Aj P TB Γ N c Q f ((nx,.sld T (sI []))::σ) (nx+1)):Aj P TB Γ N c Q f σ nx:=by
 intro V ac k;have hi:=k.inv;have e:Ext V (Au V 0 0 False V.w):=Eu (i9 _) λ_ _=>rfl;have p:=k.nx;subst p
 have look':∀id o,look ((V.nx,.sld T (sI []))::σ) id=some o->(id=V.nx/\o=.sld T (sI []))\/(id≠V.nx/\look σ id=some o):=λid o a=>by
  rw[Ax]at a;by_cases d:V.nx=id
  ·rw[if_pos d]at a;injection a with a;exact .inl ⟨d.symm,a.symm⟩
  ·rw[if_neg d]at a;exact .inr ⟨Ne.symm d,a⟩
 have src:∀id o,look ((V.nx,.sld T (sI []))::σ) id=some o->∀b,En (Au V 0 0 False V.w) id o b->look σ id=some o/\En V id o b/\((Au V 0 0 False V.w).nl id↔V.nl id):=λid o a b hb=>by
  rcases look' id o a with ⟨rfl,rfl⟩|⟨_,a⟩
  ·obtain⟨x,m,_⟩:=hb;cases m
  ·have l:=hi.st.lt _ _ a
   exact⟨a,(AA e l).1 hb,e.nl _ l⟩
 refine h (Au V 0 0 False V.w) ac ⟨k.env.ext e,k.lt,k.size,?_,rfl,k.defers⟩;refine⟨hi.os,hi.tape,hi.output,hi.old,hi.iLt,hi.iNew,hi.ext.trans e,⟨λid o a=>?_,λid o a=>?_,λid o a g b hb=>?_,λid id' o o' a n q g r b hb s=>?_⟩,λid o a g b hb=>?_,hi.tabs,hi.hid.same rfl (λ_ h=>h) (λ_ h=>.inl h) λb ⟨id,o,a,g,hb⟩=>let ⟨d,j,i⟩:=src id o a b hb;⟨id,o,d,λh=>g (i.2 h),j⟩⟩
 ·rcases look' id o a with ⟨rfl,rfl⟩|⟨_,a⟩
  ·exact⟨by simp[Au],List.Pairwise.nil,λx m=>by cases m⟩
  ·exact(hi.st.obj id o a).AR e (hi.st.lt id o a) λ_ _ _=>rfl
 ·rcases look' id o a with ⟨rfl,rfl⟩|⟨_,a⟩
  ·exact ny _
  ·exact m9 (hi.st.lt _ _ a)
 ·obtain⟨d,j,i⟩:=src id o a b hb
  exact hi.st.free _ _ d (λh=>g (i.2 h)) b j
 ·obtain⟨d,j,i⟩:=src id o a b hb
  obtain⟨v,u,t⟩:=src id' o' n b s;exact hi.st.inj _ _ _ _ d v q (λh=>g (i.2 h)) (λh=>r (t.2 h)) b j u
 ·obtain⟨d,j,i⟩:=src id o a b hb
  exact hi.live _ _ d (λh=>g (i.2 h)) b j
def C.MK:C->Bool
 | .d (.v _)|.d (.l [])|.arr ..|.ptr ..|.mp _|.fn _ []=>true
 | _=>false
def O.MK:O->Prop
 | .cells _ _ rows=>∀r∈rows,∀c∈r,C.MK c=true
 | _=>True
def E.MK:E->Prop
 | .o c=>C.MK c=true
 | .a cs=>∀c∈cs,C.MK c=true
 | .t xs=>∀x∈xs,∀c∈x.2,C.MK c=true
 | .e=>True
def jK(σ:Ab):Prop:=∀x∈σ,O.MK x.2
theorem jK.get{σ:Ab}(h:jK σ){id:Nat}{o:O}(a:look σ id=some o):O.MK o:=by
 induction σ with
 | nil=>cases a
 | cons x r b=>
  obtain⟨k,y⟩:=x;rw[Ax]at a;by_cases hk:k=id
  ·rw[if_pos hk]at a;injection a with a;subst a;exact h _ (nH ..)
  ·rw[if_neg hk]at a;exact b (λz c=>h z (lU _ c)) a
structure RN (V V':View):Prop where
 ρ:V'.ρ=V.ρ
 cap:V'.cap=V.cap
 nl:V'.nl=V.nl
 nx:V'.nx=V.nx
 w:V'.w=V.w
theorem AF.MK{V V':View}(s:RN V V'){c:C}{v:Value}(h:AF V c v)(i:c.MK=true):AF V' c v:=by
 cases h with
 | @d x v h=>
  cases h with
  | v h=>exact .d (.v h)
  | nil=>exact .d .nil
  | e h=>exact .d (.e h)
  | @l rows b o k cap vs hb a g m r q=>
   cases rows with
   | nil=>exact .d (.e g)
   | cons=>cases i
  | p=>cases i
 | nil a g=>exact .nil (by rw[s.nx];exact a) (by rw[s.nl];exact g)
 | @arr id k off len a g m=>rw[<-s.ρ,<-s.cap];exact .arr (by rw[s.nx];exact a) (by rw[s.nl];exact g) (by rw[s.cap];exact m)
 | ptr a g=>rw[<-s.ρ];exact .ptr (by rw[s.nx];exact a) (by rw[s.nl];exact g)
 | @fn f cap vs a g=>
  cases cap with
  | nil=>exact .fn a λj c v n=>by simp at n
  | cons=>cases i
 | mp a=>rw[<-s.ρ];exact .mp (by rw[s.nx];exact a)
 | mv=>cases i
theorem Bd.MK{V V':View}(s:RN V V'){e:E}{v:Value}(h:Bd V e v)(i:e.MK):Bd V' e v:=by
 cases e with
 | o c=>exact AF.MK s h i
 | a cs=>obtain⟨vs,n,m,l⟩:=h;exact⟨vs,n,m,λj c v d f=>(l j c v d f).MK s (i c (co d))⟩
 | t xs=>
  obtain⟨vs,n,m,l⟩:=h;refine⟨vs,n,m,λj x v d f=>?_⟩;have q:=l j x v d f;have p:=i x (co d);obtain⟨b,cs⟩:=x;cases b
  ·obtain⟨c,g,k⟩:=q
   have g:cs=[c]:=g;subst g;exact⟨c,rfl,k.MK s (p c (by simp))⟩
  ·obtain⟨ws,g,k,r⟩:=q
   exact⟨ws,g,k,λj c v d f=>(r j c v d f).MK s (p c (co d))⟩
 | e=>exact h
theorem Ci.MK{V V':View}(s:RN V V'){id:Nat}{o:O}(h:Ci V id o)(f:o.MK):Ci V' id o:=by
 cases o with
 | cells T k rows=>
  rcases h with ⟨b,a⟩|⟨d,cur,a,u,t,q,p,n⟩
  ·exact .inl ⟨by rw[s.nl];exact b,a⟩
  ·refine .inr ⟨by rw[s.nl];exact d,cur,by rw[s.w,s.ρ];exact a,by rw[s.cap];exact u,by rw[s.cap];exact t,by rw[s.cap];exact q,p,λi r j c hi e=>?_⟩
   obtain⟨v,m,g⟩:=n i r j c hi e;exact⟨v,m,g.MK s (f r (co hi) c (co e))⟩
 | mp es=>obtain⟨d,ents,clock,b,a⟩:=h;exact⟨by rw[s.nl];exact d,ents,clock,by rw[s.w,s.ρ];exact b,a⟩
 | sld T l=>exact⟨by rw[s.nl];exact h.1,by rw[s.w];exact h.2⟩
section
variable {o:Oper}{f:Env}{nx:Nat}
theorem YH{V:View}{S:RO}(h:Inv TB Γ V σ)(c:MD TB V σ S):Inv TB (EN (Fh V σ) (Fh V σ) [] S) (Fh V σ) []:=
 ⟨rfl,rfl,rfl,λ_ _ _=>rfl,λb hb=>by
  rcases hb with hb|⟨id,o,e,d,hb⟩
  ·exact h.iLt b hb
  ·exact(h.st.obj id o e).blt d hb,λ_ h=>.inl h,Ext.refl _,Ee,λid o f=>(by cases f),λx a=>⟨.inl (h.tabs x a).1,(h.tabs x a).2⟩,⟨S,⟨c.r,λb hb=>.inl (c.ji b hb),λb hb hi=>hi.elim (c.bi b hb) λ⟨id,o,e,d,a⟩=>c.ap b ⟨id,o,e,d,a⟩ hb,λb ⟨_,_,h,_⟩=>by cases h⟩,λb hb=>.inl hb,λb hb=>.inr (.inr hb)⟩⟩
theorem Xr{V V':View}{σ':Ab}{S:RO}(d:Inv TB Γ V σ)(M:MD TB V σ S)(G:∀b,S.J b->Γ.J b\/Γ.V.w.heap.size<=b\/Γ.F b)(m:∀b,S.B b->Γ.V.w.heap.size<=b\/Γ.F b)(l:Ext (Fh V σ) V')(hi:Inv TB (EN (Fh V σ) (Fh V σ) [] S) V' σ')(A:jK σ') :
 ∃V3,RN V' V3/\Ext V V3/\Inv TB Γ V3 (σ'++σ):=by
 have s:RN V' { V' with I:=λb=>V.I b\/(V'.I b/\(V.w.heap.size<=b\/S.B b)) } := ⟨rfl,rfl,rfl,rfl,rfl⟩
 have e:Ext V { V' with I:=λb=>V.I b\/(V'.I b/\(V.w.heap.size<=b\/S.B b)) } := ⟨λ_ h=>.inl h,λb hb=>l.heap b (.inl hb),l.size,l.ρ,l.cap,l.nl,l.nx⟩
 have bs:∀ {id:Nat} {o:O} {b:Nat},En { V' with I:=λb=>V.I b\/(V'.I b/\(V.w.heap.size<=b\/S.B b)) } id o b↔En V' id o b:=λ{id o b} => by cases o<;>exact Iff.rfl
 have k:∀id o,look σ' id=some o->¬V'.nl id->∀b,En V' id o b->V.w.heap.size<=b\/S.B b:=λid o a f b hb=>by
  rcases hi.live id o a f b hb with h|h|h
  ·exact .inl h
  ·obtain⟨_,_,h,_⟩:=h;cases h
  ·exact .inr h
 have q:∀id o,look σ id=some o->¬V.nl id->∀b,En V id o b->(V.w.heap.size<=b\/S.B b)->False:=λid o a f b hb h=>by
  rcases h with h|h
  ·have:=(d.st.obj _ _ a).blt f hb;omega
  ·exact M.ap b ⟨id,o,a,f,hb⟩ h
 refine⟨_,s,e,⟨hi.os.trans d.os,hi.tape.trans d.tape,hi.output.trans d.output,λb hb L=>(hi.old b (lG hb d.ext.size) (λh=>h.elim (λ⟨_,_,h,_⟩=>by cases h) λh=>(m b h).elim (λh=>by omega) L)).trans (d.old b hb L),λb hb=>?_,λb hb=>?_,d.ext.trans e,⟨λid o a=>?_,λid o a=>?_,λid o a f b hb hI=>?_,λid id' o o' j g y f n b hb p=>?_⟩,λid o a f b hb=>?_,λx K=>⟨.inl (d.tabs x K).1,(hi.tabs x K).2⟩,?_⟩⟩
 ·rcases hb with hb|hb
  ·exact hi.iLt b (l.i b (.inl hb))
  ·exact hi.iLt b hb.1
 ·rcases hb with hb|hb
  ·exact d.iNew b hb
  ·rcases hb.2 with h|h
   ·exact .inr (.inl (lm d.ext.size h))
   ·exact .inr (m b h)
 ·rcases Cm a with a|a
  ·exact(hi.st.obj id o a).MK s (A.get a)
  ·exact(d.st.obj id o a).AR e (d.st.lt id o a) λf b hb=>l.heap b (.inr ⟨id,o,a,f,hb⟩)
 ·rcases Cm a with a|a
  ·exact hi.st.lt id o a
  ·exact lG (d.st.lt id o a) l.nx
 ·rcases Cm a with a|a
  ·have u:=hi.st.free id o a f b (bs.1 hb)
   rcases hI with hI|hI
   ·exact u (l.i b (.inl hI))
   ·exact u hI.1
  ·have c:=d.st.lt id o a
   have hb:=(AA e c).1 hb;have f:¬V.nl id:=λh=>f ((e.nl id c).2 h)
   rcases hI with hI|hI
   ·exact d.st.free id o a f b hb hI
   ·exact q id o a f b hb hI.2
 ·rcases Cm j with j|j<;>rcases Cm g with g|g
  ·exact hi.st.inj _ _ _ _ j g y f n b (bs.1 hb) (bs.1 p)
  ·have u:=k id o j f b (bs.1 hb)
   have c:=d.st.lt _ _ g;exact q _ _ g (λh=>n ((e.nl _ c).2 h)) b ((AA e c).1 p) u
  ·have u:=k id' o' g n b (bs.1 p)
   have c:=d.st.lt _ _ j;exact q _ _ j (λh=>f ((e.nl _ c).2 h)) b ((AA e c).1 hb) u
  ·have c:=d.st.lt _ _ j
   have t:=d.st.lt _ _ g;exact d.st.inj _ _ _ _ j g y (λh=>f ((e.nl _ c).2 h)) (λh=>n ((e.nl _ t).2 h)) b ((AA e c).1 hb) ((AA e t).1 p)
 ·rcases Cm a with a|a
  ·rcases k id o a f b (bs.1 hb) with h|h
   ·exact .inl (lm d.ext.size h)
   ·exact m b h
  ·have c:=d.st.lt _ _ a
   exact d.live id o a (λh=>f ((e.nl _ c).2 h)) b ((AA e c).1 hb)
 ·obtain⟨S1,v,H,P⟩:=hi.hid
  have N:∀b,S1.B b->V.w.heap.size<=b\/S.B b:=λb hb=>by
   rcases P b hb with h|h|h
   ·exact .inl h
   ·obtain⟨_,_,h,_⟩:=h;cases h
   ·exact .inr h
  refine⟨S1,⟨v.r,λb hb=>?_,λb hb hI=>v.bi b hb (hI.elim (λh=>l.i b (.inl h)) λh=>h.1),λb ⟨id,o,a,f,hb⟩ z=>?_⟩,λb hb=>?_,λb hb=>?_⟩
  ·rcases H b hb with h|h|h|h
   ·exact .inl (M.ji b h)
   ·exact .inr ⟨v.ji b hb,.inl h⟩
   ·obtain⟨_,_,h,_⟩:=h;cases h
   ·exact .inr ⟨v.ji b hb,.inr h⟩
  ·rcases Cm a with a|a
   ·exact v.ap b ⟨id,o,a,f,bs.1 hb⟩ z
   ·have c:=d.st.lt _ _ a
    exact q _ _ a (λh=>f ((e.nl _ c).2 h)) b ((AA e c).1 hb) (N b z)
  ·rcases H b hb with h|h|h|h
   ·exact G b h
   ·exact .inr (.inl (lm d.ext.size h))
   ·obtain⟨_,_,h,_⟩:=h;cases h
   ·exact .inr (m b h)
  ·rcases N b hb with h|h
   ·exact .inl (lm d.ext.size h)
   ·exact m b h
theorem cF{V:View}{a:Act}{L:List (Nat×E)}(h:Inv TB Γ V σ)(c:TD σ f L)(i:HR V o f a):HR (Fh V σ) o (look L) a:=λt e ht b=>by
 obtain⟨y,g,d⟩:=c.get t e b;exact d.rel h (i t y ht g)
theorem A1.Pd{x:E}(L:List (Nat×E))(n:TD σ f L)(h:∀Γ',A1 P TB Γ' o (look L) [] nx x)(c:x.MK):A1 P TB Γ o f σ nx x:=by
 intro V a q b p;obtain⟨S,k,i,j⟩:=b.hid;refine Oper.wp_mono ?_ (h (EN (Fh V σ) (Fh V σ) [] S) (Fh V σ) a (cF b n q) (YH b k) p);rintro a' w' ⟨V',v,rfl,rfl,m,hi,l,d⟩;obtain⟨V3,s,e,g⟩:=Xr b k i j m hi (λx d=>by cases d);exact⟨V3,v,s.w,rfl,e,g,by rw[s.nx];exact l,d.MK s c⟩
end
def FR(σ:Ab):List Nat->Ab
 | []=>[]
 | i::r=>match look σ i with
  | some o=>(i,o)::FR σ r
  | none=>FR σ r
theorem D0{σ:Ab}:∀ {ids:List Nat} {id:Nat} {o:O},look (FR σ ids) id=some o->id∈ids/\look σ id=some o
 | [],_,_,h=>by cases h
 | i :: r,id,o,h=>by
  unfold FR at h;split at h
  ·rename_i o' a
   rw[Ax]at h;by_cases hi:i=id
   ·rw[if_pos hi]at h;injection h with h;subst h;subst hi;exact⟨nH ..,a⟩
   ·rw[if_neg hi]at h
    have:=D0 h;exact⟨lU _ this.1,this.2⟩
  ·have:=D0 h
   exact⟨lU _ this.1,this.2⟩
def Yu(σi:Ab)(f:Env):List (Nat×E)->Prop
 | []=>True
 | (t,e')::L=>(∃e,f t=some e/\(e=e'\/EZ σi e e'))/\Yu σi f L
theorem Yu.get{σi:Ab}{f:Env}:∀ {L:List (Nat×E)},Yu σi f L->∀t e',look L t=some e'->∃e,f t=some e/\(e=e'\/EZ σi e e')
 | [],_,t,e,h=>by cases h
 | (k,x)::L,hs,t,e,h=>by
  rw[Ax]at h;by_cases hk:k=t
  ·rw[if_pos hk]at h;injection h with h;subst h;subst hk;exact hs.1
  ·rw[if_neg hk]at h;exact Yu.get hs.2 t e h
theorem Aj.AD{c:Code}{Q:Exit->Env->Ab->Nat->Prop}{f:Env}{nx:Nat}(ids:List Nat)(L:List (Nat×E))(w:Yu (FR σ ids) f L)(h:Aj P TB Γ N c Q (look L) (BW ids σ) nx):Aj P TB Γ N c Q f σ nx:=by
 intro V a l;have hi:=l.inv;have i:∀id o,look (FR σ ids) id=some o->look σ id=some o:=λid o h=>(D0 h).2;have u:Inv TB Γ V (FR σ ids):=hi.sub i;have e:Ext V (Fh V (FR σ ids)):=JP;refine h (Fh V (FR σ ids)) a ⟨λt x p=>?_,λt x p=>?_,l.size,?_,l.nx,l.defers⟩
 ·obtain⟨y,q,g⟩:=w.get t x p
  rcases g with rfl|g
  ·exact(l.env t _ q).ext e
  ·exact g.rel u (l.env t y q)
 ·obtain⟨y,q,_⟩:=w.get t x p
  exact l.lt t y q
 ·refine⟨hi.os,hi.tape,hi.output,hi.old,?_,?_,hi.ext.trans e,⟨?_,?_,?_,?_⟩,?_,λx p=>⟨.inl (hi.tabs x p).1,(hi.tabs x p).2⟩,hi.hid.same rfl (λ_ h=>.inl h) (λb hb=>hb.elim .inl λ⟨id,o,d,j,v⟩=>.inr ⟨id,o,i _ _ d,j,v⟩) λb ⟨id,o,d,j,hb⟩=>have g:=(A0 ids σ id o d).2;⟨id,o,g,j,(AA e (hi.st.lt id o g)).1 hb⟩⟩
  ·rintro b (hb|⟨id,o,d,j,hb⟩)
   ·exact hi.iLt b hb
   ·exact(hi.st.obj id o (i _ _ d)).blt j hb
  ·rintro b (hb|⟨id,o,d,j,hb⟩)
   ·exact hi.iNew b hb
   ·exact .inr (hi.live id o (i _ _ d) j b hb)
  ·intro id o d
   have:=(A0 ids σ id o d).2;exact(hi.st.obj id o this).AR e (hi.st.lt id o this) λ_ _ _=>rfl
  ·intro id o d;exact hi.st.lt id o (A0 ids σ id o d).2
  ·intro id o d j b k hb
   obtain⟨q,g⟩:=A0 ids σ id o d;have k:=(AA e (hi.st.lt id o g)).1 k
   rcases hb with hb|⟨id',o',n,m,v⟩
   ·exact hi.st.free id o g j b k hb
   ·have z:=D0 n
    exact hi.st.inj id id' o o' g z.2 (λe=>q (e▸z.1)) j m b k v
  ·intro id id' o o' d n s j m b hb k
   have g:=(A0 ids σ id o d).2;have r:=(A0 ids σ id' o' n).2;exact hi.st.inj id id' o o' g r s j m b ((AA e (hi.st.lt id o g)).1 hb) ((AA e (hi.st.lt id' o' r)).1 k)
  ·intro id o d j b hb
   have g:=(A0 ids σ id o d).2;exact hi.live id o g j b ((AA e (hi.st.lt id o g)).1 hb)
theorem FZ.ML{a s:Nat}{T Ta:TypeId}{l:HG}(ha:look σ a=some (.cells Ta 1 (AB l)))(hs:look σ s=some (.sld T (sI l))):FZ σ (.arr a 1 0 l.length) (Er (l.map (·.2))):=by
 refine .rows ha (by simp) (Cu l) λi r' hi=>?_;simp only[io,d6]at hi;obtain⟨x,⟨y,b,rfl⟩,rfl⟩:=hi;refine⟨[.d (.v y.1)],by simp[AB,b],.cons ?_ .nil⟩;have c:FZ σ (.d (.v y.1)) (.l ((y.2.map (Value.int .i64)).map λx=>[D.v x])):=.sld hs (d8.2 ⟨y,co b,rfl⟩);rw[mu]at c;exact c
theorem Aj.Rm{c:Code}{Q:Exit->Env->Ab->Nat->Prop}{f:Env}{nx:Nat}(a i s:Nat)(l:HG)(xs:List Int)(ha:look σ a=some (.cells Ta 1 (AB l++[[.arr i 1 0 xs.length]])))(hi:look σ i=some (.cells T 1 (Kv xs)))(hs:look σ s=some (.sld T (sI l)))
 (h:∀v,Aj P TB Γ N c Q f ((a,.cells Ta 1 (AB (l++[(v,xs)])))::(s,.sld T (sI (l++[(v,xs)])))::kill i σ) nx):Aj P TB Γ N c Q f σ nx:=
 Aj.put a i s (AB l) [] xs l [] ha hi (by rw[mq];exact hs) λv=>by
  have:=h v;rw[AV]at this;exact this
theorem N8{l:HG}{k:Nat}{y:Value×List Int}(h:l[k]?=some y):l=l.take k++y::l.drop (k+1)/\(l.take k).length=k:=by
 obtain⟨hk,rfl⟩:=am.1 h;refine⟨?_,by rw[nR];omega⟩;rw[<-nY hk,mx]
theorem Rx{α:Type}{l1 l2:List α}{x y:α}{k:Nat}(h:l1.length=k):(l1++x::l2).set k y=l1++y::l2:=by
 subst h;simp
theorem Aj.fS{c:Code}{Q:Exit->Env->Ab->Nat->Prop}{f:Env}{nx:Nat}(a s:Nat)(l:HG)(k:Nat)(y:Value×List Int)(hk:l[k]?=some y)(ha:look σ a=some (.cells Ta 1 (AB l)))(hs:look σ s=some (.sld T (sI l)))
 (h:Aj P TB Γ N c Q f ((a,.cells Ta 1 ((AB l).set k [.arr nx 1 0 y.2.length]))::(nx,.cells T 1 (Kv y.2))::(s,.sld T (sI (l.eraseIdx k)))::σ) (nx+1)):Aj P TB Γ N c Q f σ nx:=by
 obtain⟨b,g⟩:=N8 hk;obtain⟨v,xs⟩:=y
 have e:AB l=AB (l.take k)++[.d (.v v)]::AB (l.drop (k+1)):=by
  have:=congrArg AB b;rw[AV]at this;exact this
 refine Aj.take a s (AB (l.take k)) (AB (l.drop (k+1))) v xs (l.take k) (l.drop (k+1)) (by rw[<-e];exact ha) (by rw[<-b];exact hs) ?_
 have j:(AB l).set k [.arr nx 1 0 xs.length]=AB (l.take k)++[.arr nx 1 0 xs.length]::AB (l.drop (k+1)):=by
  rw[e,Rx (by rw[Cu,g])]
 have i:l.eraseIdx k=l.take k++l.drop (k+1):=oL ..;rw[j,i]at h;exact h
theorem Aj.putAt{c:Code}{Q:Exit->Env->Ab->Nat->Prop}{f:Env}{nx:Nat}(a i s:Nat)(l:HG)(k:Nat)(y:Value×List Int)(hk:l[k]?=some y)(xs:List Int)(ha:look σ a=some (.cells Ta 1 ((AB l).set k [.arr i 1 0 xs.length])))(hi:look σ i=some (.cells T 1 (Kv xs)))(hs:look σ s=some (.sld T (sI (l.eraseIdx k))))
 (h:∀v,Aj P TB Γ N c Q f ((a,.cells Ta 1 (AB (l.set k (v,xs))))::(s,.sld T (sI (l.set k (v,xs))))::kill i σ) nx):Aj P TB Γ N c Q f σ nx:=by
 obtain⟨e,b⟩:=N8 hk
 have j:AB l=AB (l.take k)++[.d (.v y.1)]::AB (l.drop (k+1)):=by
  have:=congrArg AB e;rw[AV]at this;exact this
 rw[j,Rx (by rw[Cu,b])]at ha;rw[show l.eraseIdx k=l.take k++l.drop (k+1) from oL ..]at hs;refine Aj.put a i s (AB (l.take k)) (AB (l.drop (k+1))) xs (l.take k) (l.drop (k+1)) ha hi hs λv=>?_
 have g:l.set k (v,xs)=l.take k++(v,xs)::l.drop (k+1):=by
  have this:l.set k (v,xs)=(l.take k++y::l.drop (k+1)).set k (v,xs):=congrArg (λm=>List.set m k (v,xs)) e;rw[this,Rx b]
 have:=h v;rw[g,AV]at this;exact this
theorem AH.A3{g:FuncId}{m nx:Nat}{args:List E}{post:E->Ab->Nat->Prop}
 (h:AH P TB g m σ nx args (λx d c=>∃(l:List Nat) (x':E) (a:Ab),((∀i,i<m->l[i]?=some i)/\l.Nodup)/\x=x'.A3 (nm l c)/\AM (nm l c) d a/\post x' a l.length)):AH P TB g m σ nx args post:=
 ⟨h.1, λV vs S hg ha=>(h.2 V vs S hg ha).mono λe w' ⟨V',v,x,σ',u,s,r,q,l,x',a,j,p,o,n⟩=>by
  have k:BS TB (EN V (Jw V m) σ S) 1 V' (look [(0,x)]) σ' V'.nx { tmps:=#[v],defers:=[] } := by
   refine⟨λt y b=>?_,λt y b=>?_,rfl,r,rfl,rfl⟩
   ·rw[Ax]at b
    by_cases ht:0=t
    ·rw[if_pos ht]at b;injection b with b;subst b;subst ht;exact q
    ·rw[if_neg ht]at b;cases b
   ·rw[Ax]at b
    by_cases ht:0=t
    ·subst ht;exact px
    ·rw[if_neg ht]at b;cases b
  obtain⟨V'',w,f⟩:=k.A3 l [(0,x')] a j.1 j.2 ⟨by rw[<-p];rfl,trivial⟩ o;refine⟨V'',v,x',a,u,w.trans s,f.inv,f.env 0 x' rfl,?_⟩
  rw[f.nx];exact n⟩
theorem DO{m:Nat}{σ σ':Ab}(i:Nat)(a:m=2 ^ i)(h:look σ' i=look σ i):Kept m σ σ':=λid hb=>by
 subst a;rw[nj]at hb;have:i=id:=of_decide_eq_true hb;subst this;exact h
theorem Je{m:Nat}{σ σ':Ab}(i j:Nat)(a:m=2 ^ i ||| 2 ^ j)(h:look σ' i=look σ i)(b:look σ' j=look σ j):Kept m σ σ':=λid hb=>by
 subst a;rw[nQ,lT,nj,nj,decide_eq_true_eq,decide_eq_true_eq]at hb
 rcases hb with hb|hb
 ·subst hb;exact h
 ·subst hb;exact b
theorem Kz{l1 l2:HG}{c:C}{k:Nat}(h:l1.length=k):(AB l1++[c]::AB l2)[k]?=some [c]:=by
 subst h;rw[f9 (by rw[Cu];exact i9 _),Cu];simp
theorem eR [j:C0 P] {g:FuncId} {fn:Func} {c:Code} {nx:Nat} {args:List E} {post:E->Ab->Nat->Prop} (f:P.funcs[g]?=some fn) (hb:fn.body=some c) (a:(fn.name == "runtime.NumGoroutine")=false)
 (ha:Nat.ble args.length fn.ntmps=true) (h:∀Γ:Ctx,Γ.V.nx=nx->Aj P TB Γ fn.ntmps c (Yy j.T fn.results (λx e d=>∃(l:List Nat) (x':E) (b:Ab),((∀i,i<nx->l[i]?=some i)/\l.Nodup)/\x=x'.A3 (nm l d)/\AM (nm l d) e b/\post x' b l.length)) (look (Cb 0 args)) σ nx):Spec P TB g σ nx args post:=
 AH.GB (AH.A3 (AH.Pg (i9 _) f hb a (ce ha) h))
end
theorem cN:(∀(r:Nat->Nat) (l:HG),(AB l).map (C.Ch r)=AB l)/\(∀(α:Type) (b:Bool) (x y:α),(bif b then x else y)=if b=true then x else y)/\∀a b:Nat,(Nat.beq a b=true)=(a=b):=
 ⟨SM,λ_ b _ _=>by cases b<;>rfl,λ_ _=>Nat.beq_eq⟩
end Go.Am
namespace Go.Am
open Go Go.Proofs
set_option maxHeartbeats 1000000
set_option maxRecDepth 4000
attribute [local irreducible] A1 Cr Lex Bs Aj Spec
variable {TB:BA}
abbrev XT(n:UInt8):List D:=[.v (.int .u8 n.toNat)]
abbrev WO(l:List UInt8):D:=.l (l.map XT)
abbrev A6(b:List UInt8)(p:Int):O:=.cells 98 2 [[.d (WO b),.d (iD p)]]
theorem Za{a b:Nat}(ha:a<2 ^ 62)(hb:b<2 ^ 62):T7 .i64 a b=((a ^^^ b:Nat):Int):=by
 unfold T7
 have d:(BitVec.ofInt IntKind.i64.bits (a:Int)).toNat=a:=by
  rw[BitVec.toNat_ofInt];have:IntKind.i64.bits=64:=rfl;rw[this];omega
 have c:(BitVec.ofInt IntKind.i64.bits (b:Int)).toNat=b:=by
  rw[BitVec.toNat_ofInt];have:IntKind.i64.bits=64:=rfl;rw[this];omega
 rw[BitVec.toNat_xor,d,c];have e:a ^^^ b<2 ^ 62:=Nat.xor_lt_two_pow ha hb;exact IntWalk.i64_in _ (by omega)
theorem cx{x y:Int}(d:0<=x/\x<4611686018427387904)(c:0<=y/\y<4611686018427387904):0<=T7 .i64 x y/\T7 .i64 x y<4611686018427387904:=by
 obtain⟨a,rfl⟩:∃a:Nat,x=a:=⟨x.toNat,by omega⟩
 obtain⟨b,rfl⟩:∃b:Nat,y=b:=⟨y.toNat,by omega⟩
 rw[Za (by omega) (by omega)];have e:a ^^^ b<2 ^ 62:=Nat.xor_lt_two_pow (by omega) (by omega);omega
theorem NT(b:List UInt8)(hb:b.length<=9223372036854775807):∃b':List UInt8,b'.length<=2000/\AH Tryz.prog TB 28 0 [] 0 [.o (.d (WO b))] (λx σ nx=>x=.o (.ptr 0 2 0 0)/\σ=[(0,A6 b' 0)]/\nx=1):=by
 by_cases h:b.length<=2000
 ·refine⟨b,h,?_⟩
  refine AH.Pg (m:=0) (ce rfl) Tryz.func28 rfl (by kernel_rfl) (ce rfl) ?_;intro Γ c;(repeat first|refine sN rfl ?_|refine tX rfl ?_|refine s2 rfl λ_ a=>?_|refine aU rfl ?_|apply Aa)
  ((refine aC rfl ?_ ?_<;>rintro⟨⟩);all_goals try (simp at a;done))
  ·exfalso;(simp only[oZ] at *;omega)
  apply aK;(repeat first|refine tX rfl ?_|(refine Ag rfl ?_;refine gA rfl ?_;first|refine gS (λ_ _=>AP rfl rfl (by rfl) (by rfl)) ?_)|refine aU rfl ?_);(refine pW rfl ?_ rfl (by rfl);refine CY rfl rfl ?_);(repeat first|refine tX rfl ?_|apply Aa);refine aR ⟨_,rfl,rfl,rfl,rfl⟩
 ·refine⟨b.take 2000,by simp;omega,?_⟩
  have e:(b.map XT).take (2000:Int).toNat=(b.take 2000).map XT:=by simp[List.map_take]
  refine AH.Pg (m:=0) (ce rfl) Tryz.func28 rfl (by kernel_rfl) (ce rfl) ?_;intro Γ c;(repeat first|refine sN rfl ?_|refine tX rfl ?_|refine s2 rfl λ_ a=>?_|refine aU rfl ?_|apply Aa)
  ((refine aC rfl ?_ ?_<;>rintro⟨⟩);all_goals try (simp at a;done))
  ·(repeat first|refine tX rfl ?_|(refine Ag rfl ?_;refine gA rfl ?_;first|refine gS (λ_ _=>VV rfl rfl (by simp) (by omega) (by simp;omega)) ?_)|refine aU rfl ?_|apply Aa)
   rw[e];(repeat first|(refine Ag rfl ?_;refine gA rfl ?_;first|refine gS (λ_ _=>AP rfl rfl (by rfl) (by rfl)) ?_));(refine pW rfl ?_ rfl (by rfl);refine CY rfl rfl ?_);(repeat first|refine tX rfl ?_|apply Aa);refine aR ⟨_,rfl,rfl,rfl,rfl⟩
  ·exfalso;(simp only[oZ] at *;omega)
theorem A4(b:List UInt8)(hb:b.length<=2000)(p n:Int)(L:0<=p/\p<1000000000):∃k:Int,0<=k/\(k=0\/k<n)/\Spec Tryz.prog TB 46 [(0,A6 b p)] 1 [.o (.ptr 0 2 0 0),eI .i64 n] (λx σ nx=>x=eI .i64 k/\σ=[(0,A6 b (p+1))]/\nx=1):=by
 by_cases I:n<1\/b.length=0
 ·refine⟨0,by omega,.inl rfl,?_⟩
  refine eR Tryz.func46 rfl (by kernel_rfl) rfl ?_;intro Γ a;(repeat' first|refine sN rfl ?_|(refine sA rfl ?_ ?_;first|exact tI|omega|simp only[oZ] at *;omega)|refine s2 rfl λ_ e=>?_|refine s3 rfl ?_ ?_<;>rintro rfl|refine aU rfl ?_|apply Aa|refine rE (by kernel_rfl) ?_|(refine aC rfl ?_ ?_<;>rintro⟨⟩)|apply aK|apply aE|apply aB|refine aR ⟨_,rfl,?_⟩)
  all_goals first
   | (exfalso;(simp only[oZ] at *;omega);done)
   | refine⟨[0],eI .i64 0,[(0,A6 b (p+1))],⟨by first|(simp;done)|decide|(intro i hi;match i with|0=>rfl),by decide⟩,rfl,by (simp[cX,zC,a]),rfl,rfl,rfl⟩
 have K:0<b.length:=by omega
 have q:0<n:=by omega
 by_cases J:p<b.length
 ·obtain⟨c,m⟩:=get_some (l:=b) (k:=(p+1-1).toNat) (by omega)
  have j:=get_map (g:=XT) m;have h:=c.toNat_lt;refine⟨(c.toNat:Int)%n,ms _ (by omega),.inr (mh _ q),?_⟩;refine eR Tryz.func46 rfl (by kernel_rfl) rfl ?_;intro Γ a;(repeat' first|refine sN rfl ?_|(refine sA rfl ?_ ?_;first|exact tI|omega)|(refine s4 rfl ‹_› rfl ?_ ?_;omega)|refine s2 rfl λ_ e=>?_|refine s3 rfl ?_ ?_<;>rintro rfl|refine aU rfl ?_|apply Aa|refine rE (by kernel_rfl) ?_|(refine aC rfl ?_ ?_<;>rintro⟨⟩)|apply aK|apply aE|apply aB|refine aR ⟨_,rfl,?_⟩)
  all_goals first
   | (exfalso;(simp only[oZ] at *;omega);done)
   | refine⟨[0],_,[(0,A6 b (p+1))],⟨by first|(simp;done)|decide|(intro i hi;match i with|0=>rfl),by decide⟩,rfl,by (simp[cX,zC,a]),rfl,rfl,rfl⟩
 ·have f:(0:Int)<b.length:=by omega
  have H:=ms (p+1-1) (show (b.length:Int)≠0 by omega);have G:=mh (p+1-1) f;have F:=ms ((p+1-1)*7+3) (show (b.length:Int)≠0 by omega);have B:=mh ((p+1-1)*7+3) f;obtain⟨c,m⟩:=get_some (l:=b) (k:=((p+1-1)%(b.length:Int)).toNat) (by omega);have j:=get_map (g:=XT) m;have h:=c.toNat_lt;obtain⟨d,u⟩:=get_some (l:=b) (k:=(((p+1-1)*7+3)%(b.length:Int)).toNat) (by omega);have t:=get_map (g:=XT) u;have s:=d.toNat_lt;have A:0<=(p+1-1) / (b.length:Int):=mS (by omega) (by omega);have z:(p+1-1) / (b.length:Int)<=p+1-1:=nA _ (by omega)
  obtain⟨x,r⟩:∃x,x=(c.toNat:Int)*131+(d.toNat:Int)*1117+(p+1-1)*29+(p+1-1) / (b.length:Int)*53:=⟨_,rfl⟩
  have w:0<=x/\x<1000000000000:=by omega
  have v:=cx (x:=x) (y:=x / 64) (by omega) (by omega);refine⟨T7 .i64 x (x / 64)%n,ms _ (by omega),.inr (mh _ q),?_⟩;refine eR Tryz.func46 rfl (by kernel_rfl) rfl ?_;intro Γ a;(repeat' first|refine sN rfl ?_|(refine sA rfl ?_ ?_;first|exact tI|omega)|(refine s4 rfl ‹_› rfl ?_ ?_;omega)|(refine s2 rfl λ_ e=>?_;try (simp only[Bool.not_true,Bool.not_false]at e;subst e))|(refine Ag rfl ?_;refine gA rfl ?_;first|refine gS (λ_ _=>jc rfl rfl rfl) ?_)|refine s3 rfl ?_ ?_<;>rintro rfl|refine aU rfl ?_|apply Aa|refine rE (by kernel_rfl) ?_|(refine aC rfl ?_ ?_<;>rintro⟨⟩)|apply aK|refine aR ⟨_,rfl,?_⟩|(rw[<-r]))
  all_goals first
   | (exfalso;(simp only[oZ] at *;omega);done)
   | refine⟨[0],_,[(0,A6 b (p+1))],⟨by first|(simp;done)|decide|(intro i hi;match i with|0=>rfl),by decide⟩,rfl,by (simp[cX,zC,a]),rfl,rfl,rfl⟩
theorem CL(b:List UInt8)(hb:b.length<=2000)(p:Int)(m:0<=p/\p<1000000000)(l:List Int)(s:0<l.length)(j:l.length<1000000):∃k∈l,Spec Tryz.prog TB 88 [(0,A6 b p)] 1 [.o (.ptr 0 2 0 0),AX l] (λx σ nx=>x=eI .i64 k/\σ=[(0,A6 b (p+1))]/\nx=1):=by
 obtain⟨k,r,q,h⟩:=A4 (TB:=TB) b hb p l.length m;obtain⟨x,c⟩:=get_some (l:=l) (k:=k.toNat) (by omega);have f:=get_map (g:=DJ) c;refine⟨x,co c,?_⟩;refine eR Tryz.func88 rfl (by kernel_rfl) rfl ?_;intro Γ a;(repeat first|refine sN rfl ?_|refine tA rfl ?_|refine aU rfl ?_|apply Aa);(refine pW rfl ?_ rfl (by rfl);refine Af [0] rfl rfl (h) ⟨rfl,by decide,by decide⟩ rfl (by simp[cX,zC,a]) ?_;rintro n d e ⟨rfl,rfl,rfl⟩ _);(repeat first|refine tA rfl ?_|(refine s4 rfl ‹_› rfl ?_ ?_;omega)|apply Aa);refine aR ⟨_,rfl,?_⟩;refine⟨[0],_,[(0,A6 b (p+1))],⟨by first|(simp;done)|decide|(intro i hi;match i with|0=>rfl),by decide⟩,rfl,by (simp[cX,zC,a]),rfl,rfl,rfl⟩
theorem iA(b:List UInt8)(hb:b.length<=2000)(p:Int)(m:0<=p/\p<1000000000)(l:List W)(s:0<l.length)(j:l.length<1000000):∃k∈l,Spec Tryz.prog TB 109 [(0,A6 b p)] 1 [.o (.ptr 0 2 0 0),Fi l] (λx σ nx=>x=eT k/\σ=[(0,A6 b (p+1))]/\nx=1):=by
 obtain⟨k,r,q,h⟩:=A4 (TB:=TB) b hb p l.length m;obtain⟨x,c⟩:=get_some (l:=l) (k:=k.toNat) (by omega);have f:=get_map (g:=FX) c;refine⟨x,co c,?_⟩;refine eR Tryz.func109 rfl (by kernel_rfl) rfl ?_;intro Γ a;(repeat first|refine sN rfl ?_|refine tA rfl ?_|refine aU rfl ?_|apply Aa);(refine pW rfl ?_ rfl (by rfl);refine Af [0] rfl rfl (h) ⟨rfl,by decide,by decide⟩ rfl (by simp[cX,zC,a]) ?_;rintro n d e ⟨rfl,rfl,rfl⟩ _);(repeat first|refine tA rfl ?_|(refine s4 rfl ‹_› rfl ?_ ?_;omega)|apply Aa);refine aR ⟨_,rfl,?_⟩;refine⟨[0],_,[(0,A6 b (p+1))],⟨by first|(simp;done)|decide|(intro i hi;match i with|0=>rfl),by decide⟩,rfl,by (simp[cX,zC,a]),rfl,rfl,rfl⟩
abbrev TW(al:Int)(i j:Nat)(n m:Nat):E:=.a [.d (iD al),.arr i 1 0 n,.arr j 1 0 m]
def RM(b:List UInt8)(al p n:Int)(x:E)(σ:Ab)(nx:Nat):Prop:=∃(p':Int) (l:HG) (ac:List Bool),(p<=p'/\p'<=p+7*n)/\(l.length:Int)=n/\ac.length=l.length/\(∀x∈l,x.2.length=(Ac al).length)/\
 x=TW al 1 2 l.length ac.length/\σ=[(0,A6 b p'),(1,.cells 63 1 (AB l)),(2,.cells 4 1 (ac.map AN)),(3,.sld 3 (sI l))]/\nx=4
theorem Ml(b:List UInt8)(hb:b.length<=2000)(p:Int)(R:0<=p/\p<900000000)(al n:Int)(Q:0<=n/\n<1000):AH Tryz.prog TB 107 1 [(0,A6 b p)] 1 [.o (.ptr 0 2 0 0),eI .i64 al,eI .i64 n] (RM b al p n):=by
 have L:(Ac al).length<=6:=AQ al 6;refine AH.A3 (AH.Pg (m:=1) (ce rfl) Tryz.func107 rfl (by kernel_rfl) (ce rfl) ?_);intro Γ a;(repeat first|refine tA rfl ?_|refine aU rfl ?_|apply Aa);(refine pW rfl ?_ rfl (by rfl);refine Ly 1 1 63 2 1 4 rfl rfl (by decide) rfl rfl (by rfl) (by rfl) ?_);(repeat first|refine sN rfl ?_|refine tA rfl ?_|refine sP rfl (Dw al) rfl ?_|refine aU rfl ?_|apply Aa);apply aB;refine Aj.aV 3 ?_;refine aL (α:={s:Nat×Int×HG×List Bool // (s.1:Int)<=n/\(p<=s.2.1/\s.2.1<=p+7*s.1)/\s.2.2.1.length=s.1/\s.2.2.2.length=s.1/\∀x∈s.2.2.1,x.2.length=(Ac al).length}) [0,2,6,7,8] [1] rfl rfl (λs=>[(9,eI .i64 s.1.1)]) (λs=>[(0,A6 b s.1.2.1),(2,.cells 63 1 (AB s.1.2.2.1)),(3,.cells 4 1 (s.1.2.2.2.map AN)),(4,.cells 29 3 [[.d (iD al),.arr 2 1 0 s.1.2.2.1.length,.arr 3 1 0 s.1.2.2.2.length]]),(5,.sld 3 (sI s.1.2.2.1))]) 6 (λs=>n.toNat-s.1.1) (⟨⟨0,p,[],[]⟩,by simp;omega⟩) a rfl (by (simp[cX,zC,a]<;>rfl)) ?_;rintro⟨⟨k,q,l,ac⟩,hk,G,H,t,B⟩;(try dsimp only[cA,cB]);have hk:(k:Int)<=n:=hk;have G:p<=q/\q<=p+7*k:=G;have H:l.length=k:=H;have t:ac.length=k:=t;(repeat first|refine tM rfl ?_|refine s2 rfl λ_ e=>?_|refine aU rfl ?_|apply Aa)
 ((refine aC rfl ?_ ?_<;>rintro⟨⟩);all_goals try (simp at e;done))
 ·have K:(k:Int)<n:=by (simp only[oZ] at *;omega)
  apply aK;refine aS (aB ?_);(repeat first|refine aU rfl ?_);(refine pW rfl ?_ rfl (by rfl);refine Br rfl rfl rfl rfl (by simp) (by rfl) (by rfl) (by rfl) (by rfl) ?_);(repeat first|refine tX rfl ?_|refine aU rfl ?_|apply Aa);apply aB;refine aL (α:={s:Nat×Int×List Int // s.1<=(Ac al).length/\(q<=s.2.1/\s.2.1<=q+s.1)/\s.2.2.length=s.1}) [0,2,6,7,8,9] [1,2,3,4,5] rfl rfl (λs=>[(10,.o (.arr 6 1 0 s.1.2.2.length)),(11,eI .i64 s.1.1)]) (λs=>[(0,A6 b s.1.2.1),(6,.cells 3 1 (s.1.2.2.map A8))]) 7 (λs=>(Ac al).length-s.1.1) (⟨⟨0,q,[]⟩,by simp⟩) a rfl (by (simp[cX,zC,a,SM])) ?_;rintro⟨⟨j,u,xs⟩,I,F,g⟩;(try dsimp only[cA,cB]);have I:j<=(Ac al).length:=I;have F:q<=u/\u<=q+j:=F;have g:xs.length=j:=g;(repeat first|refine tM rfl ?_|refine s2 rfl λ_ e=>?_|refine aU rfl ?_|apply Aa)
  ((refine aC rfl ?_ ?_<;>rintro⟨⟩);all_goals try (simp at e;done))
  ·obtain⟨c,P,N,A⟩:=A4 (TB:=TB) b hb u n (by omega)
   apply aK;refine aS (aB ?_);(repeat first|refine tA rfl ?_|refine aU rfl ?_);(refine pW rfl ?_ rfl (by rfl);refine Af [0] rfl rfl (A) ⟨rfl,by decide,by decide⟩ rfl (by simp[cX,zC,a]) ?_;rintro J w y ⟨rfl,rfl,rfl⟩ _);(repeat first|refine tA rfl ?_);(refine pW rfl ?_ rfl (by rfl);refine Al rfl rfl rfl (by first|(simp;done)|(simp;(omega))) rfl (by intro r f;simp at f;subst f;rfl) (by rfl) (ce rfl) (by simp;omega) ?_);(repeat first|(refine sA rfl ?_ ?_;first|exact tI|omega)|refine aU rfl ?_|apply Aa);refine⟨⟨⟨j+1,u+1,xs++[c]⟩,by simp;(simp only[oZ] at *;omega)⟩,by dsimp only;((simp only[oZ] at *;omega)),[0,1,2,3,4,5,7],?_⟩;(simp[cX,zC,a,cN]<;>rfl)
  ·obtain rfl:j=(Ac al).length:=by (simp only[oZ] at *;omega)
   obtain⟨c,P,N,A⟩:=A4 (TB:=TB) b hb u 3 (by omega);apply aE;(repeat first|refine tX rfl ?_|refine aU rfl ?_);(refine pW rfl ?_ rfl (by rfl);refine Br rfl rfl rfl rfl (by simp[eC]) (by rfl) (by rfl) (by rfl) (by rfl) ?_);(refine pW rfl ?_ rfl (by rfl);refine Al rfl rfl rfl (Cu _) rfl (by intro r f;simp at f;subst f;rfl) (by rfl) (ce rfl) (by simp;omega) ?_);(repeat first|refine tX rfl ?_|apply Aa);refine Aj.Rm 8 6 5 l xs rfl rfl rfl λv=>?_;refine rG (JG [(1,14),(3,1016),(6,1),(8,1)]) (by kernel_rfl) ?_;(repeat first|refine tA rfl ?_);(refine Ag rfl ?_;refine Cw ?_ rfl ⟨rfl,rfl⟩;refine Af [0] rfl rfl (A) ⟨rfl,by decide,by decide⟩ rfl (by simp[cX,zC,a,cN]) ?_;rintro J w y ⟨rfl,rfl,rfl⟩ _;refine⟨DO 4 rfl rfl,?_⟩);(repeat first|refine tA rfl ?_|refine s2 rfl λ_ e=>?_);(refine pW rfl ?_ rfl (by rfl);refine Al rfl rfl rfl (by first|(simp;done)|(simp;(omega))) rfl (by intro r f;simp at f;subst f;rfl) (by rfl) (ce rfl) (by simp;omega) ?_);(repeat first|(refine sA rfl ?_ ?_;first|exact tI|omega)|refine aU rfl ?_|apply Aa);subst e
   have z:∀x∈l++[(v,xs)],x.2.length=(Ac al).length:=λx h=>by
    rcases f6.1 h with h|h
    ·exact B x h
    ·simp at h;subst h;exact g
   refine⟨⟨⟨k+1,u+1,l++[(v,xs)],ac++[decide (c > 0)]⟩,by dsimp only;omega,by dsimp only;omega,by simp;omega,by simp;omega,z⟩,by dsimp only;(omega),[0,1,8,9,4,5],?_⟩;(simp[cX,zC,a,cN]<;>rfl)
 ·have M:(k:Int)=n:=by (simp only[oZ] at *;omega)
  apply aE;(repeat first|refine tA rfl ?_|refine aU rfl ?_|apply Aa);refine aR ⟨_,rfl,[0,2,3,5],TW al 1 2 l.length ac.length,[(0,A6 b q),(1,.cells 63 1 (AB l)),(2,.cells 4 1 (ac.map AN)),(3,.sld 3 (sI l))],⟨by intro i hi;match i with|0=>rfl,by decide⟩,rfl,by (simp[cX,zC,a,cN]),q,l,ac,by omega,by omega,by omega,B,rfl,rfl,rfl⟩
theorem Lt(b:List UInt8)(hb:b.length<=2000)(p:Int)(P:0<=p/\p<900000000)(al n:Int)(S:1<=n/\n<1000):AH Tryz.prog TB 106 1 [(0,A6 b p)] 1 [.o (.ptr 0 2 0 0),eI .i64 al,eI .i64 n] (RM b al p n):=by
 have J:(Ac al).length<=6:=AQ al 6;refine AH.A3 (AH.Pg (m:=1) (ce rfl) Tryz.func106 rfl (by kernel_rfl) (ce rfl) ?_);intro Γ a;(repeat first|refine tA rfl ?_|refine aU rfl ?_|apply Aa);(refine pW rfl ?_ rfl (by rfl);refine BR [0] rfl rfl 1 (Ml b hb p P al n (by omega)) (by decide) ⟨rfl,by decide,by decide⟩ rfl (by simp[cX,zC,a]) ?_;rintro Q H I ⟨q,l,ac,R,T,L,F,rfl,rfl,rfl⟩ _);(repeat first|refine tA rfl ?_|refine aU rfl ?_|apply Aa);apply aB;refine aL (α:={s:Nat×List Bool // (s.1:Int)<=n/\s.2.length=l.length}) [2,6,7] [1] rfl rfl (λs=>[(8,eI .i64 s.1.1)]) (λs=>[(0,A6 b q),(2,.cells 63 1 (AB l)),(4,.sld 3 (sI l)),(3,.cells 4 1 (s.1.2.map AN)),(5,.cells 29 3 [[.d (iD al),.arr 2 1 0 l.length,.arr 3 1 0 s.1.2.length]])]) 6 (λs=>n.toNat-s.1.1) (⟨⟨0,ac⟩,by simp;omega⟩) a rfl (by (simp[cX,zC,a,cN])) ?_;rintro⟨⟨k,bc⟩,hk,r⟩;(try dsimp only[cA,cB]);have hk:(k:Int)<=n:=hk;have r:bc.length=l.length:=r;(repeat first|refine tM rfl ?_|refine s2 rfl λ_ e=>?_|refine aU rfl ?_|apply Aa)
 ((refine aC rfl ?_ ?_<;>rintro⟨⟩);all_goals try (simp at e;done))
 ·have z:(k:Int)<n:=by (simp only[oZ] at *;omega)
  obtain⟨c,B⟩:=get_some (l:=bc) (k:=0+(k:Int).toNat) (by omega);have A:=get_map (g:=AN) B;apply aK;refine aS (aB ?_);(repeat first|(refine sA rfl ?_ ?_;first|exact tI|omega)|refine t4 rfl ‹_› rfl ?_|refine s2 rfl λ_ e=>?_|refine aU rfl ?_|apply Aa);subst e;refine⟨⟨⟨k+1,bc.set k (decide ((k:Int)<n-1))⟩,by dsimp only;omega,by simp;omega⟩,by dsimp only;(omega),[0,1,2,3,4,5],?_⟩;(simp[cX,zC,a,cN,mM,Ae,eC]<;>rfl)
 obtain⟨K,N⟩:∃K:Nat,(K:Int)=n-1:=⟨(n-1).toNat,by omega⟩
 obtain⟨y,u⟩:=get_some (l:=l) (k:=K) (by omega);apply aE;(repeat first|refine tA rfl ?_|refine aU rfl ?_|apply Aa);apply aB;refine Aj.fS 2 4 l K y u rfl rfl ?_;have t:y.2.length=(Ac al).length:=F y (co u)
 have M:((AB l).set K [.arr 6 1 0 y.2.length])[0+(n-1).toNat]?=some [.arr 6 1 0 y.2.length]:=by
  rw[<-N,lH,i7,mj (by rw[Cu];omega)]
 refine aL (α:={s:Nat×List Int // s.1<=y.2.length/\s.2.length=y.2.length}) [2,6,7] [0,1,2,3,4,5] rfl rfl (λs=>[(9,eI .i64 s.1.1)]) (λs=>[(6,.cells 3 1 (s.1.2.map A8))]) 7 (λs=>y.2.length-s.1.1) (⟨⟨0,y.2⟩,by simp⟩) a rfl (by (simp[cX,zC,a,cN])) ?_;rintro⟨⟨j,ys⟩,G,f⟩;(try dsimp only[cA,cB]);have G:j<=y.2.length:=G;have f:ys.length=y.2.length:=f;(repeat first|(refine sA rfl ?_ ?_;first|exact tI|omega)|refine t4 rfl ‹_› rfl ?_|refine s2 rfl λ_ e=>?_|refine aU rfl ?_|apply Aa)
 ((refine aC rfl ?_ ?_<;>rintro⟨⟩);all_goals try (simp at e;done))
 ·have z:j<y.2.length:=by (simp only[oZ] at *;omega)
  obtain⟨c,B⟩:=get_some (l:=ys) (k:=0+(j:Int).toNat) (by omega);have A:=get_map (g:=A8) B;apply aK;refine aS (aB ?_);(repeat first|(refine sA rfl ?_ ?_;first|exact tI|omega)|refine t4 rfl ‹_› rfl ?_|refine aU rfl ?_|apply Aa);refine⟨⟨⟨j+1,ys.set j (n-1)⟩,by dsimp only;omega,by simp;omega⟩,by dsimp only;(omega),[0,1,2,3,4,5,6],?_⟩;(simp[cX,zC,a,cN,mM,Ae,eC]<;>rfl)
 apply aE;refine Aj.putAt 2 6 4 l K y u ys (by rw[f];rfl) rfl rfl λv=>?_;(repeat first|refine tA rfl ?_|refine aU rfl ?_|apply Aa)
 have w:∀x∈l.set K (v,ys),x.2.length=(Ac al).length:=λx h=>by
  rcases List.mem_or_eq_of_mem_set h with h|h
  ·exact F x h
  ·subst h;exact f.trans t
 refine aR ⟨_,rfl,[0,2,3,4],TW al 1 2 (l.set K (v,ys)).length bc.length,[(0,A6 b q),(1,.cells 63 1 (AB (l.set K (v,ys)))),(2,.cells 4 1 (bc.map AN)),(3,.sld 3 (sI (l.set K (v,ys))))],⟨by intro i hi;match i with|0=>rfl,by decide⟩,by rw[l3];rfl,by (simp[cX,zC,a,cN]),q,l.set K (v,ys),bc,by omega,by rw[l3];omega,by rw[l3];omega,w,rfl,rfl,rfl⟩
structure KX (m:Nat) (a:A5):Prop where
 nx:a.nx.length<=m
 ac:a.ac.length<=m
 row:∀r∈a.nx,r.length<=m
def JI(b:List UInt8)(p w:Int)(Q:A5->Prop)(x:E)(σ:Ab)(nx:Nat):Prop:=∃(p':Int) (a:A5),(p<=p'/\p'<=p+w)/\Q a/\x=Bp a/\σ=[(0,A6 b p')]/\nx=1
theorem QZ{al:Int}{l:HG}{ac:List Bool}{n:Int}{m:Nat}(h:(l.length:Int)=n)(g:ac.length=l.length)(d:∀x∈l,x.2.length=(Ac al).length)(e:n<=m)(f:6<=m):KX m ⟨al,l.map (·.2),ac⟩:=by
 have c:(Ac al).length<=6:=AQ al 6;refine⟨by simp;omega,by simp;omega,λr b=>?_⟩;obtain⟨x,a,rfl⟩:=d8.1 b;have:=d x a;omega
theorem PH(b:List UInt8)(hb:b.length<=2000)(p:Int)(H:0<=p/\p<800000000)(al:Int):Spec Tryz.prog TB 45 [(0,A6 b p)] 1 [.o (.ptr 0 2 0 0),eI .i64 al] (JI b p 50 (λa=>a.al=al/\KX 6 a)):=by
 obtain⟨c,J,I,A⟩:=A4 (TB:=TB) b hb p 2 (by omega);obtain⟨m,w,y⟩:=CL (TB:=TB) b hb (p+1) (by omega) [3,2,4,1] (by decide) (by decide);obtain⟨k,u,x⟩:=CL (TB:=TB) b hb (p+1) (by omega) [2,3,1,4,5] (by decide) (by decide)
 have v:1<=m/\m<=5:=by simp at w;omega
 have t:1<=k/\k<=5:=by simp at u;omega
 have F:=Lt (TB:=TB) b hb (p+1+1) (by omega) al m (by omega);have B:=Ml (TB:=TB) b hb (p+1+1) (by omega) al k (by omega);refine eR Tryz.func45 rfl (by kernel_rfl) rfl ?_;intro Γ e;(repeat first|refine tA rfl ?_|refine aU rfl ?_|apply Aa);(refine pW rfl ?_ rfl (by rfl);refine Af [0] rfl rfl (A) ⟨rfl,by decide,by decide⟩ rfl (by simp[cX,zC,e]) ?_;rintro j f g ⟨rfl,rfl,rfl⟩ _);(repeat first|refine s2 rfl λ_ G=>?_|apply Aa);(refine aC rfl ?_ ?_<;>rintro⟨⟩)
 ·(repeat first|refine tA rfl ?_|refine aU rfl ?_)
  (refine pW rfl ?_ rfl (by rfl);refine Af [0] rfl rfl (y) ⟨rfl,by decide,by decide⟩ rfl (by simp[cX,zC,e]) ?_;rintro j f g ⟨rfl,rfl,rfl⟩ _);(refine pW rfl ?_ rfl (by rfl);refine BR [0] rfl rfl 1 (F) (by decide) ⟨rfl,by decide,by decide⟩ rfl (by simp[cX,zC,e,cN]) ?_;rintro j f g ⟨q,l,ac,z,r,h,n,rfl,rfl,rfl⟩ _);(repeat first|refine tA rfl ?_|apply Aa);refine Aj.Aw [4] [] rfl rfl [] [(0,A6 b q),(1,.cells 29 3 [[.d (iD al),.arr 2 1 0 l.length,.arr 3 1 0 ac.length]]),(2,.cells 63 1 (AB l)),(3,.cells 4 1 (ac.map AN)),(4,.sld 3 (sI l))] [0,1,2,3,4] (rl e rfl) (by (simp[cX,zC,e,cN])) ?_;(try dsimp only[cA,cB]);refine Aj.AD [1,2,3,4] [(4,.o (.ip (AU ⟨al,l.map (·.2),ac⟩)))] ⟨⟨_,rfl,.inr (.o (.box rfl (.cons .d (.cons (.ML (s:=4) rfl rfl) (.cons (.full rfl (by simp[d7]) (by simp)) .nil)))))⟩,trivial⟩ ?_;refine aR ⟨_,rfl,[0],Bp ⟨al,l.map (·.2),ac⟩,[(0,A6 b q)],⟨by intro i hi;match i with|0=>rfl,by decide⟩,rfl,by (simp[cX,zC,e,cN]),q,_,by omega,⟨rfl,QZ r h n (by omega) (by omega)⟩,rfl,rfl,rfl⟩
 ·apply aK
  (repeat first|refine tA rfl ?_|refine aU rfl ?_);(refine pW rfl ?_ rfl (by rfl);refine Af [0] rfl rfl (x) ⟨rfl,by decide,by decide⟩ rfl (by simp[cX,zC,e]) ?_;rintro j f g ⟨rfl,rfl,rfl⟩ _);(refine pW rfl ?_ rfl (by rfl);refine BR [0] rfl rfl 1 (B) (by decide) ⟨rfl,by decide,by decide⟩ rfl (by simp[cX,zC,e,cN]) ?_;rintro j f g ⟨q,l,ac,z,r,h,n,rfl,rfl,rfl⟩ _);(repeat first|refine tA rfl ?_|apply Aa);refine Aj.Aw [4] [] rfl rfl [] [(0,A6 b q),(1,.cells 29 3 [[.d (iD al),.arr 2 1 0 l.length,.arr 3 1 0 ac.length]]),(2,.cells 63 1 (AB l)),(3,.cells 4 1 (ac.map AN)),(4,.sld 3 (sI l))] [0,1,2,3,4] (rl e rfl) (by (simp[cX,zC,e,cN])) ?_;(try dsimp only[cA,cB]);refine Aj.AD [1,2,3,4] [(4,.o (.ip (AU ⟨al,l.map (·.2),ac⟩)))] ⟨⟨_,rfl,.inr (.o (.box rfl (.cons .d (.cons (.ML (s:=4) rfl rfl) (.cons (.full rfl (by simp[d7]) (by simp)) .nil)))))⟩,trivial⟩ ?_;refine aR ⟨_,rfl,[0],Bp ⟨al,l.map (·.2),ac⟩,[(0,A6 b q)],⟨by intro i hi;match i with|0=>rfl,by decide⟩,rfl,by (simp[cX,zC,e,cN]),q,_,by omega,⟨rfl,QZ r h n (by omega) (by omega)⟩,rfl,rfl,rfl⟩
end Go.Am
