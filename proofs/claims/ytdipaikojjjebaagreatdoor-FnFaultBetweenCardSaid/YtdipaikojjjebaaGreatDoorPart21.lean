/-
  Arrays of arrays of the call's own: the inner ones lie sealed, one of them at a time is taken out and put back.
-/
import Derived.Test.YtdipaikojjjebaaGreatDoorPart17
import Derived.Test.YtdipaikojjjebaaGreatDoorPart16
set_option linter.all false
namespace Go.Am
open Go
abbrev JT:=List (Value×List Int)
def sI(l:JT):List (Value×List Value):=l.map λx=>(x.1,x.2.map (.int .i64))
def AH(l:JT):List (List C):=l.map λx=>[.d (.v x.1)]
abbrev Mf(xs:List Int):List (List C):=xs.map Av
theorem iF{V:View}{i k off n:Nat}{v:Value}(h:AP V (.arr i k off n) v):(V.nl i/\off=0/\n=0/\v=.slice none 0 0)\/(¬V.nl i/\off+n<=V.cap i/\v=.slice (some ⟨V.ρ i,off*k,none⟩) n (V.cap i-off)):=by
 cases h with
 | nil _ h=>exact .inl ⟨h,rfl,rfl,rfl⟩
 | arr _ b a=>exact .inr ⟨b,a,rfl⟩
theorem Lh(l m:JT):sI (l++m)=sI l++sI m:=rI
theorem AW(l m:JT):AH (l++m)=AH l++AH m:=rI
theorem CL(l:JT):(AH l).length=l.length:=gt _
theorem VP(r:Nat->Nat)(l:JT):(AH l).map (C.Cp r)=AH l:=by
 unfold AH;rw[rL];rfl
theorem fL(l:List Int):(Mf l).length=l.length:=gt _
section
variable {P:Program}{TB:BJ}{U:Ctx}{N:Nat}{V:View}{σ:Ac}{a i s:Nat}{T Ta:TypeId}{R1 R2:List (List C)}{xs:List Int}{l1 l2:JT}
theorem YA{l:JT}{x:Value×List Value}(h:x∈sI l):∃y∈l,x=(y.1,y.2.map (.int .i64)):=by
 obtain⟨y,a,rfl⟩:=d9.1 h;exact⟨y,a,rfl⟩
theorem Inv.put(h:Inv TB U V σ)(ha:look σ a=some (.cells Ta 1 (R1++[.arr i 1 0 xs.length]::R2)))(hi:look σ i=some (.cells T 1 (Mf xs)))(P:look σ s=some (.sld T (sI (l1++l2)))) :
 ∃v,Inv TB U V ((a,.cells Ta 1 (R1++[.d (.v v)]::R2))::(s,.sld T (sI (l1++(v,xs)::l2)))::kill i σ):=by
 have has:a≠s:=λe=>by rw[e,P]at ha;cases ha
 have Z:i≠s:=λe=>by rw[e,P]at hi;cases hi
 have hai:a≠i:=λe=>by
  rw[e,hi]at ha
  injection ha with ha;injection ha with _ _ ha
  have B:(Mf xs)[R1.length]?=some [.arr i 1 0 xs.length]:=by rw[ha];simp
  rw[f6,d7]at B;obtain⟨x,_,A⟩:=B;cases A
 rcases h.st.obj a _ ha with ⟨_,h0⟩|⟨hna,cur,R,N,h4,h5,h6,h7⟩
 ·simp at h0
 obtain⟨v,hv,Q⟩:=h7 R1.length [.arr i 1 0 xs.length] 0 (.arr i 1 0 xs.length) (by simp) rfl;have Q:=iF Q
 have hsl:Qn v=true:=by rcases Q with ⟨_,_,_,rfl⟩|⟨_,_,rfl⟩<;>rfl
 have I:∀b,KN v b->¬V.nl i/\b=V.ρ i:=by
  rintro b ⟨o,n,c,rfl⟩
  rcases Q with ⟨_,_,_,p⟩|⟨m,_,p⟩
  ·cases p
  ·injection p with p;injection p with p;injection p with p;exact⟨m,p⟩
 have K:Lp V.w T v (xs.map (.int .i64)):=by
  rcases h.st.obj i _ hi with ⟨G,z⟩|⟨hni,cur',z,F,g4,g5,g6,g7⟩
  ·have:xs=[]:=by simpa using z
   subst this
   rcases Q with ⟨_,_,_,rfl⟩|⟨m,_⟩
   ·exact .inl ⟨rfl,rfl⟩
   ·exact absurd G m
  ·rcases Q with ⟨m,_⟩|⟨_,hle,rfl⟩
   ·exact absurd m hni
   ·refine .inr ⟨V.ρ i,V.cap i,cur',by simp,z,by simpa using F,by rw[fL]at g4;simpa using g4,g5,λj x M=>?_⟩
    rw[f6,d7]at M;obtain⟨n,m,rfl⟩:=M;obtain⟨w,p,hcw⟩:=g7 j [.d (.v (.int .i64 n))] 0 (.d (.v (.int .i64 n))) (by simp[Mf,m]) rfl;have:w=.int .i64 n:=AP.val hcw;subst this;exact⟨by simpa using p,rfl⟩
 refine⟨v,?_⟩;have look':∀id o,look ((a,.cells Ta 1 (R1++[.d (.v v)]::R2))::(s,.sld T (sI (l1++(v,xs)::l2)))::kill i σ) id=some o->
  (id=a/\o=.cells Ta 1 (R1++[.d (.v v)]::R2))\/(id=s/\o=.sld T (sI (l1++(v,xs)::l2)))\/(id≠a/\id≠s/\id≠i/\look σ id=some o):=λid o f=>by
  rw[AG]at f;by_cases B:a=id
  ·rw[if_pos B]at f;injection f with f;exact .inl ⟨B.symm,f.symm⟩
  ·rw [if_neg B,AG]at f
   by_cases R:s=id
   ·rw[if_pos R]at f;injection f with f;exact .inr (.inl ⟨R.symm,f.symm⟩)
   ·rw[if_neg R,Fo]at f
    by_cases N:id=i
    ·rw[if_pos N]at f;cases f
    ·rw[if_neg N]at f;exact .inr (.inr ⟨Ne.symm B,Ne.symm R,N,f⟩)
 have hsb:∀b,FR V s (.sld T (sI (l1++(v,xs)::l2))) b->FR V s (.sld T (sI (l1++l2))) b\/(¬V.nl i/\b=V.ρ i):=by
  rintro b ⟨x,A,hb⟩;obtain⟨y,l,rfl⟩:=YA A
  rcases gc.1 l with l|l
  ·exact .inl ⟨_,d9.2 ⟨y,q6 _ l,rfl⟩,hb⟩
  ·rcases lw.1 l with rfl|l
   ·exact .inr (I b hb)
   ·exact .inl ⟨_,d9.2 ⟨y,rr _ l,rfl⟩,hb⟩
 have t:=h.st.obj s _ P
 have H:∀x∈sI (l1++l2),∀b,KN x.1 b->¬KN v b:=λx A b hb u=>by
  obtain⟨m,rfl⟩:=I b u;exact h.st.inj s i _ _ P hi (Ne.symm Z) t.1 m _ ⟨x,A,hb⟩ rfl
 have src:∀id o,look ((a,.cells Ta 1 (R1++[.d (.v v)]::R2))::(s,.sld T (sI (l1++(v,xs)::l2)))::kill i σ) id=some o->¬V.nl id->∀b,FR V id o b->∃g J,look σ g=some J/\¬V.nl g/\FR V g J b/\(g=id\/g=i/\id=s):=λid o f m b hb=>by
  rcases look' id o f with ⟨rfl,rfl⟩|⟨rfl,rfl⟩|⟨_,_,_,f⟩
  ·exact⟨_,_,ha,m,hb,.inl rfl⟩
  ·rcases hsb b hb with hb|⟨B,rfl⟩
   ·exact⟨_,_,P,m,hb,.inl rfl⟩
   ·exact⟨_,_,hi,B,rfl,.inr ⟨rfl,rfl⟩⟩
  ·exact⟨_,_,f,m,hb,.inl rfl⟩
 have noi:∀id o,look ((a,.cells Ta 1 (R1++[.d (.v v)]::R2))::(s,.sld T (sI (l1++(v,xs)::l2)))::kill i σ) id=some o->id≠i:=λid o f=>by
  rcases look' id o f with ⟨rfl,rfl⟩|⟨rfl,rfl⟩|⟨_,_,N,_⟩
  ·exact hai
  ·exact Ne.symm Z
  ·exact N
 refine⟨h.os,h.tape,h.output,h.old,h.iLt,h.iNew,h.ext,⟨λid o f=>?_,λid o f=>?_,λid o f m b hb=>?_,λid id' o o' f X Y m hn' b hb u=>?_⟩,λid o f m b hb=>?_,h.tabs,h.hid.same rfl (λ_ h=>h) (λ_ h=>.inl h) λb ⟨id,o,f,m,hb⟩=>let ⟨g,J,G,z,F,_⟩:=src id o f m b hb;⟨g,J,G,z,F⟩⟩
 ·rcases look' id o f with ⟨rfl,rfl⟩|⟨rfl,rfl⟩|⟨_,_,_,f⟩
  ·refine .inr ⟨hna,cur,R,N,by simpa using h4,h5,λr L=>?_,λq r j c hq M=>?_⟩
   ·rcases gc.1 L with L|L
    ·exact h6 r (q6 _ L)
    ·rcases lw.1 L with rfl|L
     ·rfl
     ·exact h6 r (rr _ (rP _ L))
   ·by_cases hq0:q=R1.length
    ·subst hq0
     simp at hq;subst hq
     have hj0:j=0:=by have:=(am.1 M).1;simp at this;omega
     subst hj0;simp at M;subst M;exact⟨v,hv,.d (.v hsl)⟩
    ·refine h7 q r j c ?_ M
     rw[<-hq]
     rcases rn q R1.length with h8|h8
     ·rw[f9 h8,f9 h8]
     ·rw[io h8,io h8]
      obtain⟨k,hk⟩:∃k,q-R1.length=k+1:=⟨q-R1.length-1,by omega⟩
      rw[hk];rfl
  ·refine⟨t.1,?_,λx A=>?_⟩
   ·have hp:=t.2.1
    rw[Lh,sU]at hp;rw[Lh,sU];refine⟨hp.1,rK.2 ⟨λy l b hb u=>H y (by rw[Lh];exact rr _ l) b u hb,hp.2.1⟩,λx A y l=>?_⟩
    rcases lw.1 l with rfl|l
    ·exact λb hb=>H x (by rw[Lh];exact q6 _ A) b hb
    ·exact hp.2.2 x A y l
   ·obtain⟨y,l,rfl⟩:=YA A
    rcases gc.1 l with l|l
    ·exact t.2.2 _ (d9.2 ⟨y,q6 _ l,rfl⟩)
    ·rcases lw.1 l with rfl|l
     ·exact K
     ·exact t.2.2 _ (d9.2 ⟨y,rr _ l,rfl⟩)
  ·exact h.st.obj id o f
 ·rcases look' id o f with ⟨rfl,rfl⟩|⟨rfl,rfl⟩|⟨_,_,_,f⟩
  ·exact h.st.lt _ _ ha
  ·exact h.st.lt _ _ P
  ·exact h.st.lt _ _ f
 ·obtain⟨g,J,G,z,F,_⟩:=src id o f m b hb
  exact h.st.free _ _ G z b F
 ·obtain⟨g,J,G,z,F,g4⟩:=src id o f m b hb
  obtain⟨S,o0',g1',g2',g3',g4'⟩:=src id' o' X hn' b u;refine h.st.inj g S _ _ G g1' ?_ z g2' b F g3';have n1:=noi id o f;have n2:=noi id' o' X;rintro rfl
  rcases g4 with rfl|⟨rfl,rfl⟩<;>rcases g4' with rfl|⟨e1,rfl⟩
  ·exact Y rfl
  ·exact n1 e1
  ·exact n2 rfl
  ·exact Y rfl
 ·obtain⟨g,J,G,z,F,_⟩:=src id o f m b hb
  exact h.live _ _ G z b F
theorem Aj.put{c:Code}{Q:Exit->Env->Ac->Nat->Prop}{f:Env}{nx:Nat}(a i s:Nat)(R1 R2:List (List C))(xs:List Int)(l1 l2:JT)(ha:look σ a=some (.cells Ta 1 (R1++[.arr i 1 0 xs.length]::R2)))(hi:look σ i=some (.cells T 1 (Mf xs)))(g:look σ s=some (.sld T (sI (l1++l2))))
 (h:∀v,Aj P TB U N c Q f ((a,.cells Ta 1 (R1++[.d (.v v)]::R2))::(s,.sld T (sI (l1++(v,xs)::l2)))::kill i σ) nx):Aj P TB U N c Q f σ nx:=by
 intro V ac b;obtain⟨v,e⟩:=b.inv.put ha hi g;exact h v V ac ⟨b.env,b.lt,b.size,e,b.nx,b.defers⟩
theorem Inv.take{v:Value}(h:Inv TB U V σ)(ha:look σ a=some (.cells Ta 1 (R1++[.d (.v v)]::R2)))(hs:look σ s=some (.sld T (sI (l1++(v,xs)::l2)))) :
 ∃V',V'.w=V.w/\V'.nx=V.nx+1/\Ext V V'/\Inv TB U V' ((a,.cells Ta 1 (R1++[.arr V.nx 1 0 xs.length]::R2))::(V.nx,.cells T 1 (Mf xs))::(s,.sld T (sI (l1++l2)))::σ):=by
 have has:a≠s:=λe=>by rw[e,hs]at ha;cases ha
 have p:=h.st.obj s _ hs;have hsn:=h.st.lt _ _ hs;have l:=h.st.lt _ _ ha;have K:((v,xs.map (.int .i64)):Value×List Value)∈sI (l1++(v,xs)::l2):=d9.2 ⟨(v,xs),by simp,rfl⟩
 obtain⟨u,cap,nl,hb0,hcr,hob⟩:∃u cap nl,(¬nl->KN v u)/\AP (Az V u cap nl V.w) (.arr V.nx 1 0 xs.length) v/\C3 (Az V u cap nl V.w) V.nx (.cells T 1 (Mf xs)):=by
  rcases p.2.2 _ K with ⟨m,G⟩|⟨b,cap,cur,m,G,z,h4,h5,h6⟩
  ·have m:v=.slice none 0 0:=m
   have hx0:xs=[]:=by simpa using G
   subst m;subst hx0;exact⟨0,0,True,λh=>absurd trivial h,.nil (by simp[Az]) (by simp[Az]),.inl ⟨by simp[Az],rfl⟩⟩
  ·have m:v=.slice (some ⟨b,0,none⟩) (xs.map (Value.int .i64)).length cap:=m
   rw[gt]at m h4;refine⟨b,cap,False,λ_=>⟨_,_,_,m⟩,?_,.inr ⟨by simp[Az],cur,by simpa[Az]using G,by simpa[Az]using z,by simpa[Az]using h4,by simpa[Az]using h5,λr A=>?_,λq r j c Z L=>?_⟩⟩
   ·rw[m]
    have:=@AP.arr (Az V b cap False V.w) V.nx 1 0 xs.length (by simp[Az]) (by simp[Az]) (by simpa[Az]using h4)
    simpa[Az]using this
   ·obtain⟨n,_,rfl⟩:=d9.1 A;rfl
   ·rw[f6,d7]at Z
    obtain⟨n,t,rfl⟩:=Z
    have R:j=0:=by have:=(am.1 L).1;simp at this;omega
    subst R;simp at L;subst L;exact⟨.int .i64 n,by simpa using (h6 q (.int .i64 n) (by simp[t])).1,.d (.v rfl)⟩
 have e:Ext V (Az V u cap nl V.w):=ES (lc _) λ_ _=>rfl
 have hρ:(Az V u cap nl V.w).ρ V.nx=u:=by simp[Az]
 have hnl:(Az V u cap nl V.w).nl V.nx↔nl:=by simp[Az]
 refine⟨Az V u cap nl V.w,rfl,rfl,e,?_⟩;have look':∀id o,look ((a,.cells Ta 1 (R1++[.arr V.nx 1 0 xs.length]::R2))::(V.nx,.cells T 1 (Mf xs))::(s,.sld T (sI (l1++l2)))::σ) id=some o->
  (id=a/\o=.cells Ta 1 (R1++[.arr V.nx 1 0 xs.length]::R2))\/(id=V.nx/\o=.cells T 1 (Mf xs))\/(id=s/\o=.sld T (sI (l1++l2)))\/(id≠a/\id≠s/\look σ id=some o):=λid o f=>by
  rw[AG]at f;by_cases m:a=id
  ·rw[if_pos m]at f;injection f with f;exact .inl ⟨m.symm,f.symm⟩
  ·rw [if_neg m,AG]at f
   by_cases G:V.nx=id
   ·rw[if_pos G]at f;injection f with f;exact .inr (.inl ⟨G.symm,f.symm⟩)
   ·rw[if_neg G,AG]at f
    by_cases z:s=id
    ·rw[if_pos z]at f;injection f with f;exact .inr (.inr (.inl ⟨z.symm,f.symm⟩))
    ·rw[if_neg z]at f;exact .inr (.inr (.inr ⟨Ne.symm m,Ne.symm z,f⟩))
 have J:∀x∈sI (l1++l2),x∈sI (l1++(v,xs)::l2):=λx i=>by
  obtain⟨y,P,rfl⟩:=YA i;refine d9.2 ⟨y,?_,rfl⟩
  rcases gc.1 P with P|P
  ·exact q6 _ P
  ·exact rr _ (rP _ P)
 have hp:=p.2.1;rw[Lh,sU]at hp;have hp2:=rK.1 hp.2.1
 have M:∀x∈sI (l1++l2),∀b,KN x.1 b->¬KN v b:=λx i b hb F=>by
  rw[Lh]at i
  rcases gc.1 i with i|i
  ·exact hp.2.2 x i _ (tQ ..) b hb F
  ·exact hp2.1 x i b F hb
 have src:∀id o,look ((a,.cells Ta 1 (R1++[.arr V.nx 1 0 xs.length]::R2))::(V.nx,.cells T 1 (Mf xs))::(s,.sld T (sI (l1++l2)))::σ) id=some o->¬(Az V u cap nl V.w).nl id->∀b,FR (Az V u cap nl V.w) id o b->
  ∃g N,look σ g=some N/\¬V.nl g/\FR V g N b/\(g=id\/g=s/\id=V.nx/\KN v b)/\(id=s->∃x∈sI (l1++l2),KN x.1 b):=λid o f t b hb=>by
  rcases look' id o f with ⟨rfl,rfl⟩|⟨rfl,rfl⟩|⟨rfl,rfl⟩|⟨_,z,f⟩
  ·exact⟨_,_,ha,λh=>t ((e.nl _ l).2 h),by have:b=_:=hb;rw[e.ρ _ l]at this;exact this,.inl rfl,λe=>absurd e has⟩
  ·have hb:b=_:=hb
   rw[hρ]at hb;subst hb;have hv:=hb0 λh=>t (hnl.2 h);exact⟨_,_,hs,p.1,⟨_,K,hv⟩,.inr ⟨rfl,rfl,hv⟩,λe=>by omega⟩
  ·obtain⟨x,i,hb⟩:=hb
   exact⟨_,_,hs,p.1,⟨x,J x i,hb⟩,.inl rfl,λ_=>⟨x,i,hb⟩⟩
  ·have hlt:=h.st.lt _ _ f
   exact⟨_,_,f,λh=>t ((e.nl _ hlt).2 h),(AR e hlt).1 hb,.inl rfl,λe=>absurd e z⟩
 refine⟨h.os,h.tape,h.output,h.old,h.iLt,h.iNew,h.ext.trans e,⟨λid o f=>?_,λid o f=>?_,λid o f t b hb=>?_,λid id' o o' f ho' hne t hn' b hb F=>?_⟩,λid o f t b hb=>?_,h.tabs,h.hid.same rfl (λ_ h=>h) (λ_ h=>.inl h) λb ⟨id,o,f,t,hb⟩=>let ⟨g,N,Y,X,S,_⟩:=src id o f t b hb;⟨g,N,Y,X,S⟩⟩
 ·rcases look' id o f with ⟨rfl,rfl⟩|⟨rfl,rfl⟩|⟨rfl,rfl⟩|⟨_,_,f⟩
  ·rcases h.st.obj _ _ ha with ⟨_,h0⟩|⟨hna,cur,G,z,h4,h5,h6,h7⟩
   ·simp at h0
   refine .inr ⟨λh=>hna ((e.nl _ l).1 h),cur,by rw[e.ρ _ l];exact G,by rw[e.cap _ l];exact z,by rw[e.cap _ l];simpa using h4,by rw[e.cap _ l];exact h5,λr A=>?_,λq r j c Z L=>?_⟩
   ·rcases gc.1 A with A|A
    ·exact h6 r (q6 _ A)
    ·rcases lw.1 A with rfl|A
     ·rfl
     ·exact h6 r (rr _ (rP _ A))
   ·by_cases hq0:q=R1.length
    ·subst hq0
     simp at Z;subst Z
     have R:j=0:=by have:=(am.1 L).1;simp at this;omega
     subst R;simp at L;subst L;obtain⟨w,hw,hc⟩:=h7 R1.length [.d (.v v)] 0 (.d (.v v)) (by simp) rfl;have hw2:w=v:=AP.val hc;subst hw2;exact⟨w,hw,hcr⟩
    ·obtain⟨w,hw,hc⟩:=h7 q r j c (by
      rw[<-Z]
      rcases rn q R1.length with h8|h8
      ·rw[f9 h8,f9 h8]
      ·rw[io h8,io h8]
       obtain⟨k,hk⟩:∃k,q-R1.length=k+1:=⟨q-R1.length-1,by omega⟩
       rw[hk];rfl) L
     exact⟨w,hw,hc.ext e⟩
  ·exact hob
  ·refine⟨λh=>p.1 ((e.nl _ hsn).1 h),?_,λx i=>p.2.2 x (J x i)⟩
   rw[Lh,sU];exact⟨hp.1,hp2.2,λx i y P=>hp.2.2 x i y (rP _ P)⟩
  ·exact(h.st.obj id o f).A0 e (h.st.lt id o f) λ_ _ _=>rfl
 ·rcases look' id o f with ⟨rfl,rfl⟩|⟨rfl,rfl⟩|⟨rfl,rfl⟩|⟨_,_,f⟩
  ·exact sV l
  ·exact tG _
  ·exact sV hsn
  ·exact sV (h.st.lt _ _ f)
 ·obtain⟨g,N,Y,X,S,_⟩:=src id o f t b hb
  exact h.st.free _ _ Y X b S
 ·obtain⟨g,N,Y,X,S,g4,g5⟩:=src id o f t b hb
  obtain⟨I,o0',g1',g2',g3',H,g5'⟩:=src id' o' ho' hn' b F;by_cases B:g=I
  ·rcases g4 with g4|⟨k1,k2,k3⟩<;>rcases H with H|⟨k1',k2',k3'⟩
   ·exact hne (by rw[<-g4,<-H,B])
   ·obtain⟨x,i,Q⟩:=g5 (by rw[<-g4,B,k1'])
    exact M x i b Q k3'
   ·obtain⟨x,i,Q⟩:=g5' (by rw[<-H,<-B,k1])
    exact M x i b Q k3
   ·exact hne (by rw[k2,k2'])
  ·exact h.st.inj g I _ _ Y g1' B X g2' b S g3'
 ·obtain⟨g,N,Y,X,S,_⟩:=src id o f t b hb
  exact h.live _ _ Y X b S
theorem Aj.take{c:Code}{Q:Exit->Env->Ac->Nat->Prop}{f:Env}{nx:Nat}(a s:Nat)(R1 R2:List (List C))(v:Value)(xs:List Int)(l1 l2:JT)(ha:look σ a=some (.cells Ta 1 (R1++[.d (.v v)]::R2)))(g:look σ s=some (.sld T (sI (l1++(v,xs)::l2))))
 (h:Aj P TB U N c Q f ((a,.cells Ta 1 (R1++[.arr nx 1 0 xs.length]::R2))::(nx,.cells T 1 (Mf xs))::(s,.sld T (sI (l1++l2)))::σ) (nx+1)):Aj P TB U N c Q f σ nx:=by
 intro V ac b;obtain⟨V',j,i,e,hi⟩:=b.inv.take ha g;have:=h V' ac ⟨b.env.ext e,b.lt,b.size,by have:=b.nx;subst this;exact hi,by rw[i,b.nx],b.defers⟩;rw[j]at this;exact this
theorem Aj.jU{c:Code}{Q:Exit->Env->Ac->Nat->Prop}{f:Env}{nx:Nat}(T:TypeId)(h:Aj P TB U N c Q f ((nx,.sld T (sI []))::σ) (nx+1)):Aj P TB U N c Q f σ nx:=by
 intro V ac k;have hi:=k.inv;have e:Ext V (Az V 0 0 False V.w):=ES (lc _) λ_ _=>rfl;have p:=k.nx;subst p
 have look':∀id o,look ((V.nx,.sld T (sI []))::σ) id=some o->(id=V.nx/\o=.sld T (sI []))\/(id≠V.nx/\look σ id=some o):=λid o a=>by
  rw[AG]at a;by_cases d:V.nx=id
  ·rw[if_pos d]at a;injection a with a;exact .inl ⟨d.symm,a.symm⟩
  ·rw[if_neg d]at a;exact .inr ⟨Ne.symm d,a⟩
 have src:∀id o,look ((V.nx,.sld T (sI []))::σ) id=some o->∀b,FR (Az V 0 0 False V.w) id o b->look σ id=some o/\FR V id o b/\((Az V 0 0 False V.w).nl id↔V.nl id):=λid o a b hb=>by
  rcases look' id o a with ⟨rfl,rfl⟩|⟨_,a⟩
  ·obtain⟨x,m,_⟩:=hb;cases m
  ·have l:=hi.st.lt _ _ a
   exact⟨a,(AR e l).1 hb,e.nl _ l⟩
 refine h (Az V 0 0 False V.w) ac ⟨k.env.ext e,k.lt,k.size,?_,rfl,k.defers⟩;refine⟨hi.os,hi.tape,hi.output,hi.old,hi.iLt,hi.iNew,hi.ext.trans e,⟨λid o a=>?_,λid o a=>?_,λid o a g b hb=>?_,λid id' o o' a n q g r b hb s=>?_⟩,λid o a g b hb=>?_,hi.tabs,hi.hid.same rfl (λ_ h=>h) (λ_ h=>.inl h) λb ⟨id,o,a,g,hb⟩=>let ⟨d,j,i⟩:=src id o a b hb;⟨id,o,d,λh=>g (i.2 h),j⟩⟩
 ·rcases look' id o a with ⟨rfl,rfl⟩|⟨_,a⟩
  ·exact⟨by simp[Az],List.Pairwise.nil,λx m=>by cases m⟩
  ·exact(hi.st.obj id o a).A0 e (hi.st.lt id o a) λ_ _ _=>rfl
 ·rcases look' id o a with ⟨rfl,rfl⟩|⟨_,a⟩
  ·exact tG _
  ·exact sV (hi.st.lt _ _ a)
 ·obtain⟨d,j,i⟩:=src id o a b hb
  exact hi.st.free _ _ d (λh=>g (i.2 h)) b j
 ·obtain⟨d,j,i⟩:=src id o a b hb
  obtain⟨v,u,t⟩:=src id' o' n b s;exact hi.st.inj _ _ _ _ d v q (λh=>g (i.2 h)) (λh=>r (t.2 h)) b j u
 ·obtain⟨d,j,i⟩:=src id o a b hb
  exact hi.live _ _ d (λh=>g (i.2 h)) b j
structure qc (V V':View):Prop where
 ρ:V'.ρ=V.ρ
 cap:V'.cap=V.cap
 nl:V'.nl=V.nl
 nx:V'.nx=V.nx
 w:V'.w=V.w
section
variable {o:Oper}{f:Env}{nx:Nat}
end
def Mh(σ:Ac):List Nat->Ac
 | []=>[]
 | i::r=>match look σ i with
  | some o=>(i,o)::Mh σ r
  | none=>Mh σ r
theorem IK{σ:Ac}:∀ {ids:List Nat} {id:Nat} {o:O},look (Mh σ ids) id=some o->id∈ids/\look σ id=some o
 | [],_,_,h=>by cases h
 | i :: r,id,o,h=>by
  unfold Mh at h;split at h
  ·rename_i o' a
   rw[AG]at h;by_cases hi:i=id
   ·rw[if_pos hi]at h;injection h with h;subst h;subst hi;exact⟨tQ ..,a⟩
   ·rw[if_neg hi]at h
    have:=IK h;exact⟨rP _ this.1,this.2⟩
  ·have:=IK h
   exact⟨rP _ this.1,this.2⟩
def dA(σi:Ac)(f:Env):List (Nat×E)->Prop
 | []=>True
 | (t,e')::L=>(∃e,f t=some e/\(e=e'\/EZ σi e e'))/\dA σi f L
theorem dA.get{σi:Ac}{f:Env}:∀ {L:List (Nat×E)},dA σi f L->∀t e',look L t=some e'->∃e,f t=some e/\(e=e'\/EZ σi e e')
 | [],_,t,e,h=>by cases h
 | (k,x)::L,a,t,e,h=>by
  rw[AG]at h;by_cases hk:k=t
  ·rw[if_pos hk]at h;injection h with h;subst h;subst hk;exact a.1
  ·rw[if_neg hk]at h;exact dA.get a.2 t e h
theorem Aj.AA{c:Code}{Q:Exit->Env->Ac->Nat->Prop}{f:Env}{nx:Nat}(ids:List Nat)(L:List (Nat×E))(w:dA (Mh σ ids) f L)(h:Aj P TB U N c Q (look L) (CS ids σ) nx):Aj P TB U N c Q f σ nx:=by
 intro V a l;have hi:=l.inv;have i:∀id o,look (Mh σ ids) id=some o->look σ id=some o:=λid o h=>(IK h).2;have u:Inv TB U V (Mh σ ids):=hi.sub i;have e:Ext V (Pa V (Mh σ ids)):=OF;refine h (Pa V (Mh σ ids)) a ⟨λt x p=>?_,λt x p=>?_,l.size,?_,l.nx,l.defers⟩
 ·obtain⟨y,q,g⟩:=w.get t x p
  rcases g with rfl|g
  ·exact(l.env t _ q).ext e
  ·exact g.rel u (l.env t y q)
 ·obtain⟨y,q,_⟩:=w.get t x p
  exact l.lt t y q
 ·refine⟨hi.os,hi.tape,hi.output,hi.old,?_,?_,hi.ext.trans e,⟨?_,?_,?_,?_⟩,?_,λx p=>⟨.inl (hi.tabs x p).1,(hi.tabs x p).2⟩,hi.hid.same rfl (λ_ h=>.inl h) (λb hb=>hb.elim .inl λ⟨id,o,d,j,v⟩=>.inr ⟨id,o,i _ _ d,j,v⟩) λb ⟨id,o,d,j,hb⟩=>have g:=(Bs ids σ id o d).2;⟨id,o,g,j,(AR e (hi.st.lt id o g)).1 hb⟩⟩
  ·rintro b (hb|⟨id,o,d,j,hb⟩)
   ·exact hi.iLt b hb
   ·exact(hi.st.obj id o (i _ _ d)).blt j hb
  ·rintro b (hb|⟨id,o,d,j,hb⟩)
   ·exact hi.iNew b hb
   ·exact .inr (hi.live id o (i _ _ d) j b hb)
  ·intro id o d
   have:=(Bs ids σ id o d).2;exact(hi.st.obj id o this).A0 e (hi.st.lt id o this) λ_ _ _=>rfl
  ·intro id o d;exact hi.st.lt id o (Bs ids σ id o d).2
  ·intro id o d j b k hb
   obtain⟨q,g⟩:=Bs ids σ id o d;have k:=(AR e (hi.st.lt id o g)).1 k
   rcases hb with hb|⟨id',o',n,m,v⟩
   ·exact hi.st.free id o g j b k hb
   ·have z:=IK n
    exact hi.st.inj id id' o o' g z.2 (λe=>q (e▸z.1)) j m b k v
  ·intro id id' o o' d n s j m b hb k
   have g:=(Bs ids σ id o d).2;have r:=(Bs ids σ id' o' n).2;exact hi.st.inj id id' o o' g r s j m b ((AR e (hi.st.lt id o g)).1 hb) ((AR e (hi.st.lt id' o' r)).1 k)
  ·intro id o d j b hb
   have g:=(Bs ids σ id o d).2;exact hi.live id o g j b ((AR e (hi.st.lt id o g)).1 hb)
theorem FZ.OB{a s:Nat}{T Ta:TypeId}{l:JT}(ha:look σ a=some (.cells Ta 1 (AH l)))(e:look σ s=some (.sld T (sI l))):FZ σ (.arr a 1 0 l.length) (Ce (l.map (·.2))):=by
 refine .rows ha (by simp) (CL l) λi r' hi=>?_;simp only[f6,d7]at hi;obtain⟨x,⟨y,b,rfl⟩,rfl⟩:=hi;refine⟨[.d (.v y.1)],by simp[AH,b],.cons ?_ .nil⟩;have c:FZ σ (.d (.v y.1)) (.l ((y.2.map (Value.int .i64)).map λx=>[D.v x])):=.sld e (d9.2 ⟨y,co b,rfl⟩);rw[rL]at c;exact c
theorem Aj.X8{c:Code}{Q:Exit->Env->Ac->Nat->Prop}{f:Env}{nx:Nat}(a i s:Nat)(l:JT)(xs:List Int)(ha:look σ a=some (.cells Ta 1 (AH l++[[.arr i 1 0 xs.length]])))(hi:look σ i=some (.cells T 1 (Mf xs)))(b:look σ s=some (.sld T (sI l)))
 (h:∀v,Aj P TB U N c Q f ((a,.cells Ta 1 (AH (l++[(v,xs)])))::(s,.sld T (sI (l++[(v,xs)])))::kill i σ) nx):Aj P TB U N c Q f σ nx:=
 Aj.put a i s (AH l) [] xs l [] ha hi (by rw[rv];exact b) λv=>by
  have:=h v;rw[AW]at this;exact this
theorem PZ{l:JT}{k:Nat}{y:Value×List Int}(h:l[k]?=some y):l=l.take k++y::l.drop (k+1)/\(l.take k).length=k:=by
 obtain⟨hk,rfl⟩:=am.1 h;refine⟨?_,by rw[sL];omega⟩;rw[<-tu hk,rZ]
theorem T7{α:Type}{l1 l2:List α}{x y:α}{k:Nat}(h:l1.length=k):(l1++x::l2).set k y=l1++y::l2:=by
 subst h;simp
theorem Aj.mF{c:Code}{Q:Exit->Env->Ac->Nat->Prop}{f:Env}{nx:Nat}(a s:Nat)(l:JT)(k:Nat)(y:Value×List Int)(hk:l[k]?=some y)(ha:look σ a=some (.cells Ta 1 (AH l)))(g:look σ s=some (.sld T (sI l)))
 (h:Aj P TB U N c Q f ((a,.cells Ta 1 ((AH l).set k [.arr nx 1 0 y.2.length]))::(nx,.cells T 1 (Mf y.2))::(s,.sld T (sI (l.eraseIdx k)))::σ) (nx+1)):Aj P TB U N c Q f σ nx:=by
 obtain⟨b,i⟩:=PZ hk;obtain⟨v,xs⟩:=y
 have e:AH l=AH (l.take k)++[.d (.v v)]::AH (l.drop (k+1)):=by
  have:=congrArg AH b;rw[AW]at this;exact this
 refine Aj.take a s (AH (l.take k)) (AH (l.drop (k+1))) v xs (l.take k) (l.drop (k+1)) (by rw[<-e];exact ha) (by rw[<-b];exact g) ?_
 have m:(AH l).set k [.arr nx 1 0 xs.length]=AH (l.take k)++[.arr nx 1 0 xs.length]::AH (l.drop (k+1)):=by
  rw[e,T7 (by rw[CL,i])]
 have j:l.eraseIdx k=l.take k++l.drop (k+1):=uF ..;rw[m,j]at h;exact h
theorem Aj.putAt{c:Code}{Q:Exit->Env->Ac->Nat->Prop}{f:Env}{nx:Nat}(a i s:Nat)(l:JT)(k:Nat)(y:Value×List Int)(hk:l[k]?=some y)(xs:List Int)(ha:look σ a=some (.cells Ta 1 ((AH l).set k [.arr i 1 0 xs.length])))(hi:look σ i=some (.cells T 1 (Mf xs)))(b:look σ s=some (.sld T (sI (l.eraseIdx k))))
 (h:∀v,Aj P TB U N c Q f ((a,.cells Ta 1 (AH (l.set k (v,xs))))::(s,.sld T (sI (l.set k (v,xs))))::kill i σ) nx):Aj P TB U N c Q f σ nx:=by
 obtain⟨g,e⟩:=PZ hk
 have n:AH l=AH (l.take k)++[.d (.v y.1)]::AH (l.drop (k+1)):=by
  have:=congrArg AH g;rw[AW]at this;exact this
 rw[n,T7 (by rw[CL,e])]at ha;rw[show l.eraseIdx k=l.take k++l.drop (k+1) from uF ..]at b;refine Aj.put a i s (AH (l.take k)) (AH (l.drop (k+1))) xs (l.take k) (l.drop (k+1)) ha hi b λv=>?_
 have j:l.set k (v,xs)=l.take k++(v,xs)::l.drop (k+1):=by
  have this:l.set k (v,xs)=(l.take k++y::l.drop (k+1)).set k (v,xs):=congrArg (λm=>List.set m k (v,xs)) g;rw[this,T7 e]
 have:=h v;rw[j,AW]at this;exact this
theorem Bd.Bj{g:FuncId}{m nx:Nat}{args:List E}{post:E->Ac->Nat->Prop}
 (h:Bd P TB g m σ nx args (λx d c=>∃(l:List Nat) (x':E) (a:Ac),((∀i,i<m->l[i]?=some i)/\l.Nodup)/\x=x'.Bj (nm l c)/\A7 (nm l c) d a/\post x' a l.length)):Bd P TB g m σ nx args post:=
 ⟨h.1, λV vs S n ha=>(h.2 V vs S n ha).mono λe w' ⟨V',v,x,σ',w,u,s,r,l,x',a,j,q,p,o⟩=>by
  have k:CG TB (HQ V (Tt V m) σ S) 1 V' (look [(0,x)]) σ' V'.nx { tmps:=#[v],defers:=[] } := by
   refine⟨λt y b=>?_,λt y b=>?_,rfl,s,rfl,rfl⟩
   ·rw[AG]at b
    by_cases ht:0=t
    ·rw[if_pos ht]at b;injection b with b;subst b;subst ht;exact r
    ·rw[if_neg ht]at b;cases b
   ·rw[AG]at b
    by_cases ht:0=t
    ·subst ht;exact Nat.zero_lt_one
    ·rw[if_neg ht]at b;cases b
  obtain⟨V'',z,f⟩:=k.Bj l [(0,x')] a j.1 j.2 ⟨by rw[<-q];rfl,trivial⟩ p;refine⟨V'',v,x',a,w,z.trans u,f.inv,f.env 0 x' rfl,?_⟩
  rw[f.nx];exact o⟩
theorem Fc{m:Nat}{σ σ':Ac}(i:Nat)(a:m=2 ^ i)(h:look σ' i=look σ i):Kept m σ σ':=λid hb=>by
 subst a;rw[sJ]at hb;have:i=id:=of_decide_eq_true hb;subst this;exact h
theorem KE{m:Nat}{σ σ':Ac}(i j:Nat)(a:m=2 ^ i ||| 2 ^ j)(h:look σ' i=look σ i)(b:look σ' j=look σ j):Kept m σ σ':=λid hb=>by
 subst a;rw[sD,qW,sJ,sJ,decide_eq_true_eq,decide_eq_true_eq]at hb
 rcases hb with hb|hb
 ·subst hb;exact h
 ·subst hb;exact b
theorem Mm{l1 l2:JT}{c:C}{k:Nat}(h:l1.length=k):(AH l1++[c]::AH l2)[k]?=some [c]:=by
 subst h;rw[io (by rw[CL];exact lc _),CL];simp
theorem eR [j:C1 P] {g:FuncId} {fn:Func} {c:Code} {nx:Nat} {args:List E} {post:E->Ac->Nat->Prop} (f:P.funcs[g]?=some fn) (hb:fn.body=some c) (a:(fn.name == "runtime.NumGoroutine")=false)
 (ha:Nat.ble args.length fn.ntmps=true) (h:∀U:Ctx,U.V.nx=nx->Aj P TB U fn.ntmps c (dC j.T fn.results (λx e d=>∃(l:List Nat) (x':E) (b:Ac),((∀i,i<nx->l[i]?=some i)/\l.Nodup)/\x=x'.Bj (nm l d)/\A7 (nm l d) e b/\post x' b l.length)) (look (Cw 0 args)) σ nx):Spec P TB g σ nx args post:=
 Bd.ie (Bd.Bj (Bd.Ui (lc _) f hb a (ce ha) h))
end
theorem cN:(∀(r:Nat->Nat) (l:JT),(AH l).map (C.Cp r)=AH l)/\(∀(α:Type) (b:Bool) (x y:α),(bif b then x else y)=if b=true then x else y)/\∀a b:Nat,(Nat.beq a b=true)=(a=b):=
 ⟨VP,λ_ b _ _=>by cases b<;>rfl,λ_ _=>Nat.beq_eq⟩
section
variable {P:Program}{TB:BJ}{U:Ctx}{d:Option Tmp}{ty:TypeId}{pos:String}{af:Array Edge}{g:Option (Nat×Bool)}{f:Env}{σ:Ac}{nx:Nat}
end
abbrev oJ(r:Nat):C:=.d (.v (.pointer (some ⟨r,0,none⟩)))
inductive CH (i r:Nat):C->C->Prop
 | A0 {c:C}:CH i r c c
 | ptr {k:Nat}:CH i r (.ptr i k 0 0) (oJ r)
 | mv {gg:FuncId} {k:Nat}:CH i r (.mv gg [.ptr i k 0 0]) (.mv gg [oJ r])
inductive LH (i r:Nat):List C->List C->Prop
 | nil:LH i r [] []
 | cons {c c':C} {l l':List C}:CH i r c c'->LH i r l l'->LH i r (c::l) (c'::l')
inductive EH (i r:Nat):E->E->Prop
 | A0 {e:E}:EH i r e e
 | o {c c':C}:CH i r c c'->EH i r (.o c) (.o c')
 | a {l l':List C}:LH i r l l'->EH i r (.a l) (.a l')
section
variable {P:Program}{tabs:List (Nat×Obj)}{U:Ctx}{N:Nat}{σ:Ac}
end
end Go.Am
namespace Go.Am
open Go Go.Proofs
set_option maxHeartbeats 1000000
set_option maxRecDepth 4000
attribute [local irreducible] A5 Ck Lex Br Aj Spec
variable {TB:BJ}
abbrev df(n:UInt8):List D:=[.v (.int .u8 n.toNat)]
abbrev aO(l:List UInt8):D:=.l (l.map df)
abbrev Bb(b:List UInt8)(p:Int):O:=.cells 98 2 [[.d (aO b),.d (iD p)]]
theorem eE{a b:Nat}(ha:a<2 ^ 62)(hb:b<2 ^ 62):Xv .i64 a b=((a ^^^ b:Nat):Int):=by
 unfold Xv
 have d:(BitVec.ofInt IntKind.i64.bits (a:Int)).toNat=a:=by
  rw[BitVec.toNat_ofInt];have:IntKind.i64.bits=64:=rfl;rw[this];omega
 have c:(BitVec.ofInt IntKind.i64.bits (b:Int)).toNat=b:=by
  rw[BitVec.toNat_ofInt];have:IntKind.i64.bits=64:=rfl;rw[this];omega
 rw[BitVec.toNat_xor,d,c];have e:a ^^^ b<2 ^ 62:=Nat.xor_lt_two_pow ha hb;exact IntWalk.i64_in _ (by omega)
theorem iY{x y:Int}(d:0<=x/\x<4611686018427387904)(c:0<=y/\y<4611686018427387904):0<=Xv .i64 x y/\Xv .i64 x y<4611686018427387904:=by
 obtain⟨a,rfl⟩:∃a:Nat,x=a:=⟨x.toNat,by omega⟩
 obtain⟨b,rfl⟩:∃b:Nat,y=b:=⟨y.toNat,by omega⟩
 rw[eE (by omega) (by omega)];have e:a ^^^ b<2 ^ 62:=Nat.xor_lt_two_pow (by omega) (by omega);omega
theorem XB(b:List UInt8)(hb:b.length<=9223372036854775807):∃b':List UInt8,b'.length<=2000/\Bd Tryz.prog TB 28 0 [] 0 [.o (.d (aO b))] (λx σ nx=>x=.o (.ptr 0 2 0 0)/\σ=[(0,Bb b' 0)]/\nx=1):=by
 by_cases h:b.length<=2000
 ·refine⟨b,h,?_⟩
  refine Bd.Ui (m:=0) (ce rfl) Tryz.func28 rfl (by kernel_rfl) (ce rfl) ?_;intro U c;(repeat first|refine sN rfl ?_|refine tX rfl ?_|refine s2 rfl λ_ a=>?_|refine aU rfl ?_|apply Aa)
  ((refine aC rfl ?_ ?_<;>rintro⟨⟩);all_goals try (simp at a;done))
  ·exfalso;(simp only[oZ] at *;omega)
  apply aK;(repeat first|refine tX rfl ?_|(refine Al rfl ?_;refine gA rfl ?_;first|refine gS (λ_ _=>AS rfl rfl (by rfl) (by rfl)) ?_)|refine aU rfl ?_);(refine pW rfl ?_ rfl (by rfl);refine KG rfl rfl ?_);(repeat first|refine tX rfl ?_|apply Aa);refine aR ⟨_,rfl,rfl,rfl,rfl⟩
 ·refine⟨b.take 2000,by simp;omega,?_⟩
  have e:(b.map df).take (2000:Int).toNat=(b.take 2000).map df:=by simp[uQ]
  refine Bd.Ui (m:=0) (ce rfl) Tryz.func28 rfl (by kernel_rfl) (ce rfl) ?_;intro U c;(repeat first|refine sN rfl ?_|refine tX rfl ?_|refine s2 rfl λ_ a=>?_|refine aU rfl ?_|apply Aa)
  ((refine aC rfl ?_ ?_<;>rintro⟨⟩);all_goals try (simp at a;done))
  ·(repeat first|refine tX rfl ?_|(refine Al rfl ?_;refine gA rfl ?_;first|refine gS (λ_ _=>OY rfl rfl (by simp) (by omega) (by simp;omega)) ?_)|refine aU rfl ?_|apply Aa)
   rw[e];(repeat first|(refine Al rfl ?_;refine gA rfl ?_;first|refine gS (λ_ _=>AS rfl rfl (by rfl) (by rfl)) ?_));(refine pW rfl ?_ rfl (by rfl);refine KG rfl rfl ?_);(repeat first|refine tX rfl ?_|apply Aa);refine aR ⟨_,rfl,rfl,rfl,rfl⟩
  ·exfalso;(simp only[oZ] at *;omega)
theorem A4(b:List UInt8)(hb:b.length<=2000)(p n:Int)(K:0<=p/\p<1000000000):∃k:Int,0<=k/\(k=0\/k<n)/\Spec Tryz.prog TB 46 [(0,Bb b p)] 1 [.o (.ptr 0 2 0 0),eI .i64 n] (λx σ nx=>x=eI .i64 k/\σ=[(0,Bb b (p+1))]/\nx=1):=by
 by_cases I:n<1\/b.length=0
 ·refine⟨0,by omega,.inl rfl,?_⟩
  refine eR Tryz.func46 rfl (by kernel_rfl) rfl ?_;intro U a;(repeat' first|refine sN rfl ?_|(refine sA rfl ?_ ?_;first|exact tI|omega|simp only[oZ] at *;omega)|refine s2 rfl λ_ e=>?_|refine s3 rfl ?_ ?_<;>rintro rfl|refine aU rfl ?_|apply Aa|refine rE (by kernel_rfl) ?_|(refine aC rfl ?_ ?_<;>rintro⟨⟩)|apply aK|apply aE|apply aB|refine aR ⟨_,rfl,?_⟩)
  all_goals first
   | (exfalso;(simp only[oZ] at *;omega);done)
   | refine⟨[0],eI .i64 0,[(0,Bb b (p+1))],⟨by first|(simp;done)|decide|(intro i hi;match i with|0=>rfl),by decide⟩,rfl,by (simp[cX,zC,a]),rfl,rfl,rfl⟩
 have J:0<b.length:=by omega
 have q:0<n:=by omega
 by_cases hp:p<b.length
 ·obtain⟨c,m⟩:=get_some (l:=b) (k:=(p+1-1).toNat) (by omega)
  have j:=get_map (g:=df) m;have h:=c.toNat_lt;refine⟨(c.toNat:Int)%n,rN _ (by omega),.inr (rA _ q),?_⟩;refine eR Tryz.func46 rfl (by kernel_rfl) rfl ?_;intro U a;(repeat' first|refine sN rfl ?_|(refine sA rfl ?_ ?_;first|exact tI|omega)|(refine s4 rfl ‹_› rfl ?_ ?_;omega)|refine s2 rfl λ_ e=>?_|refine s3 rfl ?_ ?_<;>rintro rfl|refine aU rfl ?_|apply Aa|refine rE (by kernel_rfl) ?_|(refine aC rfl ?_ ?_<;>rintro⟨⟩)|apply aK|apply aE|apply aB|refine aR ⟨_,rfl,?_⟩)
  all_goals first
   | (exfalso;(simp only[oZ] at *;omega);done)
   | refine⟨[0],_,[(0,Bb b (p+1))],⟨by first|(simp;done)|decide|(intro i hi;match i with|0=>rfl),by decide⟩,rfl,by (simp[cX,zC,a]),rfl,rfl,rfl⟩
 ·have f:(0:Int)<b.length:=by omega
  have H:=rN (p+1-1) (show (b.length:Int)≠0 by omega);have G:=rA (p+1-1) f;have F:=rN ((p+1-1)*7+3) (show (b.length:Int)≠0 by omega);have B:=rA ((p+1-1)*7+3) f;obtain⟨c,m⟩:=get_some (l:=b) (k:=((p+1-1)%(b.length:Int)).toNat) (by omega);have j:=get_map (g:=df) m;have h:=c.toNat_lt;obtain⟨d,u⟩:=get_some (l:=b) (k:=(((p+1-1)*7+3)%(b.length:Int)).toNat) (by omega);have t:=get_map (g:=df) u;have s:=d.toNat_lt;have A:0<=(p+1-1) / (b.length:Int):=sx (by omega) (by omega);have z:(p+1-1) / (b.length:Int)<=p+1-1:=s7 _ (by omega)
  obtain⟨x,r⟩:∃x,x=(c.toNat:Int)*131+(d.toNat:Int)*1117+(p+1-1)*29+(p+1-1) / (b.length:Int)*53:=⟨_,rfl⟩
  have w:0<=x/\x<1000000000000:=by omega
  have v:=iY (x:=x) (y:=x / 64) (by omega) (by omega);refine⟨Xv .i64 x (x / 64)%n,rN _ (by omega),.inr (rA _ q),?_⟩;refine eR Tryz.func46 rfl (by kernel_rfl) rfl ?_;intro U a;(repeat' first|refine sN rfl ?_|(refine sA rfl ?_ ?_;first|exact tI|omega)|(refine s4 rfl ‹_› rfl ?_ ?_;omega)|(refine s2 rfl λ_ e=>?_;try (simp only[r5,r6]at e;subst e))|(refine Al rfl ?_;refine gA rfl ?_;first|refine gS (λ_ _=>oI rfl rfl rfl) ?_)|refine s3 rfl ?_ ?_<;>rintro rfl|refine aU rfl ?_|apply Aa|refine rE (by kernel_rfl) ?_|(refine aC rfl ?_ ?_<;>rintro⟨⟩)|apply aK|refine aR ⟨_,rfl,?_⟩|(rw[<-r]))
  all_goals first
   | (exfalso;(simp only[oZ] at *;omega);done)
   | refine⟨[0],_,[(0,Bb b (p+1))],⟨by first|(simp;done)|decide|(intro i hi;match i with|0=>rfl),by decide⟩,rfl,by (simp[cX,zC,a]),rfl,rfl,rfl⟩
theorem CP(b:List UInt8)(hb:b.length<=2000)(p:Int)(m:0<=p/\p<1000000000)(l:List Int)(s:0<l.length)(j:l.length<1000000):∃k∈l,Spec Tryz.prog TB 88 [(0,Bb b p)] 1 [.o (.ptr 0 2 0 0),Ak l] (λx σ nx=>x=eI .i64 k/\σ=[(0,Bb b (p+1))]/\nx=1):=by
 obtain⟨k,r,q,h⟩:=A4 (TB:=TB) b hb p l.length m;obtain⟨x,c⟩:=get_some (l:=l) (k:=k.toNat) (by omega);have f:=get_map (g:=Bc) c;refine⟨x,co c,?_⟩;refine eR Tryz.func88 rfl (by kernel_rfl) rfl ?_;intro U a;(repeat first|refine sN rfl ?_|refine tA rfl ?_|refine aU rfl ?_|apply Aa);(refine pW rfl ?_ rfl (by rfl);refine Ag [0] rfl rfl (h) ⟨rfl,by decide,by decide⟩ rfl (by simp[cX,zC,a]) ?_;rintro n d e ⟨rfl,rfl,rfl⟩ _);(repeat first|refine tA rfl ?_|(refine s4 rfl ‹_› rfl ?_ ?_;omega)|apply Aa);refine aR ⟨_,rfl,?_⟩;refine⟨[0],_,[(0,Bb b (p+1))],⟨by first|(simp;done)|decide|(intro i hi;match i with|0=>rfl),by decide⟩,rfl,by (simp[cX,zC,a]),rfl,rfl,rfl⟩
theorem kF(b:List UInt8)(hb:b.length<=2000)(p:Int)(m:0<=p/\p<1000000000)(l:List W)(s:0<l.length)(j:l.length<1000000):∃k∈l,Spec Tryz.prog TB 109 [(0,Bb b p)] 1 [.o (.ptr 0 2 0 0),Cb l] (λx σ nx=>x=eT k/\σ=[(0,Bb b (p+1))]/\nx=1):=by
 obtain⟨k,r,q,h⟩:=A4 (TB:=TB) b hb p l.length m;obtain⟨x,c⟩:=get_some (l:=l) (k:=k.toNat) (by omega);have f:=get_map (g:=Dv) c;refine⟨x,co c,?_⟩;refine eR Tryz.func109 rfl (by kernel_rfl) rfl ?_;intro U a;(repeat first|refine sN rfl ?_|refine tA rfl ?_|refine aU rfl ?_|apply Aa);(refine pW rfl ?_ rfl (by rfl);refine Ag [0] rfl rfl (h) ⟨rfl,by decide,by decide⟩ rfl (by simp[cX,zC,a]) ?_;rintro n d e ⟨rfl,rfl,rfl⟩ _);(repeat first|refine tA rfl ?_|(refine s4 rfl ‹_› rfl ?_ ?_;omega)|apply Aa);refine aR ⟨_,rfl,?_⟩;refine⟨[0],_,[(0,Bb b (p+1))],⟨by first|(simp;done)|decide|(intro i hi;match i with|0=>rfl),by decide⟩,rfl,by (simp[cX,zC,a]),rfl,rfl,rfl⟩
abbrev bt(al:Int)(i j:Nat)(n m:Nat):E:=.a [.d (iD al),.arr i 1 0 n,.arr j 1 0 m]
def Uo(b:List UInt8)(al p n:Int)(x:E)(σ:Ac)(nx:Nat):Prop:=∃(p':Int) (l:JT) (ac:List Bool),(p<=p'/\p'<=p+7*n)/\(l.length:Int)=n/\ac.length=l.length/\(∀x∈l,x.2.length=(Ab al).length)/\
 x=bt al 1 2 l.length ac.length/\σ=[(0,Bb b p'),(1,.cells 63 1 (AH l)),(2,.cells 4 1 (ac.map AO)),(3,.sld 3 (sI l))]/\nx=4
theorem NV(b:List UInt8)(hb:b.length<=2000)(p:Int)(Q:0<=p/\p<900000000)(al n:Int)(P:0<=n/\n<1000):Bd Tryz.prog TB 107 1 [(0,Bb b p)] 1 [.o (.ptr 0 2 0 0),eI .i64 al,eI .i64 n] (Uo b al p n):=by
 have K:(Ab al).length<=6:=AJ al 6;refine Bd.Bj (Bd.Ui (m:=1) (ce rfl) Tryz.func107 rfl (by kernel_rfl) (ce rfl) ?_);intro U a;(repeat first|refine tA rfl ?_|refine aU rfl ?_|apply Aa);(refine pW rfl ?_ rfl (by rfl);refine Nn 1 1 63 2 1 4 rfl rfl (by decide) rfl rfl (by rfl) (by rfl) ?_);(repeat first|refine sN rfl ?_|refine tA rfl ?_|refine sP rfl (BX al) rfl ?_|refine aU rfl ?_|apply Aa);apply aB;refine Aj.jU 3 ?_;refine aL (α:={s:Nat×Int×JT×List Bool // (s.1:Int)<=n/\(p<=s.2.1/\s.2.1<=p+7*s.1)/\s.2.2.1.length=s.1/\s.2.2.2.length=s.1/\∀x∈s.2.2.1,x.2.length=(Ab al).length}) [0,2,6,7,8] [1] rfl rfl (λs=>[(9,eI .i64 s.1.1)]) (λs=>[(0,Bb b s.1.2.1),(2,.cells 63 1 (AH s.1.2.2.1)),(3,.cells 4 1 (s.1.2.2.2.map AO)),(4,.cells 29 3 [[.d (iD al),.arr 2 1 0 s.1.2.2.1.length,.arr 3 1 0 s.1.2.2.2.length]]),(5,.sld 3 (sI s.1.2.2.1))]) 6 (λs=>n.toNat-s.1.1) (⟨⟨0,p,[],[]⟩,by simp;omega⟩) a rfl (by (simp[cX,zC,a]<;>rfl)) ?_;rintro⟨⟨k,q,l,ac⟩,hk,F,G,t,A⟩;(try dsimp only[cA,cB]);have hk:(k:Int)<=n:=hk;have F:p<=q/\q<=p+7*k:=F;have G:l.length=k:=G;have t:ac.length=k:=t;(repeat first|refine tM rfl ?_|refine s2 rfl λ_ e=>?_|refine aU rfl ?_|apply Aa)
 ((refine aC rfl ?_ ?_<;>rintro⟨⟩);all_goals try (simp at e;done))
 ·have J:(k:Int)<n:=by (simp only[oZ] at *;omega)
  apply aK;refine aS (aB ?_);(repeat first|refine aU rfl ?_);(refine pW rfl ?_ rfl (by rfl);refine A8 rfl rfl rfl rfl (by simp) (by rfl) (by rfl) (by rfl) (by rfl) ?_);(repeat first|refine tX rfl ?_|refine aU rfl ?_|apply Aa);apply aB;refine aL (α:={s:Nat×Int×List Int // s.1<=(Ab al).length/\(q<=s.2.1/\s.2.1<=q+s.1)/\s.2.2.length=s.1}) [0,2,6,7,8,9] [1,2,3,4,5] rfl rfl (λs=>[(10,.o (.arr 6 1 0 s.1.2.2.length)),(11,eI .i64 s.1.1)]) (λs=>[(0,Bb b s.1.2.1),(6,.cells 3 1 (s.1.2.2.map Av))]) 7 (λs=>(Ab al).length-s.1.1) (⟨⟨0,q,[]⟩,by simp⟩) a rfl (by (simp[cX,zC,a,VP])) ?_;rintro⟨⟨j,u,xs⟩,H,B,g⟩;(try dsimp only[cA,cB]);have H:j<=(Ab al).length:=H;have B:q<=u/\u<=q+j:=B;have g:xs.length=j:=g;(repeat first|refine tM rfl ?_|refine s2 rfl λ_ e=>?_|refine aU rfl ?_|apply Aa)
  ((refine aC rfl ?_ ?_<;>rintro⟨⟩);all_goals try (simp at e;done))
  ·obtain⟨c,N,M,hp⟩:=A4 (TB:=TB) b hb u n (by omega)
   apply aK;refine aS (aB ?_);(repeat first|refine tA rfl ?_|refine aU rfl ?_);(refine pW rfl ?_ rfl (by rfl);refine Ag [0] rfl rfl (hp) ⟨rfl,by decide,by decide⟩ rfl (by simp[cX,zC,a]) ?_;rintro I w y ⟨rfl,rfl,rfl⟩ _);(repeat first|refine tA rfl ?_);(refine pW rfl ?_ rfl (by rfl);refine Au rfl rfl rfl (by first|(simp;done)|(simp;(omega))) rfl (by intro r f;simp at f;subst f;rfl) (by rfl) (ce rfl) (by simp;omega) ?_);(repeat first|(refine sA rfl ?_ ?_;first|exact tI|omega)|refine aU rfl ?_|apply Aa);refine⟨⟨⟨j+1,u+1,xs++[c]⟩,by simp;(simp only[oZ] at *;omega)⟩,by dsimp only;((simp only[oZ] at *;omega)),[0,1,2,3,4,5,7],?_⟩;(simp[cX,zC,a,cN]<;>rfl)
  ·obtain rfl:j=(Ab al).length:=by (simp only[oZ] at *;omega)
   obtain⟨c,N,M,hp⟩:=A4 (TB:=TB) b hb u 3 (by omega);apply aE;(repeat first|refine tX rfl ?_|refine aU rfl ?_);(refine pW rfl ?_ rfl (by rfl);refine A8 rfl rfl rfl rfl (by simp[eC]) (by rfl) (by rfl) (by rfl) (by rfl) ?_);(refine pW rfl ?_ rfl (by rfl);refine Au rfl rfl rfl (CL _) rfl (by intro r f;simp at f;subst f;rfl) (by rfl) (ce rfl) (by simp;omega) ?_);(repeat first|refine tX rfl ?_|apply Aa);refine Aj.X8 8 6 5 l xs rfl rfl rfl λv=>?_;refine rG (Jp [(1,14),(3,1016),(6,1),(8,1)]) (by kernel_rfl) ?_;(repeat first|refine tA rfl ?_);(refine Al rfl ?_;refine CW ?_ rfl ⟨rfl,rfl⟩;refine Ag [0] rfl rfl (hp) ⟨rfl,by decide,by decide⟩ rfl (by simp[cX,zC,a,cN]) ?_;rintro I w y ⟨rfl,rfl,rfl⟩ _;refine⟨Fc 4 rfl rfl,?_⟩);(repeat first|refine tA rfl ?_|refine s2 rfl λ_ e=>?_);(refine pW rfl ?_ rfl (by rfl);refine Au rfl rfl rfl (by first|(simp;done)|(simp;(omega))) rfl (by intro r f;simp at f;subst f;rfl) (by rfl) (ce rfl) (by simp;omega) ?_);(repeat first|(refine sA rfl ?_ ?_;first|exact tI|omega)|refine aU rfl ?_|apply Aa);subst e
   have z:∀x∈l++[(v,xs)],x.2.length=(Ab al).length:=λx h=>by
    rcases gc.1 h with h|h
    ·exact A x h
    ·simp at h;subst h;exact g
   refine⟨⟨⟨k+1,u+1,l++[(v,xs)],ac++[decide (c > 0)]⟩,by dsimp only;omega,by dsimp only;omega,by simp;omega,by simp;omega,z⟩,by dsimp only;(omega),[0,1,8,9,4,5],?_⟩;(simp[cX,zC,a,cN]<;>rfl)
 ·have L:(k:Int)=n:=by (simp only[oZ] at *;omega)
  apply aE;(repeat first|refine tA rfl ?_|refine aU rfl ?_|apply Aa);refine aR ⟨_,rfl,[0,2,3,5],bt al 1 2 l.length ac.length,[(0,Bb b q),(1,.cells 63 1 (AH l)),(2,.cells 4 1 (ac.map AO)),(3,.sld 3 (sI l))],⟨by intro i hi;match i with|0=>rfl,by decide⟩,rfl,by (simp[cX,zC,a,cN]),q,l,ac,by omega,by omega,by omega,A,rfl,rfl,rfl⟩
theorem Nj(b:List UInt8)(hb:b.length<=2000)(p:Int)(P:0<=p/\p<900000000)(al n:Int)(S:1<=n/\n<1000):Bd Tryz.prog TB 106 1 [(0,Bb b p)] 1 [.o (.ptr 0 2 0 0),eI .i64 al,eI .i64 n] (Uo b al p n):=by
 have J:(Ab al).length<=6:=AJ al 6;refine Bd.Bj (Bd.Ui (m:=1) (ce rfl) Tryz.func106 rfl (by kernel_rfl) (ce rfl) ?_);intro U a;(repeat first|refine tA rfl ?_|refine aU rfl ?_|apply Aa);(refine pW rfl ?_ rfl (by rfl);refine BY [0] rfl rfl 1 (NV b hb p P al n (by omega)) (by decide) ⟨rfl,by decide,by decide⟩ rfl (by simp[cX,zC,a]) ?_;rintro Q H I ⟨q,l,ac,R,T,L,F,rfl,rfl,rfl⟩ _);(repeat first|refine tA rfl ?_|refine aU rfl ?_|apply Aa);apply aB;refine aL (α:={s:Nat×List Bool // (s.1:Int)<=n/\s.2.length=l.length}) [2,6,7] [1] rfl rfl (λs=>[(8,eI .i64 s.1.1)]) (λs=>[(0,Bb b q),(2,.cells 63 1 (AH l)),(4,.sld 3 (sI l)),(3,.cells 4 1 (s.1.2.map AO)),(5,.cells 29 3 [[.d (iD al),.arr 2 1 0 l.length,.arr 3 1 0 s.1.2.length]])]) 6 (λs=>n.toNat-s.1.1) (⟨⟨0,ac⟩,by simp;omega⟩) a rfl (by (simp[cX,zC,a,cN])) ?_;rintro⟨⟨k,bc⟩,hk,r⟩;(try dsimp only[cA,cB]);have hk:(k:Int)<=n:=hk;have r:bc.length=l.length:=r;(repeat first|refine tM rfl ?_|refine s2 rfl λ_ e=>?_|refine aU rfl ?_|apply Aa)
 ((refine aC rfl ?_ ?_<;>rintro⟨⟩);all_goals try (simp at e;done))
 ·have z:(k:Int)<n:=by (simp only[oZ] at *;omega)
  obtain⟨c,B⟩:=get_some (l:=bc) (k:=0+(k:Int).toNat) (by omega);have A:=get_map (g:=AO) B;apply aK;refine aS (aB ?_);(repeat first|(refine sA rfl ?_ ?_;first|exact tI|omega)|refine t4 rfl ‹_› rfl ?_|refine s2 rfl λ_ e=>?_|refine aU rfl ?_|apply Aa);subst e;refine⟨⟨⟨k+1,bc.set k (decide ((k:Int)<n-1))⟩,by dsimp only;omega,by simp;omega⟩,by dsimp only;(omega),[0,1,2,3,4,5],?_⟩;(simp[cX,zC,a,cN,sh,Ae,eC]<;>rfl)
 obtain⟨K,N⟩:∃K:Nat,(K:Int)=n-1:=⟨(n-1).toNat,by omega⟩
 obtain⟨y,u⟩:=get_some (l:=l) (k:=K) (by omega);apply aE;(repeat first|refine tA rfl ?_|refine aU rfl ?_|apply Aa);apply aB;refine Aj.mF 2 4 l K y u rfl rfl ?_;have t:y.2.length=(Ab al).length:=F y (co u)
 have M:((AH l).set K [.arr 6 1 0 y.2.length])[0+(n-1).toNat]?=some [.arr 6 1 0 y.2.length]:=by
  rw[<-N,ms,d8,rS (by rw[CL];omega)]
 refine aL (α:={s:Nat×List Int // s.1<=y.2.length/\s.2.length=y.2.length}) [2,6,7] [0,1,2,3,4,5] rfl rfl (λs=>[(9,eI .i64 s.1.1)]) (λs=>[(6,.cells 3 1 (s.1.2.map Av))]) 7 (λs=>y.2.length-s.1.1) (⟨⟨0,y.2⟩,by simp⟩) a rfl (by (simp[cX,zC,a,cN])) ?_;rintro⟨⟨j,ys⟩,G,f⟩;(try dsimp only[cA,cB]);have G:j<=y.2.length:=G;have f:ys.length=y.2.length:=f;(repeat first|(refine sA rfl ?_ ?_;first|exact tI|omega)|refine t4 rfl ‹_› rfl ?_|refine s2 rfl λ_ e=>?_|refine aU rfl ?_|apply Aa)
 ((refine aC rfl ?_ ?_<;>rintro⟨⟩);all_goals try (simp at e;done))
 ·have z:j<y.2.length:=by (simp only[oZ] at *;omega)
  obtain⟨c,B⟩:=get_some (l:=ys) (k:=0+(j:Int).toNat) (by omega);have A:=get_map (g:=Av) B;apply aK;refine aS (aB ?_);(repeat first|(refine sA rfl ?_ ?_;first|exact tI|omega)|refine t4 rfl ‹_› rfl ?_|refine aU rfl ?_|apply Aa);refine⟨⟨⟨j+1,ys.set j (n-1)⟩,by dsimp only;omega,by simp;omega⟩,by dsimp only;(omega),[0,1,2,3,4,5,6],?_⟩;(simp[cX,zC,a,cN,sh,Ae,eC]<;>rfl)
 apply aE;refine Aj.putAt 2 6 4 l K y u ys (by rw[f];rfl) rfl rfl λv=>?_;(repeat first|refine tA rfl ?_|refine aU rfl ?_|apply Aa)
 have w:∀x∈l.set K (v,ys),x.2.length=(Ab al).length:=λx h=>by
  rcases List.mem_or_eq_of_mem_set h with h|h
  ·exact F x h
  ·subst h;exact f.trans t
 refine aR ⟨_,rfl,[0,2,3,4],bt al 1 2 (l.set K (v,ys)).length bc.length,[(0,Bb b q),(1,.cells 63 1 (AH (l.set K (v,ys)))),(2,.cells 4 1 (bc.map AO)),(3,.sld 3 (sI (l.set K (v,ys))))],⟨by intro i hi;match i with|0=>rfl,by decide⟩,by rw[rx];rfl,by (simp[cX,zC,a,cN]),q,l.set K (v,ys),bc,by omega,by rw[rx];omega,by rw[rx];omega,w,rfl,rfl,rfl⟩
structure I9 (m:Nat) (a:AK):Prop where
 nx:a.nx.length<=m
 ac:a.ac.length<=m
 row:∀r∈a.nx,r.length<=m
def Jg(b:List UInt8)(p w:Int)(Q:AK->Prop)(x:E)(σ:Ac)(nx:Nat):Prop:=∃(p':Int) (a:AK),(p<=p'/\p'<=p+w)/\Q a/\x=Bh a/\σ=[(0,Bb b p')]/\nx=1
theorem TK{al:Int}{l:JT}{ac:List Bool}{n:Int}{m:Nat}(h:(l.length:Int)=n)(g:ac.length=l.length)(d:∀x∈l,x.2.length=(Ab al).length)(e:n<=m)(f:6<=m):I9 m ⟨al,l.map (·.2),ac⟩:=by
 have c:(Ab al).length<=6:=AJ al 6;refine⟨by simp;omega,by simp;omega,λr b=>?_⟩;obtain⟨x,a,rfl⟩:=d9.1 b;have:=d x a;omega
theorem HX(b:List UInt8)(hb:b.length<=2000)(p:Int)(G:0<=p/\p<800000000)(al:Int):Spec Tryz.prog TB 45 [(0,Bb b p)] 1 [.o (.ptr 0 2 0 0),eI .i64 al] (Jg b p 50 (λa=>a.al=al/\I9 6 a)):=by
 obtain⟨c,I,H,hp⟩:=A4 (TB:=TB) b hb p 2 (by omega);obtain⟨m,w,y⟩:=CP (TB:=TB) b hb (p+1) (by omega) [3,2,4,1] (by decide) (by decide);obtain⟨k,u,x⟩:=CP (TB:=TB) b hb (p+1) (by omega) [2,3,1,4,5] (by decide) (by decide)
 have v:1<=m/\m<=5:=by simp at w;omega
 have t:1<=k/\k<=5:=by simp at u;omega
 have B:=Nj (TB:=TB) b hb (p+1+1) (by omega) al m (by omega);have A:=NV (TB:=TB) b hb (p+1+1) (by omega) al k (by omega);refine eR Tryz.func45 rfl (by kernel_rfl) rfl ?_;intro U e;(repeat first|refine tA rfl ?_|refine aU rfl ?_|apply Aa);(refine pW rfl ?_ rfl (by rfl);refine Ag [0] rfl rfl (hp) ⟨rfl,by decide,by decide⟩ rfl (by simp[cX,zC,e]) ?_;rintro j f g ⟨rfl,rfl,rfl⟩ _);(repeat first|refine s2 rfl λ_ F=>?_|apply Aa);(refine aC rfl ?_ ?_<;>rintro⟨⟩)
 ·(repeat first|refine tA rfl ?_|refine aU rfl ?_)
  (refine pW rfl ?_ rfl (by rfl);refine Ag [0] rfl rfl (y) ⟨rfl,by decide,by decide⟩ rfl (by simp[cX,zC,e]) ?_;rintro j f g ⟨rfl,rfl,rfl⟩ _);(refine pW rfl ?_ rfl (by rfl);refine BY [0] rfl rfl 1 (B) (by decide) ⟨rfl,by decide,by decide⟩ rfl (by simp[cX,zC,e,cN]) ?_;rintro j f g ⟨q,l,ac,z,r,h,n,rfl,rfl,rfl⟩ _);(repeat first|refine tA rfl ?_|apply Aa);refine Aj.Ay [4] [] rfl rfl [] [(0,Bb b q),(1,.cells 29 3 [[.d (iD al),.arr 2 1 0 l.length,.arr 3 1 0 ac.length]]),(2,.cells 63 1 (AH l)),(3,.cells 4 1 (ac.map AO)),(4,.sld 3 (sI l))] [0,1,2,3,4] (rl e rfl) (by (simp[cX,zC,e,cN])) ?_;(try dsimp only[cA,cB]);refine Aj.AA [1,2,3,4] [(4,.o (.ip (AE ⟨al,l.map (·.2),ac⟩)))] ⟨⟨_,rfl,.inr (.o (.box rfl (.cons .d (.cons (.OB (s:=4) rfl rfl) (.cons (.full rfl (by simp[d5]) (by simp)) .nil)))))⟩,trivial⟩ ?_;refine aR ⟨_,rfl,[0],Bh ⟨al,l.map (·.2),ac⟩,[(0,Bb b q)],⟨by intro i hi;match i with|0=>rfl,by decide⟩,rfl,by (simp[cX,zC,e,cN]),q,_,by omega,⟨rfl,TK r h n (by omega) (by omega)⟩,rfl,rfl,rfl⟩
 ·apply aK
  (repeat first|refine tA rfl ?_|refine aU rfl ?_);(refine pW rfl ?_ rfl (by rfl);refine Ag [0] rfl rfl (x) ⟨rfl,by decide,by decide⟩ rfl (by simp[cX,zC,e]) ?_;rintro j f g ⟨rfl,rfl,rfl⟩ _);(refine pW rfl ?_ rfl (by rfl);refine BY [0] rfl rfl 1 (A) (by decide) ⟨rfl,by decide,by decide⟩ rfl (by simp[cX,zC,e,cN]) ?_;rintro j f g ⟨q,l,ac,z,r,h,n,rfl,rfl,rfl⟩ _);(repeat first|refine tA rfl ?_|apply Aa);refine Aj.Ay [4] [] rfl rfl [] [(0,Bb b q),(1,.cells 29 3 [[.d (iD al),.arr 2 1 0 l.length,.arr 3 1 0 ac.length]]),(2,.cells 63 1 (AH l)),(3,.cells 4 1 (ac.map AO)),(4,.sld 3 (sI l))] [0,1,2,3,4] (rl e rfl) (by (simp[cX,zC,e,cN])) ?_;(try dsimp only[cA,cB]);refine Aj.AA [1,2,3,4] [(4,.o (.ip (AE ⟨al,l.map (·.2),ac⟩)))] ⟨⟨_,rfl,.inr (.o (.box rfl (.cons .d (.cons (.OB (s:=4) rfl rfl) (.cons (.full rfl (by simp[d5]) (by simp)) .nil)))))⟩,trivial⟩ ?_;refine aR ⟨_,rfl,[0],Bh ⟨al,l.map (·.2),ac⟩,[(0,Bb b q)],⟨by intro i hi;match i with|0=>rfl,by decide⟩,rfl,by (simp[cX,zC,e,cN]),q,_,by omega,⟨rfl,TK r h n (by omega) (by omega)⟩,rfl,rfl,rfl⟩
def Ul(a:AK)(x:E)(σ:Ac)(nx:Nat):Prop:=∃l:JT,l.map (·.2)=a.nx/\
 x=bt a.al 0 1 l.length a.ac.length/\σ=[(0,.cells 63 1 (AH l)),(1,.cells 4 1 (a.ac.map AO)),(2,.sld 3 (sI l))]/\nx=3
theorem JZ(a:AK)(ha:I9 1000000 a):Bd Tryz.prog TB 79 0 [] 0 [Bh a] (Ul a):=by
 have t:=ha.nx;have q:=ha.ac;refine Bd.Bj (Bd.Ui (m:=0) (ce rfl) Tryz.func79 rfl (by kernel_rfl) (ce rfl) ?_);intro U b;(repeat first|refine tA rfl ?_|refine aU rfl ?_|apply Aa);refine R.RD [(0,2),(1,2),(3,2),(4,2),(7,3),(2,1),(5,1),(6,1),(8,5)] mixed (by kernel_rfl) rfl (by kernel_rfl) ?_;(repeat ((refine R.Al rfl ?_;first|(refine R.yQ (md:=false) rfl rfl rfl ?_ ?_;exact tI)|refine R.yP rfl rfl rfl rfl ?_ )));(refine R.Al rfl ?_;refine R.Mi (λ_=>?_) rfl rfl;refine A8 rfl rfl rfl rfl (by simp) (by rfl) (by rfl) (by rfl) (by rfl) ?_);(refine R.Al rfl ?_;refine R.Mi (λ_=>?_) rfl rfl;refine Au rfl rfl rfl (by simp) rfl (by intro r c;simp only[rL,d9]at c;obtain⟨_,_,rfl⟩:=c;rfl) (by rfl) (ce rfl) (by simp;omega) ?_);(refine R.Al rfl ?_;refine R.Mi (λ_=>?_) rfl rfl;refine Gd 1 1 63 rfl rfl rfl (by rfl) (by rfl) ?_);(repeat ((refine R.Al rfl ?_;first|refine R.yA rfl rfl rfl rfl ?_ )));refine R.Rz ?_;apply aS;(repeat first|refine tA rfl ?_|refine aU rfl ?_|apply Aa);apply aB;refine Aj.jU 3 ?_;refine aL (α:={s:Nat×JT // s.1<=a.nx.length/\s.2.map (·.2)=a.nx.take s.1}) [1,2,3] [] rfl rfl (λs=>[(4,eI .i64 s.1.1)]) (λs=>[(0,.cells 29 3 [[.d (iD 0),.d (.l []),.d (.l [])]]),(2,.cells 4 1 (a.ac.map AO)),(3,.cells 63 1 (AH s.1.2)),(4,.cells 29 3 [[.d (iD a.al),.arr 3 1 0 s.1.2.length,.arr 2 1 0 a.ac.length]]),(5,.sld 3 (sI s.1.2))]) 6 (λs=>a.nx.length-s.1.1) (⟨⟨0,[]⟩,by simp⟩) b rfl (by (simp[cX,zC,b,cN,BM,Ae,eC]<;>rfl)) ?_;rintro⟨⟨k,l⟩,hk,f⟩;(try dsimp only[cA,cB]);have hk:k<=a.nx.length:=hk;have f:l.map (·.2)=a.nx.take k:=f
 have e:l.length=k:=by have:=congrArg List.length f;simp at this;omega
 (repeat first|refine sN rfl ?_|refine tA rfl ?_|refine s2 rfl λ_ o=>?_|refine aU rfl ?_|apply Aa)
 ((refine aC rfl ?_ ?_<;>rintro⟨⟩);all_goals try (simp at o;done))
 ·have j:k<a.nx.length:=by (simp only[oZ] at *;omega)
  obtain⟨r,h⟩:=get_some (l:=a.nx) (k:=k) j;have p:=get_map (g:=Fb) h;have c:=ha.row r (co h);apply aK;refine aS (aB ?_);refine rG ⟨Gj [(1,14),(2,1016),(8,1016),(9,1016),(10,1),(12,1)],dr [0,1,3,4,5,6,7,2,8,9,10,11,12]⟩ (by kernel_rfl) ?_;(repeat first|refine tX rfl ?_|(refine s4 rfl ‹_› rfl ?_ ?_;omega));(refine Al rfl ?_;refine CW ?_ rfl ⟨rfl,rfl⟩;refine A8 rfl rfl rfl rfl (by simp) (by rfl) (by rfl) (by rfl) (by rfl) ?_;refine⟨Fc 4 rfl rfl,?_⟩);(refine Al rfl ?_;refine CW ?_ rfl ⟨rfl,rfl⟩;refine Au rfl rfl rfl (by simp) rfl (by intro r c;simp only[rL,d9]at c;obtain⟨_,_,rfl⟩:=c;rfl) (by rfl) (ce rfl) (by simp;omega) ?_;refine⟨Fc 4 rfl rfl,?_⟩);(refine Al rfl ?_;refine CW ?_ rfl ⟨rfl,rfl⟩;refine A8 rfl rfl rfl rfl (by simp[eC]) (by rfl) (by rfl) (by rfl) (by rfl) ?_;refine⟨Fc 4 rfl rfl,?_⟩);(refine pW rfl ?_ rfl (by rfl);refine Au rfl rfl rfl (CL _) rfl (by intro r c;simp at c;subst c;rfl) (by rfl) (ce rfl) (by simp;omega) ?_);(repeat first|refine tA rfl ?_);apply Aa;refine Aj.Ay [1,2,3,4] [] rfl rfl [] [(0,.cells 29 3 [[.d (iD 0),.d (.l []),.d (.l [])]]),(1,.cells 3 1 (r.map Av)),(2,.cells 4 1 (a.ac.map AO)),(3,.cells 63 1 (AH l++[[.arr 1 1 0 r.length]])),(4,.cells 29 3 [[.d (iD a.al),.arr 3 1 0 (l.length+1),.arr 2 1 0 a.ac.length]]),(5,.sld 3 (sI l))] [0,7,2,9,4,5] (rl b rfl) (by (simp[cX,zC,b,cN,BM,Ae,eC])) ?_;(try dsimp only[cA,cB]);refine Aj.X8 3 1 5 l r rfl rfl rfl λv=>?_;(repeat first|(refine sA rfl ?_ ?_;first|exact tI|omega)|refine aU rfl ?_|apply Aa);refine⟨⟨⟨k+1,l++[(v,r)]⟩,by dsimp only;omega,by dsimp only;rw[rI,f,i7,h];rfl⟩,by dsimp only;(omega),[0,1,2,3,4,5],?_⟩;(simp[cX,zC,b,cN]<;>rfl)
 have n:k=a.nx.length:=by (simp only[oZ] at *;omega)
 apply aE;(repeat first|refine tA rfl ?_|refine aU rfl ?_|apply Aa)
 have e:l.map (·.2)=a.nx:=by rw[f,n,i8]
 refine aR ⟨_,rfl,[3,2,5],bt a.al 0 1 l.length a.ac.length,[(0,.cells 63 1 (AH l)),(1,.cells 4 1 (a.ac.map AO)),(2,.sld 3 (sI l))],⟨by intro i hi;omega,by decide⟩,rfl,by (simp[cX,zC,b,cN]),l,e,rfl,rfl,rfl⟩
end Go.Am
namespace Go.Am
open Go
variable {TB:BJ}
section
variable {P:Program}{U:Ctx}{d:Option Tmp}{ty:TypeId}{pos:String}{af:Array Edge}{g:Option (Nat×Bool)}{f:Env}{σ:Ac}{nx:Nat}
theorem P8{t:TypeId}{z:List Value}{fl:List (Nat×Nat)}{parts:Array (Nat×Operand)}{es:List E}{qs:List (Nat×List C)}[Y:BN P t z][hf:EJ P t fl](R:KS f (parts.toList.map (·.2))=some es)(Z:Ge fl parts.toList es=some qs)
 (M:z.all Qn=true) (N:(qs.all λx=>Nat.ble (x.1+x.2.length) z.length)=true):A5 P TB U ⟨d,.build t parts,ty,pos,af,g⟩ f σ nx (.a (BM qs (z.map λv=>C.d (.v v)))):=
 AQ λV ρ h1 _=>by
  obtain⟨i,zv,hi,A,s⟩:=HF Y.out;have Q:=Dk (V:=V) (ρ:=ρ) parts.toList es qs (λx J e he=>h1.get (by simp only[Op.operands];simpa using J) he) R Z
  have I:Da V (z.map λv=>C.d (.v v)) zv.cells:=by
   refine⟨by rw[gt,<-s];simp,λj c v T S=>?_⟩;simp only[f6,d7]at T;obtain⟨u,k,rfl⟩:=T
   have:u=v:=by
    rw[<-s]at k;simp only[rY]at k;rw[k]at S;exact Option.some.inj S
   subst this;exact .d (.v (ge.1 M u (co k)))
  obtain⟨cells,G,h4⟩:=GR _ _ _ _ Q I (λx J=>by rw[gt];exact Jo _ _ N x J);have r:=hf.out
  have b:(parts.map λ(i,x)=>(i,ρ x)).toList=parts.toList.map λ(i,x)=>(i,ρ x):=by simp
  refine⟨.agg cells,?_,cells,rfl,h4⟩
  have hb : (Instr.build t (parts.map λ(i,x)=>(i,ρ x))).run P V.w=.ok (.agg cells) V.w:=by
   unfold nC at r;split at r
   ·rename_i fs k
    have L:∀(l:List Field) (ll:List (Nat×Nat)),(l.mapM λf=>(P.info? f.type).map λi=>(f.offset,i.size))=some ll->∀w,((l.mapM λf=>do pure (f.offset,<-sizeOf f.type)):Sem (List (Nat×Nat))).run P w=.ok ll w:=by
     intro l
     induction l with
     | nil=>intro ll h w;simp at h;subst h;simp[go_sem]
     | cons y l H=>
      intro ll h w;simp only[tC,uL,qY,d7]at h;obtain⟨p,⟨ii,o,rfl⟩,ll',h5,X⟩:=h;simp at X;subst X
      have K:(sizeOf y.type).run P w=.ok ii.size w:=by simp[sizeOf,typeInfo,o,go_sem]
      have ihh:=H ll' h5 w;simp only[bind_pure_comp]at ihh;simp only[tC,pu,K,lm,bind_pure_comp,tS,ihh]
    have B:=L fs.toList fl r V.w
    have m:(zeroValue t).run P V.w=.ok zv V.w:=by simp[zeroValue,typeInfo,hi,A,go_sem]
    have ha:((fs.mapM λf=>do pure (f.offset,<-sizeOf f.type)):Sem (Array (Nat×Nat))).run P V.w=.ok fl.toArray V.w:=by
     rw[ue,tS,B];rfl
    rw[<-b]at G;simp only[Instr.build,pu,m,lm,run_underlying k,ha];simp only[sf];rw[G];rfl
   ·rename_i n e k
    simp only[d7]at r;obtain⟨ii,o,rfl⟩:=r
    have m:(zeroValue t).run P V.w=.ok zv V.w:=by simp[zeroValue,typeInfo,hi,A,go_sem]
    have K:(sizeOf e).run P V.w=.ok ii.size V.w:=by simp[sizeOf,typeInfo,o,go_sem]
    have q:∀(ps:List (Nat×Value)) (c c':Array Value),Instr.fill (λi=>((List.range n).map λj=>(j*ii.size,ii.size))[i]?) c ps=some c'->Instr.fill (λi=>some (i*ii.size,ii.size)) c ps=some c':=by
     intro ps
     induction ps with
     | nil=>intro c c' h;simpa[Instr.fill]using h
     | cons p ps H=>
      intro c c' h;obtain⟨i',v'⟩:=p;unfold Instr.fill at h |-;by_cases F:i'<n
      ·simp only [f6,tL F,rM]at h
       simp only at h |-;split at h
       ·cases h
       ·rename_i hno
        rw[if_neg hno];exact H _ _ (by simpa only[f6]using h)
      ·simp[F]at h
    rw[<-b]at G;simp only[Instr.build,pu,m,lm,run_underlying k,K];rw[q _ _ _ G];rfl
   ·cases r
  show ((do let v <-Instr.build t (parts.map λ(i,x)=>(i,ρ x));pure (Go.Next.value v):Sem Go.Next)).run P V.w=_
  simp only[pu,hb,lm];rfl
end
theorem ZE{P:Program}{U:Ctx}{o:Oper}{L:List (Nat×E)}{σ:Ac}{nx:Nat}{K:E->Ac->Nat->Prop}{b:Option Addr}(t:Tmp)(j:look L t=some (.o (.d (.v (.slice b 0 0)))))(h:Ck P TB U o (look ((t,.e)::L)) σ nx K):Ck P TB U o (look L) σ nx K:=by
 intro V a i l k;refine h V a ?_ l k;intro t' e' f c;rw[AG]at c;by_cases g:t=t'
 ·subst g
  rw[if_pos rfl]at c
  injection c with c
  subst c;exact⟨b,AP.val (i t _ f j)⟩
 ·rw[if_neg g]at c
  exact i t' e' f c
theorem fN{P:Program}{U:Ctx}{ops:Array Oper}{fl:Fl}{i n:Nat}{L:List (Nat×E)}{σ:Ac}{nx:Nat}{K:Env->Ac->Nat->Prop}{op:Op}{ty:TypeId}{pos:String}{af:Array Edge}{g:Option (Nat×Bool)}
 (h:Ck P TB U ⟨none,op,ty,pos,af,g⟩ (look L) σ nx (λ_ σ' nx'=>Kept (fl i-1000) σ σ'/\Lex P TB U ops (Aw fl (i+1) n) K (look L) σ' nx')) (b:BB ops ⟨none,op,ty,pos,af,g⟩ (look L)=some true) (c:Nat.ble 10 (fl i)=true/\Nat.ble 1000 (fl i)=true):Br P TB U ops ⟨none,op,ty,pos,af,g⟩ fl i n K L σ nx:=
 λa=>ZO a b c h
end Go.Am
