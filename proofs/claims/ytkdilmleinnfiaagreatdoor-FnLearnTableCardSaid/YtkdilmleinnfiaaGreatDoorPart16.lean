/-
  Arrays of arrays of the call's own: the inner ones lie sealed, one of them at a time is taken out and put back.
-/
import Derived.Test.YtkdilmleinnfiaaGreatDoorPart15
import Derived.Test.YtkdilmleinnfiaaGreatDoorPart6
import Derived.Test.YtkdilmleinnfiaaGreatDoorPart14
import Derived.Test.YtkdilmleinnfiaaGreatDoorPart12
set_option linter.constructorNameAsVariable false
set_option linter.unusedSectionVars false
set_option linter.unusedSimpArgs false
set_option linter.unusedVariables false
namespace Go.Am
open Go
abbrev GV:=List (Value×List Int)
def sI(l:GV):List (Value×List Value):=l.map fun x=>(x.1,x.2.map (.int .i64))
def AA(l:GV):List (List C):=l.map fun x=>[.d (.v x.1)]
abbrev IC(xs:List Int):List (List C):=xs.map AB
theorem Wv{V:View}{i k off n:Nat}{v:Value}(h:AI V (.arr i k off n) v):(V.nl i∧off=0∧n=0∧v=.slice none 0 0)∨(¬V.nl i∧off+n≤V.cap i∧v=.slice (some ⟨V.ρ i,off*k,none⟩) n (V.cap i - off)):=by
 cases h with
 | nil _ h=>exact .inl ⟨h,rfl,rfl,rfl⟩
 | arr _ h1 h2=>exact .inr ⟨h1,h2,rfl⟩
theorem HO(l m:GV):sI (l++m)=sI l++sI m:=List.map_append
theorem AM(l m:GV):AA (l++m)=AA l++AA m:=List.map_append
theorem BW(l:GV):(AA l).length=l.length:=List.length_map _
theorem O6(r:Nat→Nat)(l:GV):(AA l).map (C.BA r)=AA l:=by
 unfold AA
 rw [List.map_map]
 rfl
theorem U0(l:List Int):(IC l).length=l.length:=List.length_map _
section
variable {P:Program}{TB:Bw}{Γ:Ctx}{N:Nat}{V:View}{σ:Ab}{a i s:Nat}{T Ta:TypeId}{R1 R2:List (List C)}{xs:List Int}{l1 l2:GV}
theorem Qs{l:GV}{x:Value×List Value}(h:x∈sI l):∃y∈l,x=(y.1,y.2.map (.int .i64)):=by
 obtain⟨y,hy,rfl⟩:=List.mem_map.1 h
 exact⟨y,hy,rfl⟩
theorem Inv.put(h:Inv TB Γ V σ)(ha:look σ a=some (.cells Ta 1 (R1++[.arr i 1 0 xs.length]::R2)))(hi:look σ i=some (.cells T 1 (IC xs)))(hs:look σ s=some (.sld T (sI (l1++l2)))) :
 ∃v,Inv TB Γ V ((a,.cells Ta 1 (R1++[.d (.v v)]::R2))::(s,.sld T (sI (l1++(v,xs)::l2)))::kill i σ):=by
 have has:a≠s:=fun e=>by rw [e,hs] at ha;cases ha
 have his:i≠s:=fun e=>by rw [e,hs] at hi;cases hi
 have hai:a≠i:=fun e=>by
  rw [e,hi] at ha
  injection ha with ha;injection ha with _ _ ha
  have h1:(IC xs)[R1.length]? = some [.arr i 1 0 xs.length]:=by rw [ha];simp
  rw [List.getElem?_map,Option.map_eq_some_iff] at h1
  obtain⟨x,_,hx⟩:=h1
  cases hx
 rcases h.st.obj a _ ha with ⟨_,h0⟩|⟨hna,cur,h2,h3,h4,h5,h6,h7⟩
 ·simp at h0
 obtain⟨v,hv,hc⟩:=h7 R1.length [.arr i 1 0 xs.length] 0 (.arr i 1 0 xs.length) (by simp) rfl
 have hc:=Wv hc
 have hsl:Lq v=true:=by rcases hc with ⟨_,_,_,rfl⟩|⟨_,_,rfl⟩<;>rfl
 have hblk:∀b,Hv v b→¬V.nl i∧b=V.ρ i:=by
  rintro b ⟨o,n,c,rfl⟩
  rcases hc with ⟨_,_,_,hw⟩|⟨hn,_,hw⟩
  ·cases hw
  ·injection hw with hw;injection hw with hw;injection hw with hw;exact⟨hn,hw⟩
 have hslot:HY V.w T v (xs.map (.int .i64)):=by
  rcases h.st.obj i _ hi with ⟨g1,g2⟩|⟨hni,cur',g2,g3,g4,g5,g6,g7⟩
  ·have:xs=[]:=by simpa using g2
   subst this
   rcases hc with ⟨_,_,_,rfl⟩|⟨hn,_⟩
   ·exact .inl ⟨rfl,rfl⟩
   ·exact absurd g1 hn
  ·rcases hc with ⟨hn,_⟩|⟨_,hle,rfl⟩
   ·exact absurd hn hni
   ·refine .inr ⟨V.ρ i,V.cap i,cur',by simp,g2,by simpa using g3,by rw [U0] at g4;simpa using g4,g5,fun j x hj=>?_⟩
    rw [List.getElem?_map,Option.map_eq_some_iff] at hj
    obtain⟨n,hn,rfl⟩:=hj
    obtain⟨w,hw,hcw⟩:=g7 j [.d (.v (.int .i64 n))] 0 (.d (.v (.int .i64 n))) (by simp [IC,hn]) rfl
    have:w=.int .i64 n:=AI.val hcw
    subst this
    exact⟨by simpa using hw,rfl⟩
 refine⟨v,?_⟩
 have look':∀id o,look ((a,.cells Ta 1 (R1++[.d (.v v)]::R2))::(s,.sld T (sI (l1++(v,xs)::l2)))::kill i σ) id=some o→
  (id=a∧o=.cells Ta 1 (R1++[.d (.v v)]::R2))∨(id=s∧o=.sld T (sI (l1++(v,xs)::l2)))∨(id≠a∧id≠s∧id≠i∧look σ id=some o):=fun id o ho=>by
  rw [Ax] at ho
  by_cases h1:a=id
  ·rw [if_pos h1] at ho;injection ho with ho;exact .inl ⟨h1.symm,ho.symm⟩
  ·rw [if_neg h1,Ax] at ho
   by_cases h2:s=id
   ·rw [if_pos h2] at ho;injection ho with ho;exact .inr (.inl ⟨h2.symm,ho.symm⟩)
   ·rw [if_neg h2,Dt] at ho
    by_cases h3:id=i
    ·rw [if_pos h3] at ho;cases ho
    ·rw [if_neg h3] at ho;exact .inr (.inr ⟨Ne.symm h1,Ne.symm h2,h3,ho⟩)
 have hsb:∀b,DC V s (.sld T (sI (l1++(v,xs)::l2))) b→DC V s (.sld T (sI (l1++l2))) b∨(¬V.nl i∧b=V.ρ i):=by
  rintro b ⟨x,hx,hb⟩
  obtain⟨y,hy,rfl⟩:=Qs hx
  rcases List.mem_append.1 hy with hy|hy
  ·exact .inl ⟨_,List.mem_map.2 ⟨y,List.mem_append_left _ hy,rfl⟩,hb⟩
  ·rcases List.mem_cons.1 hy with rfl|hy
   ·exact .inr (hblk b hb)
   ·exact .inl ⟨_,List.mem_map.2 ⟨y,List.mem_append_right _ hy,rfl⟩,hb⟩
 have hos:=h.st.obj s _ hs
 have hdis:∀x∈sI (l1++l2),∀b,Hv x.1 b→¬Hv v b:=fun x hx b hb hb'=>by
  obtain⟨hn,rfl⟩:=hblk b hb'
  exact h.st.inj s i _ _ hs hi (Ne.symm his) hos.1 hn _ ⟨x,hx,hb⟩ rfl
 have src:∀id o,look ((a,.cells Ta 1 (R1++[.d (.v v)]::R2))::(s,.sld T (sI (l1++(v,xs)::l2)))::kill i σ) id=some o→¬V.nl id→∀b,DC V id o b→∃id0 o0,look σ id0=some o0∧¬V.nl id0∧DC V id0 o0 b∧(id0=id∨id0=i∧id=s):=fun id o ho hn b hb=>by
  rcases look' id o ho with ⟨rfl,rfl⟩|⟨rfl,rfl⟩|⟨_,_,_,ho⟩
  ·exact⟨_,_,ha,hn,hb,.inl rfl⟩
  ·rcases hsb b hb with hb|⟨h1,rfl⟩
   ·exact⟨_,_,hs,hn,hb,.inl rfl⟩
   ·exact⟨_,_,hi,h1,rfl,.inr ⟨rfl,rfl⟩⟩
  ·exact⟨_,_,ho,hn,hb,.inl rfl⟩
 have noi:∀id o,look ((a,.cells Ta 1 (R1++[.d (.v v)]::R2))::(s,.sld T (sI (l1++(v,xs)::l2)))::kill i σ) id=some o→id≠i:=fun id o ho=>by
  rcases look' id o ho with ⟨rfl,rfl⟩|⟨rfl,rfl⟩|⟨_,_,h3,_⟩
  ·exact hai
  ·exact Ne.symm his
  ·exact h3
 refine⟨h.os,h.tape,h.output,h.old,h.iLt,h.iNew,h.ext,⟨fun id o ho=>?_,fun id o ho=>?_,fun id o ho hn b hb=>?_,fun id id' o o' ho ho' hne hn hn' b hb hb'=>?_⟩,fun id o ho hn b hb=>?_,h.tabs,h.hid.same rfl (fun _ h=>h) (fun _ h=>.inl h) fun b ⟨id,o,ho,hn,hb⟩=>let ⟨id0,o0,g1,g2,g3,_⟩:=src id o ho hn b hb;⟨id0,o0,g1,g2,g3⟩⟩
 ·rcases look' id o ho with ⟨rfl,rfl⟩|⟨rfl,rfl⟩|⟨_,_,_,ho⟩
  ·refine .inr ⟨hna,cur,h2,h3,by simpa using h4,h5,fun r hr=>?_,fun q r j c hq hj=>?_⟩
   ·rcases List.mem_append.1 hr with hr|hr
    ·exact h6 r (List.mem_append_left _ hr)
    ·rcases List.mem_cons.1 hr with rfl|hr
     ·rfl
     ·exact h6 r (List.mem_append_right _ (List.mem_cons_of_mem _ hr))
   ·by_cases hq0:q=R1.length
    ·subst hq0
     simp at hq
     subst hq
     have hj0:j=0:=by have:=(List.getElem?_eq_some_iff.1 hj).1;simp at this;omega
     subst hj0
     simp at hj
     subst hj
     exact⟨v,hv,.d (.v hsl)⟩
    ·refine h7 q r j c ?_ hj
     rw [←hq]
     rcases Nat.lt_or_ge q R1.length with h8|h8
     ·rw [List.getElem?_append_left h8,List.getElem?_append_left h8]
     ·rw [List.getElem?_append_right h8,List.getElem?_append_right h8]
      obtain⟨k,hk⟩:∃k,q - R1.length=k+1:=⟨q - R1.length - 1,by omega⟩
      rw [hk];rfl
  ·refine⟨hos.1,?_,fun x hx=>?_⟩
   ·have hp:=hos.2.1
    rw [HO,List.pairwise_append] at hp
    rw [HO,List.pairwise_append]
    refine⟨hp.1,List.pairwise_cons.2 ⟨fun y hy b hb hb'=>hdis y (by rw [HO];exact List.mem_append_right _ hy) b hb' hb,hp.2.1⟩,fun x hx y hy=>?_⟩
    rcases List.mem_cons.1 hy with rfl|hy
    ·exact fun b hb=>hdis x (by rw [HO];exact List.mem_append_left _ hx) b hb
    ·exact hp.2.2 x hx y hy
   ·obtain⟨y,hy,rfl⟩:=Qs hx
    rcases List.mem_append.1 hy with hy|hy
    ·exact hos.2.2 _ (List.mem_map.2 ⟨y,List.mem_append_left _ hy,rfl⟩)
    ·rcases List.mem_cons.1 hy with rfl|hy
     ·exact hslot
     ·exact hos.2.2 _ (List.mem_map.2 ⟨y,List.mem_append_right _ hy,rfl⟩)
  ·exact h.st.obj id o ho
 ·rcases look' id o ho with ⟨rfl,rfl⟩|⟨rfl,rfl⟩|⟨_,_,_,ho⟩
  ·exact h.st.lt _ _ ha
  ·exact h.st.lt _ _ hs
  ·exact h.st.lt _ _ ho
 ·obtain⟨id0,o0,g1,g2,g3,_⟩:=src id o ho hn b hb
  exact h.st.free _ _ g1 g2 b g3
 ·obtain⟨id0,o0,g1,g2,g3,g4⟩:=src id o ho hn b hb
  obtain⟨id0',o0',g1',g2',g3',g4'⟩:=src id' o' ho' hn' b hb'
  refine h.st.inj id0 id0' _ _ g1 g1' ?_ g2 g2' b g3 g3'
  have n1:=noi id o ho
  have n2:=noi id' o' ho'
  rintro rfl
  rcases g4 with rfl|⟨rfl,rfl⟩<;>rcases g4' with rfl|⟨e1,rfl⟩
  ·exact hne rfl
  ·exact n1 e1
  ·exact n2 rfl
  ·exact hne rfl
 ·obtain⟨id0,o0,g1,g2,g3,_⟩:=src id o ho hn b hb
  exact h.live _ _ g1 g2 b g3
theorem Ak.put{c:Code}{Q:Exit→Env→Ab→Nat→Prop}{f:Env}{nx:Nat}(a i s:Nat)(R1 R2:List (List C))(xs:List Int)(l1 l2:GV)(ha:look σ a=some (.cells Ta 1 (R1++[.arr i 1 0 xs.length]::R2)))(hi:look σ i=some (.cells T 1 (IC xs)))(hs:look σ s=some (.sld T (sI (l1++l2))))
 (h:∀v,Ak P TB Γ N c Q f ((a,.cells Ta 1 (R1++[.d (.v v)]::R2))::(s,.sld T (sI (l1++(v,xs)::l2)))::kill i σ) nx):Ak P TB Γ N c Q f σ nx:=by
 intro V ac hr
 obtain⟨v,hi'⟩:=hr.inv.put ha hi hs
 exact h v V ac ⟨hr.env,hr.lt,hr.size,hi',hr.nx,hr.defers⟩
theorem Inv.take{v:Value}(h:Inv TB Γ V σ)(ha:look σ a=some (.cells Ta 1 (R1++[.d (.v v)]::R2)))(hs:look σ s=some (.sld T (sI (l1++(v,xs)::l2)))) :
 ∃V',V'.w=V.w∧V'.nx=V.nx+1∧Ext V V'∧Inv TB Γ V' ((a,.cells Ta 1 (R1++[.arr V.nx 1 0 xs.length]::R2))::(V.nx,.cells T 1 (IC xs))::(s,.sld T (sI (l1++l2)))::σ):=by
 have has:a≠s:=fun e=>by rw [e,hs] at ha;cases ha
 have hos:=h.st.obj s _ hs
 have hsn:=h.st.lt _ _ hs
 have han:=h.st.lt _ _ ha
 have hmem:((v,xs.map (.int .i64)):Value×List Value)∈sI (l1++(v,xs)::l2):=List.mem_map.2 ⟨(v,xs),by simp,rfl⟩
 obtain⟨b0,cap,nl,hb0,hcr,hob⟩:∃b0 cap nl,(¬nl→Hv v b0)∧AI (Au V b0 cap nl V.w) (.arr V.nx 1 0 xs.length) v∧B8 (Au V b0 cap nl V.w) V.nx (.cells T 1 (IC xs)):=by
  rcases hos.2.2 _ hmem with ⟨h1,h2⟩|⟨b,cap,cur,h1,h2,h3,h4,h5,h6⟩
  ·have h1:v=.slice none 0 0:=h1
   have hx0:xs=[]:=by simpa using h2
   subst h1;subst hx0
   exact⟨0,0,True,fun h=>absurd trivial h,.nil (by simp [Au]) (by simp [Au]),.inl ⟨by simp [Au],rfl⟩⟩
  ·have h1:v=.slice (some ⟨b,0,none⟩) (xs.map (Value.int .i64)).length cap:=h1
   rw [List.length_map] at h1 h4
   refine⟨b,cap,False,fun _=>⟨_,_,_,h1⟩,?_,.inr ⟨by simp [Au],cur,by simpa [Au] using h2,by simpa [Au] using h3,by simpa [Au] using h4,by simpa [Au] using h5,fun r hr=>?_,fun q r j c hq hj=>?_⟩⟩
   ·rw [h1]
    have:=@AI.arr (Au V b cap False V.w) V.nx 1 0 xs.length (by simp [Au]) (by simp [Au]) (by simpa [Au] using h4)
    simpa [Au] using this
   ·obtain⟨n,_,rfl⟩:=List.mem_map.1 hr;rfl
   ·rw [List.getElem?_map,Option.map_eq_some_iff] at hq
    obtain⟨n,hn,rfl⟩:=hq
    have hj0:j=0:=by have:=(List.getElem?_eq_some_iff.1 hj).1;simp at this;omega
    subst hj0
    simp at hj
    subst hj
    exact⟨.int .i64 n,by simpa using (h6 q (.int .i64 n) (by simp [hn])).1,.d (.v rfl)⟩
 have e:Ext V (Au V b0 cap nl V.w):=Da (Nat.le_refl _) fun _ _=>rfl
 have hρ:(Au V b0 cap nl V.w).ρ V.nx=b0:=by simp [Au]
 have hnl:(Au V b0 cap nl V.w).nl V.nx↔nl:=by simp [Au]
 refine⟨Au V b0 cap nl V.w,rfl,rfl,e,?_⟩
 have look':∀id o,look ((a,.cells Ta 1 (R1++[.arr V.nx 1 0 xs.length]::R2))::(V.nx,.cells T 1 (IC xs))::(s,.sld T (sI (l1++l2)))::σ) id=some o→
  (id=a∧o=.cells Ta 1 (R1++[.arr V.nx 1 0 xs.length]::R2))∨(id=V.nx∧o=.cells T 1 (IC xs))∨(id=s∧o=.sld T (sI (l1++l2)))∨(id≠a∧id≠s∧look σ id=some o):=fun id o ho=>by
  rw [Ax] at ho
  by_cases h1:a=id
  ·rw [if_pos h1] at ho;injection ho with ho;exact .inl ⟨h1.symm,ho.symm⟩
  ·rw [if_neg h1,Ax] at ho
   by_cases h2:V.nx=id
   ·rw [if_pos h2] at ho;injection ho with ho;exact .inr (.inl ⟨h2.symm,ho.symm⟩)
   ·rw [if_neg h2,Ax] at ho
    by_cases h3:s=id
    ·rw [if_pos h3] at ho;injection ho with ho;exact .inr (.inr (.inl ⟨h3.symm,ho.symm⟩))
    ·rw [if_neg h3] at ho;exact .inr (.inr (.inr ⟨Ne.symm h1,Ne.symm h3,ho⟩))
 have hsub:∀x∈sI (l1++l2),x∈sI (l1++(v,xs)::l2):=fun x hx=>by
  obtain⟨y,hy,rfl⟩:=Qs hx
  refine List.mem_map.2 ⟨y,?_,rfl⟩
  rcases List.mem_append.1 hy with hy|hy
  ·exact List.mem_append_left _ hy
  ·exact List.mem_append_right _ (List.mem_cons_of_mem _ hy)
 have hp:=hos.2.1
 rw [HO,List.pairwise_append] at hp
 have hp2:=List.pairwise_cons.1 hp.2.1
 have hdis:∀x∈sI (l1++l2),∀b,Hv x.1 b→¬Hv v b:=fun x hx b hb hb'=>by
  rw [HO] at hx
  rcases List.mem_append.1 hx with hx|hx
  ·exact hp.2.2 x hx _ (List.mem_cons_self ..) b hb hb'
  ·exact hp2.1 x hx b hb' hb
 have src:∀id o,look ((a,.cells Ta 1 (R1++[.arr V.nx 1 0 xs.length]::R2))::(V.nx,.cells T 1 (IC xs))::(s,.sld T (sI (l1++l2)))::σ) id=some o→¬(Au V b0 cap nl V.w).nl id→∀b,DC (Au V b0 cap nl V.w) id o b→
  ∃id0 o0,look σ id0=some o0∧¬V.nl id0∧DC V id0 o0 b∧(id0=id∨id0=s∧id=V.nx∧Hv v b)∧(id=s→∃x∈sI (l1++l2),Hv x.1 b):=fun id o ho hn b hb=>by
  rcases look' id o ho with ⟨rfl,rfl⟩|⟨rfl,rfl⟩|⟨rfl,rfl⟩|⟨_,h3,ho⟩
  ·exact⟨_,_,ha,fun h=>hn ((e.nl _ han).2 h),by have:b=_:=hb;rw [e.ρ _ han] at this;exact this,.inl rfl,fun e=>absurd e has⟩
  ·have hb:b=_:=hb
   rw [hρ] at hb
   subst hb
   have hv:=hb0 fun h=>hn (hnl.2 h)
   exact⟨_,_,hs,hos.1,⟨_,hmem,hv⟩,.inr ⟨rfl,rfl,hv⟩,fun e=>by omega⟩
  ·obtain⟨x,hx,hb⟩:=hb
   exact⟨_,_,hs,hos.1,⟨x,hsub x hx,hb⟩,.inl rfl,fun _=>⟨x,hx,hb⟩⟩
  ·have hlt:=h.st.lt _ _ ho
   exact⟨_,_,ho,fun h=>hn ((e.nl _ hlt).2 h),(AG e hlt).1 hb,.inl rfl,fun e=>absurd e h3⟩
 refine⟨h.os,h.tape,h.output,h.old,h.iLt,h.iNew,h.ext.trans e,⟨fun id o ho=>?_,fun id o ho=>?_,fun id o ho hn b hb=>?_,fun id id' o o' ho ho' hne hn hn' b hb hb'=>?_⟩,fun id o ho hn b hb=>?_,h.tabs,h.hid.same rfl (fun _ h=>h) (fun _ h=>.inl h) fun b ⟨id,o,ho,hn,hb⟩=>let ⟨id0,o0,g1,g2,g3,_⟩:=src id o ho hn b hb;⟨id0,o0,g1,g2,g3⟩⟩
 ·rcases look' id o ho with ⟨rfl,rfl⟩|⟨rfl,rfl⟩|⟨rfl,rfl⟩|⟨_,_,ho⟩
  ·rcases h.st.obj _ _ ha with ⟨_,h0⟩|⟨hna,cur,h2,h3,h4,h5,h6,h7⟩
   ·simp at h0
   refine .inr ⟨fun h=>hna ((e.nl _ han).1 h),cur,by rw [e.ρ _ han];exact h2,by rw [e.cap _ han];exact h3,by rw [e.cap _ han];simpa using h4,by rw [e.cap _ han];exact h5,fun r hr=>?_,fun q r j c hq hj=>?_⟩
   ·rcases List.mem_append.1 hr with hr|hr
    ·exact h6 r (List.mem_append_left _ hr)
    ·rcases List.mem_cons.1 hr with rfl|hr
     ·rfl
     ·exact h6 r (List.mem_append_right _ (List.mem_cons_of_mem _ hr))
   ·by_cases hq0:q=R1.length
    ·subst hq0
     simp at hq
     subst hq
     have hj0:j=0:=by have:=(List.getElem?_eq_some_iff.1 hj).1;simp at this;omega
     subst hj0
     simp at hj
     subst hj
     obtain⟨w,hw,hc⟩:=h7 R1.length [.d (.v v)] 0 (.d (.v v)) (by simp) rfl
     have hw2:w=v:=AI.val hc
     subst hw2
     exact⟨w,hw,hcr⟩
    ·obtain⟨w,hw,hc⟩:=h7 q r j c (by
      rw [←hq]
      rcases Nat.lt_or_ge q R1.length with h8|h8
      ·rw [List.getElem?_append_left h8,List.getElem?_append_left h8]
      ·rw [List.getElem?_append_right h8,List.getElem?_append_right h8]
       obtain⟨k,hk⟩:∃k,q - R1.length=k+1:=⟨q - R1.length - 1,by omega⟩
       rw [hk];rfl) hj
     exact⟨w,hw,hc.ext e⟩
  ·exact hob
  ·refine⟨fun h=>hos.1 ((e.nl _ hsn).1 h),?_,fun x hx=>hos.2.2 x (hsub x hx)⟩
   rw [HO,List.pairwise_append]
   exact⟨hp.1,hp2.2,fun x hx y hy=>hp.2.2 x hx y (List.mem_cons_of_mem _ hy)⟩
  ·exact(h.st.obj id o ho).Bb e (h.st.lt id o ho) fun _ _ _=>rfl
 ·rcases look' id o ho with ⟨rfl,rfl⟩|⟨rfl,rfl⟩|⟨rfl,rfl⟩|⟨_,_,ho⟩
  ·exact Nat.lt_succ_of_lt han
  ·exact Nat.lt_succ_self _
  ·exact Nat.lt_succ_of_lt hsn
  ·exact Nat.lt_succ_of_lt (h.st.lt _ _ ho)
 ·obtain⟨id0,o0,g1,g2,g3,_⟩:=src id o ho hn b hb
  exact h.st.free _ _ g1 g2 b g3
 ·obtain⟨id0,o0,g1,g2,g3,g4,g5⟩:=src id o ho hn b hb
  obtain⟨id0',o0',g1',g2',g3',g4',g5'⟩:=src id' o' ho' hn' b hb'
  by_cases hee:id0=id0'
  ·rcases g4 with g4|⟨k1,k2,k3⟩<;>rcases g4' with g4'|⟨k1',k2',k3'⟩
   ·exact hne (by rw [←g4,←g4',hee])
   ·obtain⟨x,hx,hxb⟩:=g5 (by rw [←g4,hee,k1'])
    exact hdis x hx b hxb k3'
   ·obtain⟨x,hx,hxb⟩:=g5' (by rw [←g4',←hee,k1])
    exact hdis x hx b hxb k3
   ·exact hne (by rw [k2,k2'])
  ·exact h.st.inj id0 id0' _ _ g1 g1' hee g2 g2' b g3 g3'
 ·obtain⟨id0,o0,g1,g2,g3,_⟩:=src id o ho hn b hb
  exact h.live _ _ g1 g2 b g3
theorem Ak.take{c:Code}{Q:Exit→Env→Ab→Nat→Prop}{f:Env}{nx:Nat}(a s:Nat)(R1 R2:List (List C))(v:Value)(xs:List Int)(l1 l2:GV)(ha:look σ a=some (.cells Ta 1 (R1++[.d (.v v)]::R2)))(hs:look σ s=some (.sld T (sI (l1++(v,xs)::l2))))
 (h:Ak P TB Γ N c Q f ((a,.cells Ta 1 (R1++[.arr nx 1 0 xs.length]::R2))::(nx,.cells T 1 (IC xs))::(s,.sld T (sI (l1++l2)))::σ) (nx+1)):Ak P TB Γ N c Q f σ nx:=by
 intro V ac hr
 obtain⟨V',h1,h2,e,hi⟩:=hr.inv.take ha hs
 have:=h V' ac ⟨hr.env.ext e,hr.lt,hr.size,by have:=hr.nx;subst this;exact hi,by rw [h2,hr.nx],hr.defers⟩
 rw [h1] at this
 exact this
theorem Ak.Xp{c:Code}{Q:Exit→Env→Ab→Nat→Prop}{f:Env}{nx:Nat}(T:TypeId)(h:Ak P TB Γ N c Q f ((nx,.sld T (sI []))::σ) (nx+1)):Ak P TB Γ N c Q f σ nx:=by
 intro V ac hr
 have hi:=hr.inv
 have e:Ext V (Au V 0 0 False V.w):=Da (Nat.le_refl _) fun _ _=>rfl
 have hnx:=hr.nx
 subst hnx
 have look':∀id o,look ((V.nx,.sld T (sI []))::σ) id=some o→(id=V.nx∧o=.sld T (sI []))∨(id≠V.nx∧look σ id=some o):=fun id o ho=>by
  rw [Ax] at ho
  by_cases h1:V.nx=id
  ·rw [if_pos h1] at ho;injection ho with ho;exact .inl ⟨h1.symm,ho.symm⟩
  ·rw [if_neg h1] at ho;exact .inr ⟨Ne.symm h1,ho⟩
 have src:∀id o,look ((V.nx,.sld T (sI []))::σ) id=some o→∀b,DC (Au V 0 0 False V.w) id o b→look σ id=some o∧DC V id o b∧((Au V 0 0 False V.w).nl id↔V.nl id):=fun id o ho b hb=>by
  rcases look' id o ho with ⟨rfl,rfl⟩|⟨_,ho⟩
  ·obtain⟨x,hx,_⟩:=hb;cases hx
  ·have hlt:=hi.st.lt _ _ ho
   exact⟨ho,(AG e hlt).1 hb,e.nl _ hlt⟩
 refine h (Au V 0 0 False V.w) ac ⟨hr.env.ext e,hr.lt,hr.size,?_,rfl,hr.defers⟩
 refine⟨hi.os,hi.tape,hi.output,hi.old,hi.iLt,hi.iNew,hi.ext.trans e,⟨fun id o ho=>?_,fun id o ho=>?_,fun id o ho hn b hb=>?_,fun id id' o o' ho ho' hne hn hn' b hb hb'=>?_⟩,fun id o ho hn b hb=>?_,hi.tabs,hi.hid.same rfl (fun _ h=>h) (fun _ h=>.inl h) fun b ⟨id,o,ho,hn,hb⟩=>let ⟨h1,h2,h3⟩:=src id o ho b hb;⟨id,o,h1,fun h=>hn (h3.2 h),h2⟩⟩
 ·rcases look' id o ho with ⟨rfl,rfl⟩|⟨_,ho⟩
  ·exact⟨by simp [Au],List.Pairwise.nil,fun x hx=>by cases hx⟩
  ·exact(hi.st.obj id o ho).Bb e (hi.st.lt id o ho) fun _ _ _=>rfl
 ·rcases look' id o ho with ⟨rfl,rfl⟩|⟨_,ho⟩
  ·exact Nat.lt_succ_self _
  ·exact Nat.lt_succ_of_lt (hi.st.lt _ _ ho)
 ·obtain⟨h1,h2,h3⟩:=src id o ho b hb
  exact hi.st.free _ _ h1 (fun h=>hn (h3.2 h)) b h2
 ·obtain⟨h1,h2,h3⟩:=src id o ho b hb
  obtain⟨h1',h2',h3'⟩:=src id' o' ho' b hb'
  exact hi.st.inj _ _ _ _ h1 h1' hne (fun h=>hn (h3.2 h)) (fun h=>hn' (h3'.2 h)) b h2 h2'
 ·obtain⟨h1,h2,h3⟩:=src id o ho b hb
  exact hi.live _ _ h1 (fun h=>hn (h3.2 h)) b h2
structure cG (V V':View):Prop where
 ρ:V'.ρ=V.ρ
 cap:V'.cap=V.cap
 nl:V'.nl=V.nl
 nx:V'.nx=V.nx
 w:V'.w=V.w
section
variable {o:Oper}{f:Env}{nx:Nat}
end
def ID(σ:Ab):List Nat→Ab
 | []=>[]
 | i::r=>match look σ i with
  | some o=>(i,o)::ID σ r
  | none=>ID σ r
theorem FD{σ:Ab}:∀ {ids:List Nat} {id:Nat} {o:O},look (ID σ ids) id=some o→id∈ids∧look σ id=some o
 | [],_,_,h=>by cases h
 | i :: r,id,o,h=>by
  unfold ID at h
  split at h
  ·rename_i o' ho
   rw [Ax] at h
   by_cases hi:i=id
   ·rw [if_pos hi] at h;injection h with h;subst h;subst hi;exact⟨List.mem_cons_self ..,ho⟩
   ·rw [if_neg hi] at h
    have:=FD h
    exact⟨List.mem_cons_of_mem _ this.1,this.2⟩
  ·have:=FD h
   exact⟨List.mem_cons_of_mem _ this.1,this.2⟩
def TF(σi:Ab)(f:Env):List (Nat×E)→Prop
 | []=>True
 | (t,e')::L=>(∃e,f t=some e∧(e=e'∨EZ σi e e'))∧TF σi f L
theorem TF.get{σi:Ab}{f:Env}:∀ {L:List (Nat×E)},TF σi f L→∀t e',look L t=some e'→∃e,f t=some e∧(e=e'∨EZ σi e e')
 | [],_,t,e,h=>by cases h
 | (k,x)::L,hs,t,e,h=>by
  rw [Ax] at h
  by_cases hk:k=t
  ·rw [if_pos hk] at h;injection h with h;subst h;subst hk;exact hs.1
  ·rw [if_neg hk] at h;exact TF.get hs.2 t e h
theorem Ak.Bi{c:Code}{Q:Exit→Env→Ab→Nat→Prop}{f:Env}{nx:Nat}(ids:List Nat)(L:List (Nat×E))(hE:TF (ID σ ids) f L)(h:Ak P TB Γ N c Q (look L) (BV ids σ) nx):Ak P TB Γ N c Q f σ nx:=by
 intro V a hr
 have hi:=hr.inv
 have hsub:∀id o,look (ID σ ids) id=some o→look σ id=some o:=fun id o h=>(FD h).2
 have his:Inv TB Γ V (ID σ ids):=hi.sub hsub
 have e:Ext V (KB V (ID σ ids)):=Kb
 refine h (KB V (ID σ ids)) a ⟨fun t x hx=>?_,fun t x hx=>?_,hr.size,?_,hr.nx,hr.defers⟩
 ·obtain⟨y,h1,h2⟩:=hE.get t x hx
  rcases h2 with rfl|h2
  ·exact(hr.env t _ h1).ext e
  ·exact h2.rel his (hr.env t y h1)
 ·obtain⟨y,h1,_⟩:=hE.get t x hx
  exact hr.lt t y h1
 ·refine⟨hi.os,hi.tape,hi.output,hi.old,?_,?_,hi.ext.trans e,⟨?_,?_,?_,?_⟩,?_,fun x hx=>⟨.inl (hi.tabs x hx).1,(hi.tabs x hx).2⟩,hi.hid.same rfl (fun _ h=>.inl h) (fun b hb=>hb.elim .inl fun ⟨id,o,hl,hn,he⟩=>.inr ⟨id,o,hsub _ _ hl,hn,he⟩) fun b ⟨id,o,hl,hn,hb⟩=>have h2:=(A9 ids σ id o hl).2;⟨id,o,h2,hn,(AG e (hi.st.lt id o h2)).1 hb⟩⟩
  ·rintro b (hb|⟨id,o,hl,hn,hb⟩)
   ·exact hi.iLt b hb
   ·exact(hi.st.obj id o (hsub _ _ hl)).blt hn hb
  ·rintro b (hb|⟨id,o,hl,hn,hb⟩)
   ·exact hi.iNew b hb
   ·exact .inr (hi.live id o (hsub _ _ hl) hn b hb)
  ·intro id o hl
   have:=(A9 ids σ id o hl).2
   exact(hi.st.obj id o this).Bb e (hi.st.lt id o this) fun _ _ _=>rfl
  ·intro id o hl;exact hi.st.lt id o (A9 ids σ id o hl).2
  ·intro id o hl hn b hb' hb
   obtain⟨h1,h2⟩:=A9 ids σ id o hl
   have hb':=(AG e (hi.st.lt id o h2)).1 hb'
   rcases hb with hb|⟨id',o',hl',hn',he⟩
   ·exact hi.st.free id o h2 hn b hb' hb
   ·have h3:=FD hl'
    exact hi.st.inj id id' o o' h2 h3.2 (fun e=>h1 (e ▸ h3.1)) hn hn' b hb' he
  ·intro id id' o o' hl hl' hne hn hn' b hb hb'
   have h2:=(A9 ids σ id o hl).2
   have h2':=(A9 ids σ id' o' hl').2
   exact hi.st.inj id id' o o' h2 h2' hne hn hn' b ((AG e (hi.st.lt id o h2)).1 hb) ((AG e (hi.st.lt id' o' h2')).1 hb')
  ·intro id o hl hn b hb
   have h2:=(A9 ids σ id o hl).2
   exact hi.live id o h2 hn b ((AG e (hi.st.lt id o h2)).1 hb)
theorem FZ.Me{a s:Nat}{T Ta:TypeId}{l:GV}(ha:look σ a=some (.cells Ta 1 (AA l)))(hs:look σ s=some (.sld T (sI l))):FZ σ (.arr a 1 0 l.length) (Ci (l.map (·.2))):=by
 refine .rows ha (by simp) (BW l) fun i r' hi=>?_
 simp only [List.getElem?_map,Option.map_eq_some_iff] at hi
 obtain⟨x,⟨y,hy,rfl⟩,rfl⟩:=hi
 refine⟨[.d (.v y.1)],by simp [AA,hy],.cons ?_ .nil⟩
 have h1:FZ σ (.d (.v y.1)) (.l ((y.2.map (Value.int .i64)).map fun x=>[D.v x])):=.sld hs (List.mem_map.2 ⟨y,List.mem_of_getElem? hy,rfl⟩)
 rw [List.map_map] at h1
 exact h1
theorem Ak.Ql{c:Code}{Q:Exit→Env→Ab→Nat→Prop}{f:Env}{nx:Nat}(a i s:Nat)(l:GV)(xs:List Int)(ha:look σ a=some (.cells Ta 1 (AA l++[[.arr i 1 0 xs.length]])))(hi:look σ i=some (.cells T 1 (IC xs)))(hs:look σ s=some (.sld T (sI l)))
 (h:∀v,Ak P TB Γ N c Q f ((a,.cells Ta 1 (AA (l++[(v,xs)])))::(s,.sld T (sI (l++[(v,xs)])))::kill i σ) nx):Ak P TB Γ N c Q f σ nx:=
 Ak.put a i s (AA l) [] xs l [] ha hi (by rw [List.append_nil];exact hs) fun v=>by
  have:=h v
  rw [AM] at this
  exact this
theorem K7{l:GV}{k:Nat}{y:Value×List Int}(h:l[k]? = some y):l=l.take k++y::l.drop (k+1)∧(l.take k).length=k:=by
 obtain⟨hk,rfl⟩:=List.getElem?_eq_some_iff.1 h
 refine⟨?_,by rw [List.length_take];omega⟩
 rw [←List.drop_eq_getElem_cons hk,List.take_append_drop]
theorem NM{α:Type}{l1 l2:List α}{x y:α}{k:Nat}(h:l1.length=k):(l1++x::l2).set k y=l1++y::l2:=by
 subst h;simp
theorem Ak.Zd{c:Code}{Q:Exit→Env→Ab→Nat→Prop}{f:Env}{nx:Nat}(a s:Nat)(l:GV)(k:Nat)(y:Value×List Int)(hk:l[k]? = some y)(ha:look σ a=some (.cells Ta 1 (AA l)))(hs:look σ s=some (.sld T (sI l)))
 (h:Ak P TB Γ N c Q f ((a,.cells Ta 1 ((AA l).set k [.arr nx 1 0 y.2.length]))::(nx,.cells T 1 (IC y.2))::(s,.sld T (sI (l.eraseIdx k)))::σ) (nx+1)):Ak P TB Γ N c Q f σ nx:=by
 obtain⟨h1,h2⟩:=K7 hk
 obtain⟨v,xs⟩:=y
 have e1:AA l=AA (l.take k)++[.d (.v v)]::AA (l.drop (k+1)):=by
  have:=congrArg AA h1
  rw [AM] at this;exact this
 refine Ak.take a s (AA (l.take k)) (AA (l.drop (k+1))) v xs (l.take k) (l.drop (k+1)) (by rw [←e1];exact ha) (by rw [←h1];exact hs) ?_
 have e2:(AA l).set k [.arr nx 1 0 xs.length]=AA (l.take k)++[.arr nx 1 0 xs.length]::AA (l.drop (k+1)):=by
  rw [e1,NM (by rw [BW,h2])]
 have e3:l.eraseIdx k=l.take k++l.drop (k+1):=List.eraseIdx_eq_take_drop_succ ..
 rw [e2,e3] at h
 exact h
theorem Ak.putAt{c:Code}{Q:Exit→Env→Ab→Nat→Prop}{f:Env}{nx:Nat}(a i s:Nat)(l:GV)(k:Nat)(y:Value×List Int)(hk:l[k]? = some y)(xs:List Int)(ha:look σ a=some (.cells Ta 1 ((AA l).set k [.arr i 1 0 xs.length])))(hi:look σ i=some (.cells T 1 (IC xs)))(hs:look σ s=some (.sld T (sI (l.eraseIdx k))))
 (h:∀v,Ak P TB Γ N c Q f ((a,.cells Ta 1 (AA (l.set k (v,xs))))::(s,.sld T (sI (l.set k (v,xs))))::kill i σ) nx):Ak P TB Γ N c Q f σ nx:=by
 obtain⟨h1,h2⟩:=K7 hk
 have e1:AA l=AA (l.take k)++[.d (.v y.1)]::AA (l.drop (k+1)):=by
  have:=congrArg AA h1
  rw [AM] at this;exact this
 rw [e1,NM (by rw [BW,h2])] at ha
 rw [show l.eraseIdx k=l.take k++l.drop (k+1) from List.eraseIdx_eq_take_drop_succ ..] at hs
 refine Ak.put a i s (AA (l.take k)) (AA (l.drop (k+1))) xs (l.take k) (l.drop (k+1)) ha hi hs fun v=>?_
 have h3:l.set k (v,xs)=l.take k++(v,xs)::l.drop (k+1):=by
  have this:l.set k (v,xs)=(l.take k++y::l.drop (k+1)).set k (v,xs):=congrArg (fun m=>List.set m k (v,xs)) h1
  rw [this,NM h2]
 have:=h v
 rw [h3,AM] at this
 exact this
theorem Bl.AX{g:FuncId}{m nx:Nat}{args:List E}{post:E→Ab→Nat→Prop}
 (h:Bl P TB g m σ nx args (fun x σ1 nx1=>∃(l:List Nat) (x':E) (σ2:Ab),((∀i,i < m→l[i]? = some i)∧l.Nodup)∧x=x'.AX (nm l nx1)∧AS (nm l nx1) σ1 σ2∧post x' σ2 l.length)):Bl P TB g m σ nx args post:=
 ⟨h.1, fun V vs S hg ha=>(h.2 V vs S hg ha).mono fun e w' ⟨V',v,x,σ',h1,h2,h3,h4,l,x',σ2,h5,h6,h7,h8⟩=>by
  have hr:BM TB (EO V (Jk V m) σ S) 1 V' (look [(0,x)]) σ' V'.nx { tmps:=#[v],defers:=[] } := by
   refine⟨fun t y hy=>?_,fun t y hy=>?_,rfl,h3,rfl,rfl⟩
   ·rw [Ax] at hy
    by_cases ht:0=t
    ·rw [if_pos ht] at hy;injection hy with hy;subst hy;subst ht;exact h4
    ·rw [if_neg ht] at hy;cases hy
   ·rw [Ax] at hy
    by_cases ht:0=t
    ·subst ht;exact Nat.zero_lt_one
    ·rw [if_neg ht] at hy;cases hy
  obtain⟨V'',e1,e2⟩:=hr.AX l [(0,x')] σ2 h5.1 h5.2 ⟨by rw [←h6];rfl,trivial⟩ h7
  refine⟨V'',v,x',σ2,h1,e1.trans h2,e2.inv,e2.env 0 x' rfl,?_⟩
  rw [e2.nx];exact h8⟩
theorem Ip{m:Nat}{σ σ':Ab}(i:Nat)(hm:m=2 ^ i)(h:look σ' i=look σ i):Kept m σ σ':=fun id hb=>by
 subst hm
 rw [Nat.testBit_two_pow] at hb
 have:i=id:=of_decide_eq_true hb
 subst this;exact h
theorem Iq{m:Nat}{σ σ':Ab}(i j:Nat)(hm:m=2 ^ i ||| 2 ^ j)(h:look σ' i=look σ i)(h':look σ' j=look σ j):Kept m σ σ':=fun id hb=>by
 subst hm
 rw [Nat.testBit_or,Bool.or_eq_true,Nat.testBit_two_pow,Nat.testBit_two_pow,decide_eq_true_eq,decide_eq_true_eq] at hb
 rcases hb with hb|hb
 ·subst hb;exact h
 ·subst hb;exact h'
theorem IE{l1 l2:GV}{c:C}{k:Nat}(h:l1.length=k):(AA l1++[c]::AA l2)[k]? = some [c]:=by
 subst h
 rw [List.getElem?_append_right (by rw [BW];exact Nat.le_refl _),BW];simp
theorem eR [hT:B7 P] {g:FuncId} {fn:Func} {c:Code} {nx:Nat} {args:List E} {post:E→Ab→Nat→Prop} (hf:P.funcs[g]? = some fn) (hb:fn.body=some c) (hname:(fn.name == "runtime.NumGoroutine")=false)
 (ha:Nat.ble args.length fn.ntmps=true) (h:∀Γ:Ctx,Γ.V.nx=nx→Ak P TB Γ fn.ntmps c (TK hT.T fn.results (fun x σ1 nx1=>∃(l:List Nat) (x':E) (σ2:Ab),((∀i,i < nx→l[i]? = some i)∧l.Nodup)∧x=x'.AX (nm l nx1)∧AS (nm l nx1) σ1 σ2∧post x' σ2 l.length)) (look (BN 0 args)) σ nx):Spec P TB g σ nx args post:=
 Bl.E2 (Bl.AX (Bl.YL (Nat.le_refl _) hf hb hname (Nat.le_of_ble_eq_true ha) h))
end
theorem cN:(∀(r:Nat→Nat) (l:GV),(AA l).map (C.BA r)=AA l)∧(∀(α:Type) (b:Bool) (x y:α),(bif b then x else y)=if b=true then x else y)∧∀a b:Nat,(Nat.beq a b=true)=(a=b):=
 ⟨O6,fun _ b _ _=>by cases b<;>rfl,fun _ _=>Nat.beq_eq⟩
end Go.Am
namespace Go.Am
open Go Go.Proofs
set_option maxHeartbeats 1000000
set_option maxRecDepth 4000
attribute [local irreducible] AY B2 Lex Br Ak Spec
variable {TB:Bw}
def ZM(o:Option (List Int×List (List Int))):E:=match o with
 | some p=>.t [(false,[.d (CO p.1)]),(false,[.d (Ci p.2)]),(false,[.d (bD true)])]
 | none=>.t [(false,[.d (.l [])]),(false,[.d (.l [])]),(false,[.d (bD false)])]
theorem OX{lim:Nat}{f:Int→Int→Int}{ls:List Int}{s0:Int}{g:FuncId}{caps:List C}{R:Int→Prop}(h1:1≤lim∧lim≤64)(hll:ls.length≤6)(hs:R s0)(hR:∀q l,R q→l∈ls→R (f q l))
 (hg:∀q l,R q→l∈ls→Pure Tryz.prog TB g ([eI .i64 q,eI .i64 l]++caps.map .o) (eI .i64 (f q l))) (hc:C.Cr caps=true) (hr:∀r,C.BA r caps=caps) :
 Pure Tryz.prog TB 180 [eI .i64 s0,Aj ls,eI .i64 lim,.o (.fn g caps)] (ZM (OW lim f ls s0)):=by
 unfold OW
 generalize hA0:Gm lim f ls lim [s0] []=A
 refine eG Tryz.func180 rfl (by kernel_rfl) rfl ?_;intro Γ hΓ
 (repeat first|refine tX rfl ?_ |refine aU rfl ?_ |refine Aa ?_)
 (refine pW rfl ?_ rfl (by rfl);refine A1 rfl rfl rfl rfl (by simp [eC]) (by rfl) (by rfl) (by rfl) (by rfl) ?_)
 (repeat first|refine tX rfl ?_ |refine aU rfl ?_ |refine Aa ?_)
 (refine pW rfl ?_ rfl (by rfl);refine Jl ?_)
 (repeat first|refine tA rfl ?_)
 (refine Ag rfl ?_;refine Hq ?_ rfl (by rfl);refine YD (UQ (l:=[]) rfl rfl rfl rfl rfl ?_))
 (repeat first|refine tM rfl ?_ |refine aU rfl ?_ |refine Aa ?_)
 (refine pW rfl ?_ rfl (by rfl);refine Iw 1 84 ?_)
 (repeat first|refine tM rfl ?_ |refine aU rfl ?_ |refine Aa ?_)
 refine aB ?_
 refine aL (α:={z:List Int×List (List Int) // Gm lim f ls (lim - z.2.length) z.1 z.2=A∧z.2.length≤z.1.length∧1≤z.1.length∧z.1.length≤lim∧∀q∈z.1,R q}) [1,2,3,12] [] rfl rfl (fun s=>[(11,.o (.arr 0 1 0 s.1.1.length)),(13,.o (.arr 2 1 0 s.1.2.length)),(14,eI .i64 s.1.2.length)]) (fun s=>[(0,.cells 3 1 (s.1.1.map AB)),(1,.mp (HG (Qg s.1.1))),(2,.cells 84 1 (s.1.2.map fun r=>[.d (CO r)]))]) 3 (fun s=>lim - s.1.2.length) (⟨⟨[s0],[]⟩,by simpa using hA0,by simp,by simp,by simpa using h1.1,by simpa using hs⟩) hΓ rfl (by (simp[cX,zC,hΓ,hr,eC,BZ,Ai,Qg])) ?_;rintro⟨⟨nd,rows⟩,hA,hrl,hn1,hnl,hRn⟩;(try dsimp only[cA,cB])
 have hA:Gm lim f ls (lim - rows.length) nd rows=A:=hA
 have hrl:rows.length≤nd.length:=hrl
 have hn1:1≤nd.length:=hn1
 have hnl:nd.length≤lim:=hnl
 have hRn:∀q∈nd,R q:=hRn
 by_cases hlt:rows.length < nd.length
 ·obtain⟨q,hq⟩:=get_some hlt
  obtain⟨k,hk⟩:∃k,lim - rows.length=k+1:=⟨lim - rows.length - 1,by omega⟩
  rw [hk] at hA
  simp only [Gm,hq] at hA
  generalize hB0:GM lim f q nd [] ls=B at hA
  have hRq:=hRn q (List.mem_of_getElem? hq)
  (repeat first|refine tA rfl ?_ |refine s2 rfl fun _ _hb=>?_ |refine aU rfl ?_ |refine Aa ?_)
  ((refine aC rfl ?_ ?_<;>rintro⟨⟩);all_goals try(exfalso;(simp only[oZ] at *;omega)))
  refine aK ?_
  refine aS (aB ?_)
  (repeat first|refine aU rfl ?_)
  (refine pW rfl ?_ rfl (by rfl);refine Iw 1 3 ?_)
  (repeat first|refine sN rfl ?_ |refine tM rfl ?_ |refine aU rfl ?_ |refine Aa ?_)
  refine aB ?_
  refine aL (α:={z:(List Int×List Int)×Nat // z.2≤ls.length∧GM lim f q z.1.1 z.1.2 (ls.drop z.2)=B∧z.1.2.length=z.2∧nd.length≤z.1.1.length∧z.1.1.length≤lim∧(∀q∈z.1.1,R q)∧z.1.1[rows.length]? = some q}) [1,2,3,12,13,14,32,33] [2] rfl rfl (fun s=>[(11,.o (.arr 0 1 0 s.1.1.1.length)),(15,.o (.arr 3 1 0 s.1.2)),(34,eI .i64 s.1.2)]) (fun s=>[(0,.cells 3 1 (s.1.1.1.map AB)),(1,.mp (HG (Qg s.1.1.1))),(3,.cells 3 1 (s.1.1.2.map AB))]) 4 (fun s=>ls.length - s.1.2) (⟨⟨⟨nd,[]⟩,0⟩,by simp,hB0,rfl,Nat.le_refl _,hnl,hRn,hq⟩) hΓ rfl (by (simp[cX,zC,hΓ,hr,eC,BZ,Ai,Ir])) ?_;rintro⟨⟨⟨nd1,row⟩,j⟩,hj,hB,hrw,hnn,hn2,hR1,hq1⟩;(try dsimp only[cA,cB])
  have hj:j≤ls.length:=hj
  have hB:GM lim f q nd1 row (ls.drop j)=B:=hB
  have hrw:row.length=j:=hrw
  have hnn:nd.length≤nd1.length:=hnn
  have hn2:nd1.length≤lim:=hn2
  have hR1:∀q∈nd1,R q:=hR1
  have hq1:nd1[rows.length]? = some q:=hq1
  by_cases hjl:j < ls.length
  ·obtain⟨l,hl⟩:=get_some hjl
   have hl':=get_map (g:=Bq) hl
   have hlm:=List.mem_of_getElem? hl
   have hf:=hg q l hRq hlm
   have hRf:=hR q l hRq hlm
   have hq':(nd1.map AB)[0+((rows.length:Nat):Int).toNat]? = some (AB q):=by rw [Nat.zero_add,Int.toNat_natCast];simp [hq1]
   rw [C3 hl] at hB
   simp only [GM] at hB
   have hfd:=Sy nd1 (f q l)
   generalize f q l=y at *
   (repeat first|refine s2 rfl fun _ _hb=>?_ |refine aU rfl ?_ |refine Aa ?_)
   ((refine aC rfl ?_ ?_<;>rintro⟨⟩);all_goals try(exfalso;(simp only[oZ] at *;omega)))
   refine aK ?_
   refine aS (aB ?_)
   (repeat first|((first|refine sA rfl ?_ ?_|refine s4 rfl ‹_› rfl ?_ ?_);first|exact tI|omega)|(refine Ag rfl ?_;refine gA rfl ?_;first| refine gS (fun _ _=>BE rfl rfl (by simp [E.BK,C.BK,C.Cr,hc]) hf rfl) ?_) |refine aU rfl ?_ |refine Aa ?_)
   by_cases hin:y∈nd1
   ·rw [if_pos hin] at hB hfd
    (repeat first|refine tA rfl ?_ |refine s2 rfl fun _ _hb=>?_|(refine Ag rfl ?_;refine gA rfl ?_;first| refine gQ (Vs hfd rfl rfl rfl) rfl ?_) |refine aU rfl ?_ |refine Aa ?_)
    ((refine aC rfl ?_ ?_<;>rintro⟨⟩);all_goals try (simp at _hb;done))
    refine aK ?_
    (repeat first|refine tA rfl ?_ |refine aU rfl ?_)
    (refine pW rfl ?_ rfl (by rfl);refine Aw rfl rfl rfl (by first| (simp;done)|(simp;(omega))) rfl (by intro r hr;simp at hr;subst hr;rfl) (by rfl) (Nat.le_of_ble_eq_true rfl) (by simp;omega) ?_)
    (repeat first|(refine sA rfl ?_ ?_;first|exact tI|omega) |refine aU rfl ?_ |refine Aa ?_)
    refine⟨⟨⟨⟨nd1,row++[((nd1.idxOf y:Nat):Int)]⟩,j+1⟩,by dsimp only;omega,hB,by simp [hrw],hnn,hn2,hR1,hq1⟩,by dsimp only;(omega),[0,1,2,4],?_⟩
    simp[cX,zC,hΓ,hr,Ir]
   ·rw [if_neg hin] at hB hfd
    (repeat first|refine tA rfl ?_ |refine s2 rfl fun _ _hb=>?_|(refine Ag rfl ?_;refine gA rfl ?_;first| refine gQ (Vr hfd rfl rfl rfl) rfl ?_) |refine aU rfl ?_ |refine Aa ?_)
    ((refine aC rfl ?_ ?_<;>rintro⟨⟩);all_goals try (simp at _hb;done))
    by_cases hfu:nd1.length=lim
    ·rw [if_pos hfu] at hB
     subst hB
     (repeat first|refine tA rfl ?_ |refine s2 rfl fun _ _hb=>?_ |refine aU rfl ?_ |refine Aa ?_)
     ((refine aC rfl ?_ ?_<;>rintro⟨⟩);all_goals try(exfalso;(simp only[oZ] at *;omega)))
     (repeat first|refine tA rfl ?_ |refine aU rfl ?_ |refine Aa ?_)
     have hA:none=A:=hA
     subst hA
     exact aR ⟨_,rfl,rfl⟩
    ·rw [if_neg hfu] at hB
     (repeat first|refine tA rfl ?_ |refine s2 rfl fun _ _hb=>?_ |refine aU rfl ?_ |refine Aa ?_)
     ((refine aC rfl ?_ ?_<;>rintro⟨⟩);all_goals try(exfalso;(simp only[oZ] at *;omega)))
     refine aK ?_
     (repeat first|refine tA rfl ?_ |refine aU rfl ?_ |refine Aa ?_)
     (refine Ag rfl ?_;refine Hq ?_ rfl (by rfl);refine UQ rfl rfl rfl rfl hfd ?_)
     rw [←Ry]
     (repeat first|refine tA rfl ?_ |refine aU rfl ?_ |refine Aa ?_)
     (refine pW rfl ?_ rfl (by rfl);refine Aw rfl rfl rfl (by first| (simp;done)|(simp;(omega))) rfl (by intro r hr;simp at hr;subst hr;rfl) (by rfl) (Nat.le_of_ble_eq_true rfl) (by simp;omega) ?_)
     (repeat first|refine tA rfl ?_ |refine aU rfl ?_ |refine Aa ?_)
     (refine pW rfl ?_ rfl (by rfl);refine Aw rfl rfl rfl (by first| (simp;done)|(simp;(omega))) rfl (by intro r hr;simp at hr;subst hr;rfl) (by rfl) (Nat.le_of_ble_eq_true rfl) (by simp;omega) ?_)
     (repeat first|(refine sA rfl ?_ ?_;first|exact tI|omega) |refine aU rfl ?_ |refine Aa ?_)
     refine⟨⟨⟨⟨nd1++[y],row++[(nd1.length:Int)]⟩,j+1⟩,by dsimp only;omega,hB,by simp [hrw],by simp;omega,by simp;omega,fun z hz=>by rcases List.mem_append.1 hz with h|h;exact hR1 z h;simp at h;subst h;exact hRf,by rw [List.getElem?_append_left (by omega)];exact hq1⟩,by dsimp only;(omega),[4,1,2,5],?_⟩
     simp[cX,zC,hΓ,hr,Ir]
  ·obtain rfl:j=ls.length:=by omega
   rw [List.drop_length] at hB
   simp only [GM] at hB
   subst hB
   simp only at hA
   (repeat first|refine s2 rfl fun _ _hb=>?_ |refine aU rfl ?_ |refine Aa ?_)
   ((refine aC rfl ?_ ?_<;>rintro⟨⟩);all_goals try(exfalso;(simp only[oZ] at *;omega)))
   refine aE ?_
   refine Ak.DS [3] [1,2,3,11,12,13,14] rfl [(15,Aj row)] ⟨⟨_,rfl,.o (.full (by simp) rfl (by simp [Function.comp_def]) (by simpa using hrw))⟩,trivial⟩ ?_;(try dsimp only[cA,cB])
   (repeat first|refine tA rfl ?_ |refine aU rfl ?_)
   (refine pW rfl ?_ rfl (by rfl);refine Aw rfl rfl rfl (by first| (simp;done)|(simp;(omega))) rfl (by intro r hr;simp at hr;subst hr;rfl) (by rfl) (Nat.le_of_ble_eq_true rfl) (by simp;omega) ?_)
   (repeat first|(refine sA rfl ?_ ?_;first|exact tI|omega) |refine aU rfl ?_ |refine Aa ?_)
   refine⟨⟨⟨nd1,rows++[row]⟩,by show Gm lim f ls (lim - (rows++[row]).length) nd1 _=A;rw [List.length_append,List.length_singleton,show lim - (rows.length+1)=k by omega];exact hA,by simp;omega,by dsimp only;omega,hn2,hR1⟩,by dsimp only;((simp only[oZ] at *;omega)),[0,1,4],?_⟩
   simp[cX,zC,hΓ,hr,Ir]
 ·have hA2:A=some (nd,rows):=by
   rw [←hA]
   cases lim - rows.length with
   | zero=>rfl
   | succ k=>simp only [Gm];rw [List.getElem?_eq_none (by omega)]
  subst hA2
  (repeat first|refine tA rfl ?_ |refine s2 rfl fun _ _hb=>?_ |refine aU rfl ?_ |refine Aa ?_)
  ((refine aC rfl ?_ ?_<;>rintro⟨⟩);all_goals try(exfalso;(simp only[oZ] at *;omega)))
  refine aE ?_
  refine Ak.settle [(11,Aj nd),(13,Dp rows)] ⟨⟨_,rfl,.o (.full rfl (by simp [Function.comp_def]) (by simp))⟩,⟨_,rfl,.o (.full rfl (by simp [Function.comp_def]) (by simp))⟩,trivial⟩ ?_
  (repeat first|refine tA rfl ?_ |refine aU rfl ?_ |refine Aa ?_)
  (subst_vars;exact aR ⟨_,rfl,rfl⟩)
theorem RM{P:Program}{Γ:Ctx}{d:Option Tmp}{ty:TypeId}{pos:String}{af:Array Edge}{g:Option (Nat×Bool)}{f:Env}{σ:Ab}{nx:Nat}{t:TypeId}{x lo hi:Operand}{s z out:W}{a b:Int}{k k':IntKind}[ht:B6 P t](hx:ev f x=some (eT s))(hl:ev f lo=some (eI k a))(hh:ev f hi=some (eI k' b))(hz:s=z)(h:(0≤a∧a≤b∧b≤z.length)∧(z.take b.toNat).drop a.toNat=out) :
 AY P TB Γ ⟨d,.slice t x (some lo) (some hi) none,ty,pos,af,g⟩ f σ nx (eT out):=by
 subst hz
 have h1:=Ku (P:=P) (TB:=TB) (Γ:=Γ) (d:=d) (ty:=ty) (pos:=pos) (af:=af) (g:=g) (σ:=σ) (nx:=nx) (t:=t) (x:=x) (lo:=some lo) (hi:=some hi) (l:=some (k,a)) (h:=some (k',b)) hx (by simp [Tz,hl]) (by simp [Tz,hh]) h.1.1 h.1.2.1 h.1.2.2
 have e:(s.take (IZ s.length (some (k',b))).toNat).drop (I0 (some (k,a))).toNat=out:=h.2
 rwa [e] at h1
def bx:W:=[48,49,50,51,52,53,54,55,56,57,97,98,99,100,101,102,103,104,105,106,107,108,109,110,111,112,113,114,115,116,117,118,119,120,121,122]
def ZK:W:=(List.range 100).flatMap fun n=>[UInt8.ofNat (48+n / 10),UInt8.ofNat (48+n % 10)]
theorem Wx:((List.range 10).all fun n=>decide ((bx.take (n+1)).drop n=C8 n))=true:=by decide +kernel
theorem Wz:((List.range 100).all fun n=>decide (n < 10) || decide ((ZK.take (n*2+2)).drop (n*2)=C8 n))=true:=by decide +kernel
theorem Wy:ZK.length=200:=by decide +kernel
theorem X8{n:Int}(h:0≤n∧n < 10):(0≤n∧n≤n+1∧n+1≤bx.length)∧(bx.take (n+1).toNat).drop n.toNat=C8 n.toNat:=by
 refine⟨⟨h.1,by omega,by show n+1≤36;omega⟩,?_⟩
 have:=List.all_eq_true.1 Wx n.toNat (List.mem_range.2 (by omega))
 rw [show (n+1).toNat=n.toNat+1 by omega]
 exact of_decide_eq_true this
theorem X9{n:Int}(h:10≤n∧n < 100):(0≤n*2∧n*2≤n*2+2∧n*2+2≤ZK.length)∧(ZK.take (n*2+2).toNat).drop (n*2).toNat=C8 n.toNat:=by
 refine⟨⟨by omega,by omega,by rw [Wy];omega⟩,?_⟩
 have:=List.all_eq_true.1 Wz n.toNat (List.mem_range.2 (by omega))
 rw [Bool.or_eq_true,decide_eq_true_eq,decide_eq_true_eq] at this
 rw [show (n*2+2).toNat=n.toNat*2+2 by omega,show (n*2).toNat=n.toNat*2 by omega]
 rcases this with h1|h1
 ·omega
 ·exact h1
theorem VO(n:Int)(h:0≤n∧n < 100):Pure Tryz.prog TB 306 [eI .i64 n] (eT (C8 n.toNat)):=by
 refine eG Tryz.func306 rfl (by kernel_rfl) rfl ?_;intro Γ hΓ
 (repeat first |refine sN rfl ?_ |((first|refine sA rfl ?_ ?_|refine s4 rfl ‹_› rfl ?_ ?_);first|exact tI|omega|simp only[oZ] at *;omega) |refine s2 rfl fun _ _hb=>?_ |refine s3 rfl ?_ ?_<;>rintro rfl |refine aU rfl ?_ |refine Aa ?_)
 (refine aC rfl ?_ ?_<;>rintro⟨⟩)
 ·have d1:=X8 (n:=n) (by first|omega|simp only[oZ] at *;omega)
  (repeat first |refine sN rfl ?_ |((first|refine sA rfl ?_ ?_|refine s4 rfl ‹_› rfl ?_ ?_);first|exact tI|omega|simp only[oZ] at *;omega) |refine s2 rfl fun _ _hb=>?_|(refine Ag rfl ?_;refine gA rfl ?_;first|refine gS (fun _ _=>RM (z:=bx) rfl rfl rfl (by decide +kernel) d1) ?_) |refine s3 rfl ?_ ?_<;>rintro rfl |refine aU rfl ?_ |refine Aa ?_)
  (subst_vars;exact aR ⟨_,rfl,rfl⟩)
 refine aK ?_
 have d2:=X9 (n:=n) (by first|omega|simp only[oZ] at *;omega)
 (repeat first |refine sN rfl ?_ |((first|refine sA rfl ?_ ?_|refine s4 rfl ‹_› rfl ?_ ?_);first|exact tI|omega|simp only[oZ] at *;omega) |refine s2 rfl fun _ _hb=>?_|(refine Ag rfl ?_;refine gA rfl ?_;first|refine gS (fun _ _=>RM (z:=ZK) rfl rfl rfl (by decide +kernel) d2) ?_) |refine s3 rfl ?_ ?_<;>rintro rfl |refine aU rfl ?_ |refine Aa ?_)
 (subst_vars;exact aR ⟨_,rfl,rfl⟩)
theorem Nn(n:Int)(h:0≤n∧n < 100):Pure Tryz.prog TB 289 [eI .i64 n,eI .i64 10] (eT (C8 n.toNat)):=by
 refine eG Tryz.func289 rfl (by kernel_rfl) rfl ?_;intro Γ hΓ
 have e:=VO (TB:=TB) n h
 (repeat first |refine sN rfl ?_ |((first|refine sA rfl ?_ ?_|refine s4 rfl ‹_› rfl ?_ ?_);first|exact tI|omega|simp only[oZ] at *;omega) |refine s2 rfl fun _ _hb=>?_ |refine s3 rfl ?_ ?_<;>rintro rfl |refine aU rfl ?_ |refine Aa ?_)
 ((refine aC rfl ?_ ?_<;>rintro⟨⟩);all_goals try (simp at _hb;done))
 (repeat' first |refine sN rfl ?_ |((first|refine sA rfl ?_ ?_|refine s4 rfl ‹_› rfl ?_ ?_);first|exact tI|omega|simp only[oZ] at *;omega) |refine s2 rfl fun _ _hb=>?_ |refine sP rfl (e) rfl ?_ |refine s3 rfl ?_ ?_<;>rintro rfl |refine aU rfl ?_ |refine Aa ?_|(refine aC rfl ?_ ?_<;>rintro⟨⟩))
 all_goals first|(exfalso;first|omega|simp only[oZ] at *;omega;done)|skip
 all_goals (repeat first |refine sN rfl ?_ |((first|refine sA rfl ?_ ?_|refine s4 rfl ‹_› rfl ?_ ?_);first|exact tI|omega|simp only[oZ] at *;omega) |refine s2 rfl fun _ _hb=>?_ |refine sP rfl (e) rfl ?_ |refine s3 rfl ?_ ?_<;>rintro rfl |refine aU rfl ?_ |refine Aa ?_)
 all_goals (subst_vars;exact aR ⟨_,rfl,rfl⟩)
theorem Uy(n:Int)(h:0≤n∧n < 100):Pure Tryz.prog TB 244 [eI .i64 n] (eT (C8 n.toNat)):=by
 refine eG Tryz.func244 rfl (by kernel_rfl) rfl ?_;intro Γ hΓ
 (repeat first |refine sN rfl ?_ |((first|refine sA rfl ?_ ?_|refine s4 rfl ‹_› rfl ?_ ?_);first|exact tI|omega|simp only[oZ] at *;omega) |refine s2 rfl fun _ _hb=>?_ |refine sP rfl (Nn n h) rfl ?_ |refine s3 rfl ?_ ?_<;>rintro rfl |refine aU rfl ?_ |refine Aa ?_)
 (subst_vars;exact aR ⟨_,rfl,rfl⟩)
theorem Rs(n:Int)(h:0≤n∧n < 100):Pure Tryz.prog TB 197 [eI .i64 n] (eT (C8 n.toNat)):=by
 refine eG Tryz.func197 rfl (by kernel_rfl) rfl ?_;intro Γ hΓ
 (repeat first |refine sN rfl ?_ |((first|refine sA rfl ?_ ?_|refine s4 rfl ‹_› rfl ?_ ?_);first|exact tI|omega|simp only[oZ] at *;omega) |refine s2 rfl fun _ _hb=>?_ |refine sP rfl (Uy n h) rfl ?_ |refine s3 rfl ?_ ?_<;>rintro rfl |refine aU rfl ?_ |refine Aa ?_)
 (subst_vars;exact aR ⟨_,rfl,rfl⟩)
theorem SV{α:Type}{l:List α}{z:α}{k:Nat}(h:l[k]? = some z):EX l z (k+1)=EX l z k:=by
 have hk:=(List.getElem?_eq_some_iff.1 h).1
 have e:k - (l.take k).length=0:=by simp;omega
 unfold EX
 rw [List.take_add_one,h,show l.length - k=(l.length - (k+1))+1 by omega,List.replicate_succ]
 simp
theorem Nh{a:AP}(h:Hh a):Pure Tryz.prog TB 130 [A2 a] (Aj (Ni a)):=by
 have hb:=h.b.1
 have hn1:=h.n1
 have hac:=h.ac
 have hl0:(Fv a).length=a.nx.length:=by simp [Fv,hac]
 have hren:∀(l:List Int) (r:Nat→Nat) k,(EX (l.map AB) (AB 0) k).map (C.BA r)=EX (l.map AB) (AB 0) k:=fun l r k=>UL (fun x hx=>by obtain⟨y,_,rfl⟩:=List.mem_map.1 hx;rfl) rfl
 refine eG Tryz.func130 rfl (by kernel_rfl) rfl ?_;intro Γ hΓ
 (repeat first |refine sN rfl ?_ |((first|refine sA rfl ?_ ?_|refine s4 rfl ‹_› rfl ?_ ?_);first|exact tI|omega|simp only[oZ] at *;omega) |refine s2 rfl fun _ _hb=>?_ |refine s3 rfl ?_ ?_<;>rintro rfl |refine aU rfl ?_ |refine Aa ?_)
 (refine pW rfl ?_ rfl (by rfl);refine HI rfl rfl (by rfl) (by rfl) (Nat.le_of_ble_eq_true rfl) (by omega) (by omega) (by omega) ?_)
 (repeat first |refine sN rfl ?_ |((first|refine sA rfl ?_ ?_|refine s4 rfl ‹_› rfl ?_ ?_);first|exact tI|omega|simp only[oZ] at *;omega) |refine s2 rfl fun _ _hb=>?_ |refine s3 rfl ?_ ?_<;>rintro rfl |refine aU rfl ?_ |refine Aa ?_)
 refine aB ?_
 refine aL (α:={i:Nat // i≤a.nx.length}) [1,20] [] rfl rfl (fun s=>[(3,.o (.arr 0 1 0 a.nx.length)),(21,eI .i64 s.1)]) (fun s=>[(0,.cells 3 1 (EX ((Fv a).map AB) (AB 0) s.1))]) 1 (fun s=>a.nx.length - s.1) (⟨0,by omega⟩) hΓ rfl (by ((repeat' first|exact tI|rfl|refine And.intro ?_ ?_)<;>(simp[cX,zC,hΓ,UK,hren,hl0]<;>rfl))) ?_;rintro⟨i,hi⟩;(try dsimp only[cA,cB])
 by_cases hlt:i < a.nx.length
 ·obtain⟨bb,hbb⟩:=get_some (l:=a.ac) (k:=i) (by omega)
  have hbb':=get_map (g:=Gq) hbb
  have hc:(Fv a)[i]? = some (if bb then 1 else 0):=by unfold Fv;rw [List.getElem?_map,hbb];rfl
  have hg:=OL (l:=(Fv a).map AB) (z:=AB 0) (k:=i) (by simp [hl0,hlt])
  (repeat first |refine sN rfl ?_ |((first|refine sA rfl ?_ ?_|refine s4 rfl ‹_› rfl ?_ ?_);first|exact tI|omega|simp only[oZ] at *;omega) |refine s2 rfl fun _ _hb=>?_ |refine s3 rfl ?_ ?_<;>rintro rfl |refine aU rfl ?_ |refine Aa ?_)
  ((refine aC rfl ?_ ?_<;>rintro⟨⟩);all_goals try(exfalso;first|omega|simp only[oZ] at *;omega))
  refine aK ?_
  refine aS (aB ?_)
  cases bb
  ·have hs:=SV (l:=(Fv a).map AB) (z:=AB 0) (k:=i) (by simp [hc])
   (repeat first |refine sN rfl ?_ |((first|refine sA rfl ?_ ?_|refine s4 rfl ‹_› rfl ?_ ?_);first|exact tI|omega|simp only[oZ] at *;omega) |refine s2 rfl fun _ _hb=>?_ |refine s3 rfl ?_ ?_<;>rintro rfl |refine aU rfl ?_ |refine Aa ?_)
   ((refine aC rfl ?_ ?_<;>rintro⟨⟩);all_goals try (simp at _hb;done))
   refine aK ?_
   (repeat first |refine sN rfl ?_ |((first|refine sA rfl ?_ ?_|refine s4 rfl ‹_› rfl ?_ ?_);first|exact tI|omega|simp only[oZ] at *;omega) |refine s2 rfl fun _ _hb=>?_ |refine s3 rfl ?_ ?_<;>rintro rfl |refine aU rfl ?_ |refine Aa ?_)
   refine⟨⟨i+1,by first|omega|simp only[oZ] at *;omega⟩,by dsimp only;(first|omega|simp only[oZ] at *;omega),[0],?_⟩
   simp[cX,zC,hΓ,hren,hs]
  ·have hs:=OM (l:=(Fv a).map AB) (z:=AB 0) (k:=i) (x:=AB 1) (by simp [hc])
   (repeat first |refine sN rfl ?_ |((first|refine sA rfl ?_ ?_|refine s4 rfl ‹_› rfl ?_ ?_);first|exact tI|omega|simp only[oZ] at *;omega) |refine s2 rfl fun _ _hb=>?_ |refine s3 rfl ?_ ?_<;>rintro rfl |refine aU rfl ?_ |refine Aa ?_)
   ((refine aC rfl ?_ ?_<;>rintro⟨⟩);all_goals try (simp at _hb;done))
   (repeat first |refine sN rfl ?_ |((first|refine sA rfl ?_ ?_|refine s4 rfl ‹_› rfl ?_ ?_);first|exact tI|omega|simp only[oZ] at *;omega) |refine s2 rfl fun _ _hb=>?_ |refine s3 rfl ?_ ?_<;>rintro rfl |refine aU rfl ?_ |refine Aa ?_)
   refine⟨⟨i+1,by first|omega|simp only[oZ] at *;omega⟩,by dsimp only;(first|omega|simp only[oZ] at *;omega),[0],?_⟩
   have hsp:Ai (AB 0) 0 (eC (eI .i64 1))=AB 1:=rfl
   rw [hsp,hs]
   simp[cX,zC,hΓ,hren]
 obtain rfl:i=a.nx.length:=by omega
 have he:EX ((Fv a).map AB) (AB 0) a.nx.length=(Fv a).map AB:=by
  have:=OK ((Fv a).map AB) (AB 0)
  rwa [List.length_map,hl0] at this
 rw [he]
 (repeat first |refine sN rfl ?_ |((first|refine sA rfl ?_ ?_|refine s4 rfl ‹_› rfl ?_ ?_);first|exact tI|omega|simp only[oZ] at *;omega) |refine s2 rfl fun _ _hb=>?_ |refine s3 rfl ?_ ?_<;>rintro rfl |refine aU rfl ?_ |refine Aa ?_)
 ((refine aC rfl ?_ ?_<;>rintro⟨⟩);all_goals try(exfalso;first|omega|simp only[oZ] at *;omega))
 refine aE ?_
 refine Ak.DS [0] [1,20] rfl [(3,Aj (Fv a))] ⟨⟨_,rfl,.o (.full (by simp) rfl (by simp [Function.comp_def]) (by simp [hl0]))⟩,trivial⟩ ?_;(try dsimp only[cA,cB])
 (repeat first |refine sN rfl ?_ |((first|refine sA rfl ?_ ?_|refine s4 rfl ‹_› rfl ?_ ?_);first|exact tI|omega|simp only[oZ] at *;omega) |refine s2 rfl fun _ _hb=>?_ |refine s3 rfl ?_ ?_<;>rintro rfl |refine aU rfl ?_ |refine Aa ?_)
 refine aB ?_
 refine aL (α:={s:(List Int×Nat)×Nat // NZ a s.1.1 s.1.2 s.2}) [1] [] rfl rfl (fun s=>[(3,Aj s.1.1.1),(5,eI .i64 s.1.1.2)]) (fun s=>[]) 0 (fun s=>s.1.2) (⟨⟨⟨Fv a,0⟩,a.nx.length⟩,NZ.zero h⟩) hΓ rfl (by ((repeat' first|exact tI|rfl|refine And.intro ?_ ?_)<;>(simp[cX,zC,hΓ]<;>rfl))) ?_;rintro⟨⟨⟨cs,n⟩,fu⟩,hI⟩;(try dsimp only[cA,cB])
 have hI:NZ a cs n fu:=hI
 have hcl:=hI.len
 have hcr:=hI.rng
 have hst:=hI.step h
 have hKget:=fun q hq=>SE (a:=a) (cs:=cs) (q:=q) hq
 have hKlen:=SF a cs
 have hKn:=PW (a:=a) hcr
 have hKu:=UB (a:=a) hcr
 generalize JJ a cs=KT at *
 have hnl:(Dk KT).length=a.nx.length:=by simp [Dk,hKlen]
 have hnr:n≤64:=by have:=hI.cnt;have h9:=GR cs;omega
 refine aB ?_
 (repeat first |refine sN rfl ?_ |((first|refine sM rfl ?_ ?_|refine s4 rfl ‹_› rfl ?_ ?_);first|exact tI|omega|simp only[oZ] at *;omega) |refine s2 rfl fun _ _hb=>?_ |refine s3 rfl ?_ ?_<;>rintro rfl |refine aU rfl ?_ |refine Aa ?_ |refine rE (by kernel_rfl) ?_)
 (refine pW rfl ?_ rfl (by rfl);refine Jl ?_)
 (repeat first |refine sN rfl ?_ |((first|refine sA rfl ?_ ?_|refine s4 rfl ‹_› rfl ?_ ?_);first|exact tI|omega|simp only[oZ] at *;omega) |refine s2 rfl fun _ _hb=>?_ |refine s3 rfl ?_ ?_<;>rintro rfl |refine aU rfl ?_ |refine Aa ?_)
 (refine pW rfl ?_ rfl (by rfl);refine HI rfl rfl (by rfl) (by rfl) (Nat.le_of_ble_eq_true rfl) (by omega) (by omega) (by omega) ?_)
 (repeat first |refine sN rfl ?_ |((first|refine sA rfl ?_ ?_|refine s4 rfl ‹_› rfl ?_ ?_);first|exact tI|omega|simp only[oZ] at *;omega) |refine s2 rfl fun _ _hb=>?_ |refine s3 rfl ?_ ?_<;>rintro rfl |refine aU rfl ?_ |refine Aa ?_)
 refine aB ?_
 refine aL (α:={q:Nat // q≤a.nx.length}) [1,3,5,6,7,38,39] [] rfl rfl (fun s=>[(40,eI .i64 s.1)]) (fun s=>[(0,.mp (Du (Qg (uq (KT.take s.1))))),(1,.cells 3 1 (EX ((Dk KT).map AB) (AB 0) s.1))]) 2 (fun s=>a.nx.length - s.1) (⟨0,by omega⟩) hΓ rfl (by ((repeat' first|exact tI|rfl|refine And.intro ?_ ?_)<;>(simp[cX,zC,hΓ,cN,UK,hren,hnl,hcl,uq,uniq,Qg,Du]<;>rfl))) ?_;rintro⟨q,hq⟩;(try dsimp only[cA,cB])
 by_cases hlq:q < a.nx.length
 ·obtain⟨row,hrow,hrl,hri⟩:=h.b.2 q hlq
  have hrow':=get_map (g:=Dm) hrow
  have hrD:a.nx.getD q []=row:=DT hrow
  obtain⟨c,hc⟩:=get_some (l:=cs) (k:=q) (by omega)
  have hc':=get_map (g:=Bq) hc
  have hcD:cs.getD q 0=c:=DT hc
  have hK:=hKget q hlq
  rw [UA,hrD,hcD] at hK
  have hcb:=hcr c (List.mem_of_getElem? hc)
  have Rq:=Rs (TB:=TB) c hcb
  have hdl:=KJ c.toNat
  have hll:(Ac a.al).length≤6:=AL _ 6
  (repeat first |refine sN rfl ?_ |((first|refine sA rfl ?_ ?_|refine s4 rfl ‹_› rfl ?_ ?_);first|exact tI|omega|simp only[oZ] at *;omega) |refine s2 rfl fun _ _hb=>?_ |refine s3 rfl ?_ ?_<;>rintro rfl |refine aU rfl ?_ |refine Aa ?_)
  ((refine aC rfl ?_ ?_<;>rintro⟨⟩);all_goals try(exfalso;first|omega|simp only[oZ] at *;omega))
  refine aK ?_
  refine aS (aB ?_)
  (repeat first |refine sN rfl ?_ |((first|refine sA rfl ?_ ?_|refine s4 rfl ‹_› rfl ?_ ?_);first|exact tI|omega|simp only[oZ] at *;omega) |refine s2 rfl fun _ _hb=>?_ |refine sP rfl (Rq) rfl ?_ |refine s3 rfl ?_ ?_<;>rintro rfl |refine aU rfl ?_ |refine Aa ?_)
  refine aB ?_
  refine aL (α:={s:Nat×W // s.1≤row.length∧s.2=C8 c.toNat++C4 ((row.take s.1).map fun x=>cs.getD x.toNat 0)}) [1,3,5,6,7,8,38,39,40,50,51] [0,1] rfl rfl (fun s=>[(10,eT s.1.2),(52,eI .i64 s.1.1)]) (fun s=>[]) 2 (fun s=>row.length - s.1.1) (⟨⟨0,C8 c.toNat⟩,by simp,by simp [C4]⟩) hΓ rfl (by ((repeat' first|exact tI|rfl|refine And.intro ?_ ?_)<;>(simp[cX,zC,hΓ,cN,hren]<;>rfl))) ?_;rintro⟨⟨j,u⟩,hj,hu⟩;(try dsimp only[cA,cB])
  have hj:j≤row.length:=hj
  have hu:u=C8 c.toNat++C4 ((row.take j).map fun x=>cs.getD x.toNat 0):=hu
  have hul:u.length≤2+3*j:=by
   have:=Tt ((row.take j).map fun x=>cs.getD x.toNat 0)
   rw [List.length_map,List.length_take] at this
   rw [hu,List.length_append]
   omega
  by_cases hjl:j < row.length
  ·obtain⟨x,hx⟩:=get_some hjl
   have hx':=get_map (g:=Bq) hx
   have hxi:=hri j x hx
   obtain⟨e,he⟩:=get_some (l:=cs) (k:=x.toNat) (by omega)
   have he':=get_map (g:=Bq) he
   have heD:cs.getD x.toNat 0=e:=DT he
   have heb:=hcr e (List.mem_of_getElem? he)
   have hie:=Rs (TB:=TB) e heb
   have hdl2:=KJ e.toNat
   have hu2:u++([44]++C8 e.toNat)=C8 c.toNat++C4 ((row.take (j+1)).map fun x=>cs.getD x.toNat 0):=by
    have e1:(row.take (j+1)).map (fun x=>cs.getD x.toNat 0)=(row.take j).map (fun x=>cs.getD x.toNat 0)++[e]:=by
     rw [List.take_add_one,hx,List.map_append,←heD];rfl
    rw [e1,Ts,hu,List.append_assoc];rfl
   (repeat first |refine sN rfl ?_ |((first|refine sA rfl ?_ ?_|refine s4 rfl ‹_› rfl ?_ ?_);first|exact tI|omega|simp only[oZ] at *;omega) |refine s2 rfl fun _ _hb=>?_ |refine s3 rfl ?_ ?_<;>rintro rfl |refine aU rfl ?_ |refine Aa ?_)
   ((refine aC rfl ?_ ?_<;>rintro⟨⟩);all_goals try(exfalso;first|omega|simp only[oZ] at *;omega))
   refine aK ?_
   refine aS (aB ?_)
   (repeat first |refine sN rfl ?_ |((first|refine sA rfl ?_ ?_|refine s4 rfl ‹_› rfl ?_ ?_);first|exact tI|omega|simp only[oZ] at *;omega) |refine s2 rfl fun _ _hb=>?_ |refine sP rfl (hie) rfl ?_|(refine Ag rfl ?_;refine gA rfl ?_;first|refine gS (fun _ _=>XI rfl rfl (by simp;omega)) ?_) |refine s3 rfl ?_ ?_<;>rintro rfl |refine aU rfl ?_ |refine Aa ?_)
   refine⟨⟨⟨j+1,u++([44]++C8 e.toNat)⟩,by dsimp only;omega,hu2⟩,by dsimp only;(first|omega|simp only[oZ] at *;omega),[0,1],?_⟩
   simp[cX,zC,hΓ,cN,hren]
  ·obtain rfl:j=row.length:=by omega
   rw [List.take_length] at hu
   rw [←hu] at hK
   have hno:=WR hK
   have hfk:=SB (uq (KT.take q)) u
   have hus:=Kx hK
   have hnq:(Dk KT)[q]? = some (CJ KT u):=by unfold Dk;rw [List.getElem?_map,hK];rfl
   have hg:=OL (l:=(Dk KT).map AB) (z:=AB 0) (k:=q) (by simp [hnl,hlq])
   have hst2:=OM (l:=(Dk KT).map AB) (z:=AB 0) (k:=q) (x:=AB (CJ KT u)) (by simp [hnq])
   have hsp:Ai (AB 0) 0 (eC (eI .i64 (CJ KT u)))=AB (CJ KT u):=rfl
   (repeat first |refine sN rfl ?_ |((first|refine sA rfl ?_ ?_|refine s4 rfl ‹_› rfl ?_ ?_);first|exact tI|omega|simp only[oZ] at *;omega) |refine s2 rfl fun _ _hb=>?_ |refine s3 rfl ?_ ?_<;>rintro rfl |refine aU rfl ?_ |refine Aa ?_)
   ((refine aC rfl ?_ ?_<;>rintro⟨⟩);all_goals try(exfalso;first|omega|simp only[oZ] at *;omega))
   refine aE ?_
   by_cases hin:u∈uq (KT.take q)
   ·rw [if_pos hin] at hus
    have hf:=hfk.1 hin
    rw [←hno.1 hin] at hf
    (repeat first |refine sN rfl ?_ |((first|refine sA rfl ?_ ?_|refine s4 rfl ‹_› rfl ?_ ?_);first|exact tI|omega|simp only[oZ] at *;omega) |refine s2 rfl fun _ _hb=>?_|(refine Ag rfl ?_;refine gA rfl ?_;first|refine gQ (Vu hf rfl rfl rfl) rfl ?_) |refine s3 rfl ?_ ?_<;>rintro rfl |refine aU rfl ?_ |refine Aa ?_)
    ((refine aC rfl ?_ ?_<;>rintro⟨⟩);all_goals try (simp at _hb;done))
    refine aK ?_
    (repeat first |refine sN rfl ?_ |((first|refine sA rfl ?_ ?_|refine s4 rfl ‹_› rfl ?_ ?_);first|exact tI|omega|simp only[oZ] at *;omega) |refine s2 rfl fun _ _hb=>?_ |refine s3 rfl ?_ ?_<;>rintro rfl |refine aU rfl ?_ |refine Aa ?_)
    refine⟨⟨q+1,by first|omega|simp only[oZ] at *;omega⟩,by dsimp only;(first|omega|simp only[oZ] at *;omega),[0,1],?_⟩
    rw [hsp,hst2]
    simp[cX,zC,hΓ,cN,hren,hus]
   ·rw [if_neg hin] at hus
    have hf:=hfk.2 hin
    have hnn:=hno.2 hin
    (repeat first |refine sN rfl ?_ |((first|refine sA rfl ?_ ?_|refine s4 rfl ‹_› rfl ?_ ?_);first|exact tI|omega|simp only[oZ] at *;omega) |refine s2 rfl fun _ _hb=>?_|(refine Ag rfl ?_;refine gA rfl ?_;first|refine gQ (Vt hf rfl rfl rfl) rfl ?_) |refine s3 rfl ?_ ?_<;>rintro rfl |refine aU rfl ?_ |refine Aa ?_)
    ((refine aC rfl ?_ ?_<;>rintro⟨⟩);all_goals try (simp at _hb;done))
    (repeat first |refine sN rfl ?_ |((first|refine sA rfl ?_ ?_|refine s4 rfl ‹_› rfl ?_ ?_);first|exact tI|omega|simp only[oZ] at *;omega) |refine s2 rfl fun _ _hb=>?_|(refine Ag rfl ?_;refine gA rfl ?_;first|refine gQ (NF rfl rfl) rfl ?_) |refine s3 rfl ?_ ?_<;>rintro rfl |refine aU rfl ?_ |refine Aa ?_)
    rw [←hnn]
    (refine Ag rfl ?_;refine Hq ?_ rfl (by rfl);refine XG rfl rfl rfl rfl hf ?_)
    rw [hnn,←Ry,←hus,←hnn]
    (repeat first |refine sN rfl ?_ |((first|refine sA rfl ?_ ?_|refine s4 rfl ‹_› rfl ?_ ?_);first|exact tI|omega|simp only[oZ] at *;omega) |refine s2 rfl fun _ _hb=>?_ |refine s3 rfl ?_ ?_<;>rintro rfl |refine aU rfl ?_ |refine Aa ?_)
    refine⟨⟨q+1,by first|omega|simp only[oZ] at *;omega⟩,by dsimp only;(first|omega|simp only[oZ] at *;omega),[0,1],?_⟩
    rw [hsp,hst2]
    simp[cX,zC,hΓ,cN,hren]
 ·obtain rfl:q=a.nx.length:=by omega
  have hT:KT.take a.nx.length=KT:=by rw [←hKlen,List.take_length]
  have he2:EX ((Dk KT).map AB) (AB 0) a.nx.length=(Dk KT).map AB:=by
   have:=OK ((Dk KT).map AB) (AB 0)
   rwa [List.length_map,hnl] at this
  have hun:=GR KT
  rw [hT,he2]
  (repeat first |refine sN rfl ?_ |((first|refine sA rfl ?_ ?_|refine s4 rfl ‹_› rfl ?_ ?_);first|exact tI|omega|simp only[oZ] at *;omega) |refine s2 rfl fun _ _hb=>?_ |refine s3 rfl ?_ ?_<;>rintro rfl |refine aU rfl ?_ |refine Aa ?_)
  ((refine aC rfl ?_ ?_<;>rintro⟨⟩);all_goals try(exfalso;first|omega|simp only[oZ] at *;omega))
  refine aE ?_
  refine Ak.DS [1] [1,5,6] rfl [(7,Aj (Dk KT))] ⟨⟨_,rfl,.o (.full (by simp) rfl (by simp [Function.comp_def]) (by simp [hnl,hcl]))⟩,trivial⟩ ?_;(try dsimp only[cA,cB])
  rcases hst with ⟨g1,g2⟩|⟨g1,g2,g3⟩
  ·rw [g2,←hKn]
   (repeat first |refine sN rfl ?_ |((first|refine sA rfl ?_ ?_|refine s4 rfl ‹_› rfl ?_ ?_);first|exact tI|omega|simp only[oZ] at *;omega) |refine s2 rfl fun _ _hb=>?_|(refine Ag rfl ?_;refine gA rfl ?_;first|refine gQ (NF rfl rfl) rfl ?_) |refine s3 rfl ?_ ?_<;>rintro rfl |refine aU rfl ?_ |refine Aa ?_)
   ((refine aC rfl ?_ ?_<;>rintro⟨⟩);all_goals try(exfalso;first|omega|simp only[oZ] at *;omega))
   (repeat first |refine sN rfl ?_ |((first|refine sA rfl ?_ ?_|refine s4 rfl ‹_› rfl ?_ ?_);first|exact tI|omega|simp only[oZ] at *;omega) |refine s2 rfl fun _ _hb=>?_ |refine s3 rfl ?_ ?_<;>rintro rfl |refine aU rfl ?_ |refine Aa ?_)
   (subst_vars;exact aR ⟨_,rfl,rfl⟩)
  ·rw [←hKn,←hKu] at g3
   (repeat first |refine sN rfl ?_ |((first|refine sA rfl ?_ ?_|refine s4 rfl ‹_› rfl ?_ ?_);first|exact tI|omega|simp only[oZ] at *;omega) |refine s2 rfl fun _ _hb=>?_|(refine Ag rfl ?_;refine gA rfl ?_;first|refine gQ (NF rfl rfl) rfl ?_) |refine s3 rfl ?_ ?_<;>rintro rfl |refine aU rfl ?_ |refine Aa ?_)
   ((refine aC rfl ?_ ?_<;>rintro⟨⟩);all_goals try(exfalso;first|omega|simp only[oZ] at *;omega))
   refine aK ?_
   (repeat first |refine sN rfl ?_ |((first|refine sA rfl ?_ ?_|refine s4 rfl ‹_› rfl ?_ ?_);first|exact tI|omega|simp only[oZ] at *;omega) |refine s2 rfl fun _ _hb=>?_|(refine Ag rfl ?_;refine gA rfl ?_;first|refine gQ (NF rfl rfl) rfl ?_) |refine s3 rfl ?_ ?_<;>rintro rfl |refine aU rfl ?_ |refine Aa ?_)
   refine⟨⟨⟨⟨Dk KT,(uq KT).length⟩,fu - 1⟩,g3⟩,by dsimp only;(first|omega|simp only[oZ] at *;omega),[],?_⟩
   simp[cX,zC,hΓ]
end Go.Am
namespace Go.Am
open Go
set_option linter.unusedVariables false
theorem Oq{a b:Nat}(ha:a < 2 ^ 62)(hb:b < 2 ^ 62):PQ .i64 a b=((a &&& b:Nat):Int):=by
 have h0:a &&& b≤a:=Nat.and_le_left
 unfold PQ
 have h1:(BitVec.ofInt IntKind.i64.bits (a:Int) &&& BitVec.ofInt IntKind.i64.bits (b:Int)).toNat=a &&& b:=by
  have e:IntKind.i64.bits=64:=rfl
  rw [e]
  simp only [BitVec.toNat_and,BitVec.ofInt_natCast,BitVec.toNat_ofNat]
  rw [Nat.mod_eq_of_lt (by omega),Nat.mod_eq_of_lt (by omega)]
 rw [h1]
 exact IntWalk.i64_in _ (by omega)
theorem Uj(s n:Nat):((s:Nat):Int).fdiv (2 ^ n)=((s / 2 ^ n:Nat):Int):=by
 have h:(0:Int)≤2 ^ n:=Int.le_of_lt (Int.pow_pos (by omega))
 rw [Int.fdiv_eq_ediv_of_nonneg _ h]
 push_cast
 rfl
theorem Ob{s n:Nat}(hs:s < 2 ^ 62)(hn:n < 64):EM (s:Nat) n=s.testBit n:=by
 unfold EM
 have e:min n 64=n:=by omega
 rw [e,Uj]
 have h1:s / 2 ^ n≤s:=Nat.div_le_self _ _
 have h2:=Oq (a:=s / 2 ^ n) (b:=1) (by omega) (by omega)
 rw [show ((1:Nat):Int)=1 from rfl] at h2
 rw [h2,Nat.testBit_eq_decide_div_mod_eq,Nat.and_one_is_mod]
 congr 1
 rw [eq_iff_iff]
 omega
theorem Xr{s a:Nat}:s &&& a=s↔∀n,s.testBit n=true→a.testBit n=true:=by
 constructor
 ·intro h n hn
  have:=congrArg (·.testBit n) h
  simp only [Nat.testBit_and,hn,Bool.true_and] at this
  exact this
 ·intro h
  apply Nat.eq_of_testBit_eq
  intro n
  rw [Nat.testBit_and]
  cases hs:s.testBit n
  ·rfl
  ·rw [h n hs];rfl
abbrev Wd:=List UInt8
def Ew(c:UInt8):Bool:=decide (97≤c.toNat∧c.toNat < 103)
def Eu(w:Wd):Bool:=decide (w.length≤50000) && w.all Ew
def HP(w:Wd):Nat:=w.foldl (fun s c=>s ||| 2 ^ (c.toNat - 97)) 0
def HD(al:Int)(c:UInt8):Bool:=Ew c && EM al (c.toNat - 97)
def within(w:Wd)(al:Int):Bool:=decide (w.length≤50000) && (BI al && w.all (HD al))
theorem Oj(n:Nat):∀(w:Wd) (s:Nat),(w.foldl (fun s c=>s ||| 2 ^ (c.toNat - 97)) s).testBit n=(s.testBit n || w.any fun c=>decide (c.toNat - 97=n))
 | [],s=>by simp
 | c::w,s=>by
  rw [List.foldl_cons,Oj n w,Nat.testBit_or,Nat.testBit_two_pow,List.any_cons,Bool.or_assoc]
theorem Pd(w:Wd)(n:Nat):(HP w).testBit n=w.any fun c=>decide (c.toNat - 97=n):=by
 unfold HP;rw [Oj];simp
theorem NL:∀ {w:Wd} {s:Nat},w.all Ew=true→s < 64→w.foldl (fun s c=>s ||| 2 ^ (c.toNat - 97)) s < 64
 | [],s,_,hs=>hs
 | c::w,s,h,hs=>by
  simp only [List.all_cons,Bool.and_eq_true] at h
  rw [List.foldl_cons]
  refine NL h.2 ?_
  have h1:=h.1
  unfold Ew at h1
  simp only [decide_eq_true_eq] at h1
  have h2:2 ^ (c.toNat - 97) < 2 ^ 6:=Nat.pow_lt_pow_right (by omega) (by omega)
  exact Nat.or_lt_two_pow (n:=6) hs h2
theorem Xm{w:Wd}{al:Int}(hw:w.all Ew=true)(ha:BI al=true):decide (PQ .i64 (HP w:Nat) al=(HP w:Nat))=w.all (HD al):=by
 have hs:HP w < 64:=NL hw (by omega)
 unfold BI at ha
 simp only [decide_eq_true_eq] at ha
 obtain⟨a,rfl⟩:∃a:Nat,al=a:=⟨al.toNat,by omega⟩
 rw [Oq (by omega) (by omega)]
 rw [Bool.eq_iff_iff,decide_eq_true_eq,List.all_eq_true]
 have h1:((HP w &&& a:Nat):Int)=(HP w:Nat)↔HP w &&& a=HP w:=by omega
 rw [h1,Xr]
 rw [List.all_eq_true] at hw
 constructor
 ·intro h c hc
  have h2:=hw c hc
  unfold HD
  rw [h2,Bool.true_and]
  unfold Ew at h2
  simp only [decide_eq_true_eq] at h2
  rw [Ob (by omega) (by omega)]
  refine h _ ?_
  rw [Pd,List.any_eq_true]
  exact⟨c,hc,by simp⟩
 ·intro h n hn
  rw [Pd,List.any_eq_true] at hn
  obtain⟨c,hc,hcn⟩:=hn
  simp only [decide_eq_true_eq] at hcn
  have h2:=hw c hc
  have h3:=h c hc
  unfold HD at h3
  rw [h2,Bool.true_and] at h3
  unfold Ew at h2
  simp only [decide_eq_true_eq] at h2
  rw [Ob (by omega) (by omega),hcn] at h3
  exact h3
theorem QK{w:Wd}{al:Int}(h:w.all (HD al)=true):w.all Ew=true:=by
 rw [List.all_eq_true] at *
 intro c hc
 have:=h c hc
 unfold HD at this
 simp only [Bool.and_eq_true] at this
 exact this.1
end Go.Am
