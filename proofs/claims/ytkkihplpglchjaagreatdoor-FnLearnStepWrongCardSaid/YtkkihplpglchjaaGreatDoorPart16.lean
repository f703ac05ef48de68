/-
  Arrays of arrays of the call's own: the inner ones lie sealed, one of them at a time is taken out and put back.
-/
import Derived.Test.YtkkihplpglchjaaGreatDoorPart15
import Derived.Test.YtkkihplpglchjaaGreatDoorPart14
import Derived.Test.YtkkihplpglchjaaGreatDoorPart6
import Derived.Test.YtkkihplpglchjaaGreatDoorPart5
import Derived.WideKeyArr
import Derived.Test.YtkkihplpglchjaaGreatDoorPart12
set_option linter.constructorNameAsVariable false
set_option linter.unusedSimpArgs false
set_option linter.unusedVariables false
namespace Go.Am
open Go
abbrev HH:=List (Value×List Int)
def sI(l:HH):List (Value×List Value):=l.map fun x=>(x.1,x.2.map (.int .i64))
def Az(l:HH):List (List C):=l.map fun x=>[.d (.v x.1)]
abbrev JA(xs:List Int):List (List C):=xs.map AQ
theorem XL{V:View}{i k off n:Nat}{v:Value}(h:AE V (.arr i k off n) v):(V.nl i∧off=0∧n=0∧v=.slice none 0 0)∨(¬V.nl i∧off+n≤V.cap i∧v=.slice (some ⟨V.ρ i,off*k,none⟩) n (V.cap i - off)):=by
 cases h with
 | nil _ h=>exact .inl ⟨h,rfl,rfl,rfl⟩
 | arr _ h1 h2=>exact .inr ⟨h1,h2,rfl⟩
theorem IU(l m:HH):sI (l++m)=sI l++sI m:=List.map_append
theorem AW(l m:HH):Az (l++m)=Az l++Az m:=List.map_append
theorem Cj(l:HH):(Az l).length=l.length:=List.length_map _
theorem QB(r:Nat→Nat)(l:HH):(Az l).map (C.Ce r)=Az l:=by
 unfold Az
 rw [List.map_map]
 rfl
theorem WG(l:List Int):(JA l).length=l.length:=List.length_map _
section
variable {P:Program}{TB:Bh}{Γ:Ctx}{N:Nat}{V:View}{σ:Ab}{a i s:Nat}{T Ta:TypeId}{R1 R2:List (List C)}{xs:List Int}{l1 l2:HH}
theorem RY{l:HH}{x:Value×List Value}(h:x∈sI l):∃y∈l,x=(y.1,y.2.map (.int .i64)):=by
 obtain⟨y,hy,rfl⟩:=List.mem_map.1 h
 exact⟨y,hy,rfl⟩
theorem Inv.put(h:Inv TB Γ V σ)(ha:look σ a=some (.cells Ta 1 (R1++[.arr i 1 0 xs.length]::R2)))(hi:look σ i=some (.cells T 1 (JA xs)))(hs:look σ s=some (.sld T (sI (l1++l2)))) :
 ∃v,Inv TB Γ V ((a,.cells Ta 1 (R1++[.d (.v v)]::R2))::(s,.sld T (sI (l1++(v,xs)::l2)))::kill i σ):=by
 have has:a≠s:=fun e=>by rw [e,hs] at ha;cases ha
 have his:i≠s:=fun e=>by rw [e,hs] at hi;cases hi
 have hai:a≠i:=fun e=>by
  rw [e,hi] at ha
  injection ha with ha;injection ha with _ _ ha
  have h1:(JA xs)[R1.length]? = some [.arr i 1 0 xs.length]:=by rw [ha];simp
  rw [List.getElem?_map,Option.map_eq_some_iff] at h1
  obtain⟨x,_,hx⟩:=h1
  cases hx
 rcases h.st.obj a _ ha with ⟨_,h0⟩|⟨hna,cur,h2,h3,h4,h5,h6,h7⟩
 ·simp at h0
 obtain⟨v,hv,hc⟩:=h7 R1.length [.arr i 1 0 xs.length] 0 (.arr i 1 0 xs.length) (by simp) rfl
 have hc:=XL hc
 have hsl:MM v=true:=by rcases hc with ⟨_,_,_,rfl⟩|⟨_,_,rfl⟩<;>rfl
 have hblk:∀b,IC v b→¬V.nl i∧b=V.ρ i:=by
  rintro b ⟨o,n,c,rfl⟩
  rcases hc with ⟨_,_,_,hw⟩|⟨hn,_,hw⟩
  ·cases hw
  ·injection hw with hw;injection hw with hw;injection hw with hw;exact⟨hn,hw⟩
 have hslot:IZ V.w T v (xs.map (.int .i64)):=by
  rcases h.st.obj i _ hi with ⟨g1,g2⟩|⟨hni,cur',g2,g3,g4,g5,g6,g7⟩
  ·have:xs=[]:=by simpa using g2
   subst this
   rcases hc with ⟨_,_,_,rfl⟩|⟨hn,_⟩
   ·exact .inl ⟨rfl,rfl⟩
   ·exact absurd g1 hn
  ·rcases hc with ⟨hn,_⟩|⟨_,hle,rfl⟩
   ·exact absurd hn hni
   ·refine .inr ⟨V.ρ i,V.cap i,cur',by simp,g2,by simpa using g3,by rw [WG] at g4;simpa using g4,g5,fun j x hj=>?_⟩
    rw [List.getElem?_map,Option.map_eq_some_iff] at hj
    obtain⟨n,hn,rfl⟩:=hj
    obtain⟨w,hw,hcw⟩:=g7 j [.d (.v (.int .i64 n))] 0 (.d (.v (.int .i64 n))) (by simp [JA,hn]) rfl
    have:w=.int .i64 n:=AE.val hcw
    subst this
    exact⟨by simpa using hw,rfl⟩
 refine⟨v,?_⟩
 have look':∀id o,look ((a,.cells Ta 1 (R1++[.d (.v v)]::R2))::(s,.sld T (sI (l1++(v,xs)::l2)))::kill i σ) id=some o→
  (id=a∧o=.cells Ta 1 (R1++[.d (.v v)]::R2))∨(id=s∧o=.sld T (sI (l1++(v,xs)::l2)))∨(id≠a∧id≠s∧id≠i∧look σ id=some o):=fun id o ho=>by
  rw [Aw] at ho
  by_cases h1:a=id
  ·rw [if_pos h1] at ho;injection ho with ho;exact .inl ⟨h1.symm,ho.symm⟩
  ·rw [if_neg h1,Aw] at ho
   by_cases h2:s=id
   ·rw [if_pos h2] at ho;injection ho with ho;exact .inr (.inl ⟨h2.symm,ho.symm⟩)
   ·rw [if_neg h2,Ek] at ho
    by_cases h3:id=i
    ·rw [if_pos h3] at ho;cases ho
    ·rw [if_neg h3] at ho;exact .inr (.inr ⟨Ne.symm h1,Ne.symm h2,h3,ho⟩)
 have hsb:∀b,DS V s (.sld T (sI (l1++(v,xs)::l2))) b→DS V s (.sld T (sI (l1++l2))) b∨(¬V.nl i∧b=V.ρ i):=by
  rintro b ⟨x,hx,hb⟩
  obtain⟨y,hy,rfl⟩:=RY hx
  rcases List.mem_append.1 hy with hy|hy
  ·exact .inl ⟨_,List.mem_map.2 ⟨y,List.mem_append_left _ hy,rfl⟩,hb⟩
  ·rcases List.mem_cons.1 hy with rfl|hy
   ·exact .inr (hblk b hb)
   ·exact .inl ⟨_,List.mem_map.2 ⟨y,List.mem_append_right _ hy,rfl⟩,hb⟩
 have hos:=h.st.obj s _ hs
 have hdis:∀x∈sI (l1++l2),∀b,IC x.1 b→¬IC v b:=fun x hx b hb hb'=>by
  obtain⟨hn,rfl⟩:=hblk b hb'
  exact h.st.inj s i _ _ hs hi (Ne.symm his) hos.1 hn _ ⟨x,hx,hb⟩ rfl
 have src:∀id o,look ((a,.cells Ta 1 (R1++[.d (.v v)]::R2))::(s,.sld T (sI (l1++(v,xs)::l2)))::kill i σ) id=some o→¬V.nl id→∀b,DS V id o b→∃id0 o0,look σ id0=some o0∧¬V.nl id0∧DS V id0 o0 b∧(id0=id∨id0=i∧id=s):=fun id o ho hn b hb=>by
  rcases look' id o ho with ⟨rfl,rfl⟩|⟨rfl,rfl⟩|⟨_,_,_,ho⟩
  ·exact⟨_,_,ha,hn,hb,.inl rfl⟩
  ·rcases hsb b hb with hb|⟨h1,rfl⟩
   ·exact⟨_,_,hs,hn,hb,.inl rfl⟩
   ·exact⟨_,_,hi,h1,rfl,.inr ⟨rfl,rfl⟩⟩
  ·exact⟨_,_,ho,hn,hb,.inl rfl⟩
 have noi:∀id o,look ((a,.cells Ta 1 (R1++[.d (.v v)]::R2))::(s,.sld T (sI (l1++(v,xs)::l2)))::kill i σ) id=some o→id≠i:=fun id o ho=>by
  rcases look' id o ho with ⟨rfl,rfl⟩|⟨rfl,rfl⟩|⟨_,_,h3,_⟩
  ·exact hai
  ·exact Ne.symm his
  ·exact h3
 refine⟨h.os,h.tape,h.output,h.old,h.iLt,h.iNew,h.ext,⟨fun id o ho=>?_,fun id o ho=>?_,fun id o ho hn b hb=>?_,fun id id' o o' ho ho' hne hn hn' b hb hb'=>?_⟩,fun id o ho hn b hb=>?_,h.tabs,h.hid.same rfl (fun _ h=>h) (fun _ h=>.inl h) fun b ⟨id,o,ho,hn,hb⟩=>let ⟨id0,o0,g1,g2,g3,_⟩:=src id o ho hn b hb;⟨id0,o0,g1,g2,g3⟩⟩
 ·rcases look' id o ho with ⟨rfl,rfl⟩|⟨rfl,rfl⟩|⟨_,_,_,ho⟩
  ·refine .inr ⟨hna,cur,h2,h3,by simpa using h4,h5,fun r hr=>?_,fun q r j c hq hj=>?_⟩
   ·rcases List.mem_append.1 hr with hr|hr
    ·exact h6 r (List.mem_append_left _ hr)
    ·rcases List.mem_cons.1 hr with rfl|hr
     ·rfl
     ·exact h6 r (List.mem_append_right _ (List.mem_cons_of_mem _ hr))
   ·by_cases hq0:q=R1.length
    ·subst hq0
     simp at hq
     subst hq
     have hj0:j=0:=by have:=(List.getElem?_eq_some_iff.1 hj).1;simp at this;omega
     subst hj0
     simp at hj
     subst hj
     exact⟨v,hv,.d (.v hsl)⟩
    ·refine h7 q r j c ?_ hj
     rw [←hq]
     rcases Nat.lt_or_ge q R1.length with h8|h8
     ·rw [List.getElem?_append_left h8,List.getElem?_append_left h8]
     ·rw [List.getElem?_append_right h8,List.getElem?_append_right h8]
      obtain⟨k,hk⟩:∃k,q - R1.length=k+1:=⟨q - R1.length - 1,by omega⟩
      rw [hk];rfl
  ·refine⟨hos.1,?_,fun x hx=>?_⟩
   ·have hp:=hos.2.1
    rw [IU,List.pairwise_append] at hp
    rw [IU,List.pairwise_append]
    refine⟨hp.1,List.pairwise_cons.2 ⟨fun y hy b hb hb'=>hdis y (by rw [IU];exact List.mem_append_right _ hy) b hb' hb,hp.2.1⟩,fun x hx y hy=>?_⟩
    rcases List.mem_cons.1 hy with rfl|hy
    ·exact fun b hb=>hdis x (by rw [IU];exact List.mem_append_left _ hx) b hb
    ·exact hp.2.2 x hx y hy
   ·obtain⟨y,hy,rfl⟩:=RY hx
    rcases List.mem_append.1 hy with hy|hy
    ·exact hos.2.2 _ (List.mem_map.2 ⟨y,List.mem_append_left _ hy,rfl⟩)
    ·rcases List.mem_cons.1 hy with rfl|hy
     ·exact hslot
     ·exact hos.2.2 _ (List.mem_map.2 ⟨y,List.mem_append_right _ hy,rfl⟩)
  ·exact h.st.obj id o ho
 ·rcases look' id o ho with ⟨rfl,rfl⟩|⟨rfl,rfl⟩|⟨_,_,_,ho⟩
  ·exact h.st.lt _ _ ha
  ·exact h.st.lt _ _ hs
  ·exact h.st.lt _ _ ho
 ·obtain⟨id0,o0,g1,g2,g3,_⟩:=src id o ho hn b hb
  exact h.st.free _ _ g1 g2 b g3
 ·obtain⟨id0,o0,g1,g2,g3,g4⟩:=src id o ho hn b hb
  obtain⟨id0',o0',g1',g2',g3',g4'⟩:=src id' o' ho' hn' b hb'
  refine h.st.inj id0 id0' _ _ g1 g1' ?_ g2 g2' b g3 g3'
  have n1:=noi id o ho
  have n2:=noi id' o' ho'
  rintro rfl
  rcases g4 with rfl|⟨rfl,rfl⟩<;>rcases g4' with rfl|⟨e1,rfl⟩
  ·exact hne rfl
  ·exact n1 e1
  ·exact n2 rfl
  ·exact hne rfl
 ·obtain⟨id0,o0,g1,g2,g3,_⟩:=src id o ho hn b hb
  exact h.live _ _ g1 g2 b g3
theorem Ai.put{c:Code}{Q:Exit→Env→Ab→Nat→Prop}{f:Env}{nx:Nat}(a i s:Nat)(R1 R2:List (List C))(xs:List Int)(l1 l2:HH)(ha:look σ a=some (.cells Ta 1 (R1++[.arr i 1 0 xs.length]::R2)))(hi:look σ i=some (.cells T 1 (JA xs)))(hs:look σ s=some (.sld T (sI (l1++l2))))
 (h:∀v,Ai P TB Γ N c Q f ((a,.cells Ta 1 (R1++[.d (.v v)]::R2))::(s,.sld T (sI (l1++(v,xs)::l2)))::kill i σ) nx):Ai P TB Γ N c Q f σ nx:=by
 intro V ac hr
 obtain⟨v,hi'⟩:=hr.inv.put ha hi hs
 exact h v V ac ⟨hr.env,hr.lt,hr.size,hi',hr.nx,hr.defers⟩
theorem Inv.take{v:Value}(h:Inv TB Γ V σ)(ha:look σ a=some (.cells Ta 1 (R1++[.d (.v v)]::R2)))(hs:look σ s=some (.sld T (sI (l1++(v,xs)::l2)))) :
 ∃V',V'.w=V.w∧V'.nx=V.nx+1∧Ext V V'∧Inv TB Γ V' ((a,.cells Ta 1 (R1++[.arr V.nx 1 0 xs.length]::R2))::(V.nx,.cells T 1 (JA xs))::(s,.sld T (sI (l1++l2)))::σ):=by
 have has:a≠s:=fun e=>by rw [e,hs] at ha;cases ha
 have hos:=h.st.obj s _ hs
 have hsn:=h.st.lt _ _ hs
 have han:=h.st.lt _ _ ha
 have hmem:((v,xs.map (.int .i64)):Value×List Value)∈sI (l1++(v,xs)::l2):=List.mem_map.2 ⟨(v,xs),by simp,rfl⟩
 obtain⟨b0,cap,nl,hb0,hcr,hob⟩:∃b0 cap nl,(¬nl→IC v b0)∧AE (Au V b0 cap nl V.w) (.arr V.nx 1 0 xs.length) v∧B6 (Au V b0 cap nl V.w) V.nx (.cells T 1 (JA xs)):=by
  rcases hos.2.2 _ hmem with ⟨h1,h2⟩|⟨b,cap,cur,h1,h2,h3,h4,h5,h6⟩
  ·have h1:v=.slice none 0 0:=h1
   have hx0:xs=[]:=by simpa using h2
   subst h1;subst hx0
   exact⟨0,0,True,fun h=>absurd trivial h,.nil (by simp [Au]) (by simp [Au]),.inl ⟨by simp [Au],rfl⟩⟩
  ·have h1:v=.slice (some ⟨b,0,none⟩) (xs.map (Value.int .i64)).length cap:=h1
   rw [List.length_map] at h1 h4
   refine⟨b,cap,False,fun _=>⟨_,_,_,h1⟩,?_,.inr ⟨by simp [Au],cur,by simpa [Au] using h2,by simpa [Au] using h3,by simpa [Au] using h4,by simpa [Au] using h5,fun r hr=>?_,fun q r j c hq hj=>?_⟩⟩
   ·rw [h1]
    have:=@AE.arr (Au V b cap False V.w) V.nx 1 0 xs.length (by simp [Au]) (by simp [Au]) (by simpa [Au] using h4)
    simpa [Au] using this
   ·obtain⟨n,_,rfl⟩:=List.mem_map.1 hr;rfl
   ·rw [List.getElem?_map,Option.map_eq_some_iff] at hq
    obtain⟨n,hn,rfl⟩:=hq
    have hj0:j=0:=by have:=(List.getElem?_eq_some_iff.1 hj).1;simp at this;omega
    subst hj0
    simp at hj
    subst hj
    exact⟨.int .i64 n,by simpa using (h6 q (.int .i64 n) (by simp [hn])).1,.d (.v rfl)⟩
 have e:Ext V (Au V b0 cap nl V.w):=DY (Nat.le_refl _) fun _ _=>rfl
 have hρ:(Au V b0 cap nl V.w).ρ V.nx=b0:=by simp [Au]
 have hnl:(Au V b0 cap nl V.w).nl V.nx↔nl:=by simp [Au]
 refine⟨Au V b0 cap nl V.w,rfl,rfl,e,?_⟩
 have look':∀id o,look ((a,.cells Ta 1 (R1++[.arr V.nx 1 0 xs.length]::R2))::(V.nx,.cells T 1 (JA xs))::(s,.sld T (sI (l1++l2)))::σ) id=some o→
  (id=a∧o=.cells Ta 1 (R1++[.arr V.nx 1 0 xs.length]::R2))∨(id=V.nx∧o=.cells T 1 (JA xs))∨(id=s∧o=.sld T (sI (l1++l2)))∨(id≠a∧id≠s∧look σ id=some o):=fun id o ho=>by
  rw [Aw] at ho
  by_cases h1:a=id
  ·rw [if_pos h1] at ho;injection ho with ho;exact .inl ⟨h1.symm,ho.symm⟩
  ·rw [if_neg h1,Aw] at ho
   by_cases h2:V.nx=id
   ·rw [if_pos h2] at ho;injection ho with ho;exact .inr (.inl ⟨h2.symm,ho.symm⟩)
   ·rw [if_neg h2,Aw] at ho
    by_cases h3:s=id
    ·rw [if_pos h3] at ho;injection ho with ho;exact .inr (.inr (.inl ⟨h3.symm,ho.symm⟩))
    ·rw [if_neg h3] at ho;exact .inr (.inr (.inr ⟨Ne.symm h1,Ne.symm h3,ho⟩))
 have hsub:∀x∈sI (l1++l2),x∈sI (l1++(v,xs)::l2):=fun x hx=>by
  obtain⟨y,hy,rfl⟩:=RY hx
  refine List.mem_map.2 ⟨y,?_,rfl⟩
  rcases List.mem_append.1 hy with hy|hy
  ·exact List.mem_append_left _ hy
  ·exact List.mem_append_right _ (List.mem_cons_of_mem _ hy)
 have hp:=hos.2.1
 rw [IU,List.pairwise_append] at hp
 have hp2:=List.pairwise_cons.1 hp.2.1
 have hdis:∀x∈sI (l1++l2),∀b,IC x.1 b→¬IC v b:=fun x hx b hb hb'=>by
  rw [IU] at hx
  rcases List.mem_append.1 hx with hx|hx
  ·exact hp.2.2 x hx _ (List.mem_cons_self ..) b hb hb'
  ·exact hp2.1 x hx b hb' hb
 have src:∀id o,look ((a,.cells Ta 1 (R1++[.arr V.nx 1 0 xs.length]::R2))::(V.nx,.cells T 1 (JA xs))::(s,.sld T (sI (l1++l2)))::σ) id=some o→¬(Au V b0 cap nl V.w).nl id→∀b,DS (Au V b0 cap nl V.w) id o b→
  ∃id0 o0,look σ id0=some o0∧¬V.nl id0∧DS V id0 o0 b∧(id0=id∨id0=s∧id=V.nx∧IC v b)∧(id=s→∃x∈sI (l1++l2),IC x.1 b):=fun id o ho hn b hb=>by
  rcases look' id o ho with ⟨rfl,rfl⟩|⟨rfl,rfl⟩|⟨rfl,rfl⟩|⟨_,h3,ho⟩
  ·exact⟨_,_,ha,fun h=>hn ((e.nl _ han).2 h),by have:b=_:=hb;rw [e.ρ _ han] at this;exact this,.inl rfl,fun e=>absurd e has⟩
  ·have hb:b=_:=hb
   rw [hρ] at hb
   subst hb
   have hv:=hb0 fun h=>hn (hnl.2 h)
   exact⟨_,_,hs,hos.1,⟨_,hmem,hv⟩,.inr ⟨rfl,rfl,hv⟩,fun e=>by omega⟩
  ·obtain⟨x,hx,hb⟩:=hb
   exact⟨_,_,hs,hos.1,⟨x,hsub x hx,hb⟩,.inl rfl,fun _=>⟨x,hx,hb⟩⟩
  ·have hlt:=h.st.lt _ _ ho
   exact⟨_,_,ho,fun h=>hn ((e.nl _ hlt).2 h),(AD e hlt).1 hb,.inl rfl,fun e=>absurd e h3⟩
 refine⟨h.os,h.tape,h.output,h.old,h.iLt,h.iNew,h.ext.trans e,⟨fun id o ho=>?_,fun id o ho=>?_,fun id o ho hn b hb=>?_,fun id id' o o' ho ho' hne hn hn' b hb hb'=>?_⟩,fun id o ho hn b hb=>?_,h.tabs,h.hid.same rfl (fun _ h=>h) (fun _ h=>.inl h) fun b ⟨id,o,ho,hn,hb⟩=>let ⟨id0,o0,g1,g2,g3,_⟩:=src id o ho hn b hb;⟨id0,o0,g1,g2,g3⟩⟩
 ·rcases look' id o ho with ⟨rfl,rfl⟩|⟨rfl,rfl⟩|⟨rfl,rfl⟩|⟨_,_,ho⟩
  ·rcases h.st.obj _ _ ha with ⟨_,h0⟩|⟨hna,cur,h2,h3,h4,h5,h6,h7⟩
   ·simp at h0
   refine .inr ⟨fun h=>hna ((e.nl _ han).1 h),cur,by rw [e.ρ _ han];exact h2,by rw [e.cap _ han];exact h3,by rw [e.cap _ han];simpa using h4,by rw [e.cap _ han];exact h5,fun r hr=>?_,fun q r j c hq hj=>?_⟩
   ·rcases List.mem_append.1 hr with hr|hr
    ·exact h6 r (List.mem_append_left _ hr)
    ·rcases List.mem_cons.1 hr with rfl|hr
     ·rfl
     ·exact h6 r (List.mem_append_right _ (List.mem_cons_of_mem _ hr))
   ·by_cases hq0:q=R1.length
    ·subst hq0
     simp at hq
     subst hq
     have hj0:j=0:=by have:=(List.getElem?_eq_some_iff.1 hj).1;simp at this;omega
     subst hj0
     simp at hj
     subst hj
     obtain⟨w,hw,hc⟩:=h7 R1.length [.d (.v v)] 0 (.d (.v v)) (by simp) rfl
     have hw2:w=v:=AE.val hc
     subst hw2
     exact⟨w,hw,hcr⟩
    ·obtain⟨w,hw,hc⟩:=h7 q r j c (by
      rw [←hq]
      rcases Nat.lt_or_ge q R1.length with h8|h8
      ·rw [List.getElem?_append_left h8,List.getElem?_append_left h8]
      ·rw [List.getElem?_append_right h8,List.getElem?_append_right h8]
       obtain⟨k,hk⟩:∃k,q - R1.length=k+1:=⟨q - R1.length - 1,by omega⟩
       rw [hk];rfl) hj
     exact⟨w,hw,hc.ext e⟩
  ·exact hob
  ·refine⟨fun h=>hos.1 ((e.nl _ hsn).1 h),?_,fun x hx=>hos.2.2 x (hsub x hx)⟩
   rw [IU,List.pairwise_append]
   exact⟨hp.1,hp2.2,fun x hx y hy=>hp.2.2 x hx y (List.mem_cons_of_mem _ hy)⟩
  ·exact(h.st.obj id o ho).Bb e (h.st.lt id o ho) fun _ _ _=>rfl
 ·rcases look' id o ho with ⟨rfl,rfl⟩|⟨rfl,rfl⟩|⟨rfl,rfl⟩|⟨_,_,ho⟩
  ·exact Nat.lt_succ_of_lt han
  ·exact Nat.lt_succ_self _
  ·exact Nat.lt_succ_of_lt hsn
  ·exact Nat.lt_succ_of_lt (h.st.lt _ _ ho)
 ·obtain⟨id0,o0,g1,g2,g3,_⟩:=src id o ho hn b hb
  exact h.st.free _ _ g1 g2 b g3
 ·obtain⟨id0,o0,g1,g2,g3,g4,g5⟩:=src id o ho hn b hb
  obtain⟨id0',o0',g1',g2',g3',g4',g5'⟩:=src id' o' ho' hn' b hb'
  by_cases hee:id0=id0'
  ·rcases g4 with g4|⟨k1,k2,k3⟩<;>rcases g4' with g4'|⟨k1',k2',k3'⟩
   ·exact hne (by rw [←g4,←g4',hee])
   ·obtain⟨x,hx,hxb⟩:=g5 (by rw [←g4,hee,k1'])
    exact hdis x hx b hxb k3'
   ·obtain⟨x,hx,hxb⟩:=g5' (by rw [←g4',←hee,k1])
    exact hdis x hx b hxb k3
   ·exact hne (by rw [k2,k2'])
  ·exact h.st.inj id0 id0' _ _ g1 g1' hee g2 g2' b g3 g3'
 ·obtain⟨id0,o0,g1,g2,g3,_⟩:=src id o ho hn b hb
  exact h.live _ _ g1 g2 b g3
theorem Ai.take{c:Code}{Q:Exit→Env→Ab→Nat→Prop}{f:Env}{nx:Nat}(a s:Nat)(R1 R2:List (List C))(v:Value)(xs:List Int)(l1 l2:HH)(ha:look σ a=some (.cells Ta 1 (R1++[.d (.v v)]::R2)))(hs:look σ s=some (.sld T (sI (l1++(v,xs)::l2))))
 (h:Ai P TB Γ N c Q f ((a,.cells Ta 1 (R1++[.arr nx 1 0 xs.length]::R2))::(nx,.cells T 1 (JA xs))::(s,.sld T (sI (l1++l2)))::σ) (nx+1)):Ai P TB Γ N c Q f σ nx:=by
 intro V ac hr
 obtain⟨V',h1,h2,e,hi⟩:=hr.inv.take ha hs
 have:=h V' ac ⟨hr.env.ext e,hr.lt,hr.size,by have:=hr.nx;subst this;exact hi,by rw [h2,hr.nx],hr.defers⟩
 rw [h1] at this
 exact this
theorem Ai.YC{c:Code}{Q:Exit→Env→Ab→Nat→Prop}{f:Env}{nx:Nat}(T:TypeId)(h:Ai P TB Γ N c Q f ((nx,.sld T (sI []))::σ) (nx+1)):Ai P TB Γ N c Q f σ nx:=by
 intro V ac hr
 have hi:=hr.inv
 have e:Ext V (Au V 0 0 False V.w):=DY (Nat.le_refl _) fun _ _=>rfl
 have hnx:=hr.nx
 subst hnx
 have look':∀id o,look ((V.nx,.sld T (sI []))::σ) id=some o→(id=V.nx∧o=.sld T (sI []))∨(id≠V.nx∧look σ id=some o):=fun id o ho=>by
  rw [Aw] at ho
  by_cases h1:V.nx=id
  ·rw [if_pos h1] at ho;injection ho with ho;exact .inl ⟨h1.symm,ho.symm⟩
  ·rw [if_neg h1] at ho;exact .inr ⟨Ne.symm h1,ho⟩
 have src:∀id o,look ((V.nx,.sld T (sI []))::σ) id=some o→∀b,DS (Au V 0 0 False V.w) id o b→look σ id=some o∧DS V id o b∧((Au V 0 0 False V.w).nl id↔V.nl id):=fun id o ho b hb=>by
  rcases look' id o ho with ⟨rfl,rfl⟩|⟨_,ho⟩
  ·obtain⟨x,hx,_⟩:=hb;cases hx
  ·have hlt:=hi.st.lt _ _ ho
   exact⟨ho,(AD e hlt).1 hb,e.nl _ hlt⟩
 refine h (Au V 0 0 False V.w) ac ⟨hr.env.ext e,hr.lt,hr.size,?_,rfl,hr.defers⟩
 refine⟨hi.os,hi.tape,hi.output,hi.old,hi.iLt,hi.iNew,hi.ext.trans e,⟨fun id o ho=>?_,fun id o ho=>?_,fun id o ho hn b hb=>?_,fun id id' o o' ho ho' hne hn hn' b hb hb'=>?_⟩,fun id o ho hn b hb=>?_,hi.tabs,hi.hid.same rfl (fun _ h=>h) (fun _ h=>.inl h) fun b ⟨id,o,ho,hn,hb⟩=>let ⟨h1,h2,h3⟩:=src id o ho b hb;⟨id,o,h1,fun h=>hn (h3.2 h),h2⟩⟩
 ·rcases look' id o ho with ⟨rfl,rfl⟩|⟨_,ho⟩
  ·exact⟨by simp [Au],List.Pairwise.nil,fun x hx=>by cases hx⟩
  ·exact(hi.st.obj id o ho).Bb e (hi.st.lt id o ho) fun _ _ _=>rfl
 ·rcases look' id o ho with ⟨rfl,rfl⟩|⟨_,ho⟩
  ·exact Nat.lt_succ_self _
  ·exact Nat.lt_succ_of_lt (hi.st.lt _ _ ho)
 ·obtain⟨h1,h2,h3⟩:=src id o ho b hb
  exact hi.st.free _ _ h1 (fun h=>hn (h3.2 h)) b h2
 ·obtain⟨h1,h2,h3⟩:=src id o ho b hb
  obtain⟨h1',h2',h3'⟩:=src id' o' ho' b hb'
  exact hi.st.inj _ _ _ _ h1 h1' hne (fun h=>hn (h3.2 h)) (fun h=>hn' (h3'.2 h)) b h2 h2'
 ·obtain⟨h1,h2,h3⟩:=src id o ho b hb
  exact hi.live _ _ h1 (fun h=>hn (h3.2 h)) b h2
def C.Hf:C→Bool
 | .d (.v _)|.d (.l [])|.arr ..|.ptr ..|.mp _|.fn _ []=>true
 | _=>false
def O.Hf:O→Prop
 | .cells _ _ rows=>∀r∈rows,∀c∈r,C.Hf c=true
 | _=>True
def E.Hf:E→Prop
 | .o c=>C.Hf c=true
 | .a cs=>∀c∈cs,C.Hf c=true
 | .t xs=>∀x∈xs,∀c∈x.2,C.Hf c=true
 | .e=>True
def cg(σ:Ab):Prop:=∀x∈σ,O.Hf x.2
theorem cg.get{σ:Ab}(h:cg σ){id:Nat}{o:O}(ho:look σ id=some o):O.Hf o:=by
 induction σ with
 | nil=>cases ho
 | cons x r ih=>
  obtain⟨k,y⟩:=x
  rw [Aw] at ho
  by_cases hk:k=id
  ·rw [if_pos hk] at ho;injection ho with ho;subst ho;exact h _ (List.mem_cons_self ..)
  ·rw [if_neg hk] at ho;exact ih (fun z hz=>h z (List.mem_cons_of_mem _ hz)) ho
structure Py (V V':View):Prop where
 ρ:V'.ρ=V.ρ
 cap:V'.cap=V.cap
 nl:V'.nl=V.nl
 nx:V'.nx=V.nx
 w:V'.w=V.w
theorem AE.Hf{V V':View}(s:Py V V'){c:C}{v:Value}(h:AE V c v)(hc:c.Hf=true):AE V' c v:=by
 cases h with
 | @d x v h=>
  cases h with
  | v h=>exact .d (.v h)
  | nil=>exact .d .nil
  | e h=>exact .d (.e h)
  | @l rows b o k cap vs hb h1 h2 h3 h4 h5=>
   cases rows with
   | nil=>exact .d (.e h2)
   | cons=>cases hc
  | p=>cases hc
 | nil h1 h2=>exact .nil (by rw [s.nx];exact h1) (by rw [s.nl];exact h2)
 | @arr id k off len h1 h2 h3=>rw [←s.ρ,←s.cap];exact .arr (by rw [s.nx];exact h1) (by rw [s.nl];exact h2) (by rw [s.cap];exact h3)
 | ptr h1 h2=>rw [←s.ρ];exact .ptr (by rw [s.nx];exact h1) (by rw [s.nl];exact h2)
 | @fn f cap vs h1 h2=>
  cases cap with
  | nil=>exact .fn h1 fun j c v hj=>by simp at hj
  | cons=>cases hc
 | mp h1=>rw [←s.ρ];exact .mp (by rw [s.nx];exact h1)
 | mv=>cases hc
theorem Bc.Hf{V V':View}(s:Py V V'){e:E}{v:Value}(h:Bc V e v)(hc:e.Hf):Bc V' e v:=by
 cases e with
 | o c=>exact AE.Hf s h hc
 | a cs=>obtain⟨vs,h1,h2,h3⟩:=h;exact⟨vs,h1,h2,fun j c v hj hv=>(h3 j c v hj hv).Hf s (hc c (List.mem_of_getElem? hj))⟩
 | t xs=>
  obtain⟨vs,h1,h2,h3⟩:=h
  refine⟨vs,h1,h2,fun j x v hj hv=>?_⟩
  have h4:=h3 j x v hj hv
  have h5:=hc x (List.mem_of_getElem? hj)
  obtain⟨b,cs⟩:=x
  cases b
  ·obtain⟨c,h6,h7⟩:=h4
   have h6:cs=[c]:=h6
   subst h6
   exact⟨c,rfl,h7.Hf s (h5 c (by simp))⟩
  ·obtain⟨ws,h6,h7,h8⟩:=h4
   exact⟨ws,h6,h7,fun j c v hj hv=>(h8 j c v hj hv).Hf s (h5 c (List.mem_of_getElem? hj))⟩
 | e=>exact h
theorem B6.Hf{V V':View}(s:Py V V'){id:Nat}{o:O}(h:B6 V id o)(hc:o.Hf):B6 V' id o:=by
 cases o with
 | cells T k rows=>
  rcases h with ⟨h1,h2⟩|⟨h0,cur,h2,h3,h4,h5,h6,h7⟩
  ·exact .inl ⟨by rw [s.nl];exact h1,h2⟩
  ·refine .inr ⟨by rw [s.nl];exact h0,cur,by rw [s.w,s.ρ];exact h2,by rw [s.cap];exact h3,by rw [s.cap];exact h4,by rw [s.cap];exact h5,h6,fun i r j c hi hj=>?_⟩
   obtain⟨v,h8,h9⟩:=h7 i r j c hi hj
   exact⟨v,h8,h9.Hf s (hc r (List.mem_of_getElem? hi) c (List.mem_of_getElem? hj))⟩
 | mp es=>obtain⟨h0,ents,clock,h1,h2⟩:=h;exact⟨by rw [s.nl];exact h0,ents,clock,by rw [s.w,s.ρ];exact h1,h2⟩
 | sld T l=>exact⟨by rw [s.nl];exact h.1,by rw [s.w];exact h.2⟩
section
variable {o:Oper}{f:Env}{nx:Nat}
theorem PB{V:View}{S:Pz}(h:Inv TB Γ V σ)(hS:KZ TB V σ S):Inv TB (EI (EO V σ) (EO V σ) [] S) (EO V σ) []:=
 ⟨rfl,rfl,rfl,fun _ _ _=>rfl,fun b hb=>by
  rcases hb with hb|⟨id,o,hl,hn,hb⟩
  ·exact h.iLt b hb
  ·exact(h.st.obj id o hl).blt hn hb,fun _ h=>.inl h,Ext.refl _,DH,fun id o ho=>(by cases ho),fun x hx=>⟨.inl (h.tabs x hx).1,(h.tabs x hx).2⟩,⟨S,⟨hS.r,fun b hb=>.inl (hS.ji b hb),fun b hb hi=>hi.elim (hS.bi b hb) fun ⟨id,o,hl,hn,hx⟩=>hS.ap b ⟨id,o,hl,hn,hx⟩ hb,fun b ⟨_,_,h,_⟩=>by cases h⟩,fun b hb=>.inl hb,fun b hb=>.inr (.inr hb)⟩⟩
theorem Ob{V V':View}{σ':Ab}{S:Pz}(h2:Inv TB Γ V σ)(hS:KZ TB V σ S)(hSJ:∀b,S.J b→Γ.J b∨Γ.V.w.heap.size≤b∨Γ.F b)(hSB:∀b,S.B b→Γ.V.w.heap.size≤b∨Γ.F b)(he:Ext (EO V σ) V')(hi:Inv TB (EI (EO V σ) (EO V σ) [] S) V' σ')(ho':cg σ') :
 ∃V3,Py V' V3∧Ext V V3∧Inv TB Γ V3 (σ'++σ):=by
 have s:Py V' { V' with I:=fun b=>V.I b∨(V'.I b∧(V.w.heap.size≤b∨S.B b)) } := ⟨rfl,rfl,rfl,rfl,rfl⟩
 have e:Ext V { V' with I:=fun b=>V.I b∨(V'.I b∧(V.w.heap.size≤b∨S.B b)) } := ⟨fun _ h=>.inl h,fun b hb=>he.heap b (.inl hb),he.size,he.ρ,he.cap,he.nl,he.nx⟩
 have bs:∀ {id:Nat} {o:O} {b:Nat},DS { V' with I:=fun b=>V.I b∨(V'.I b∧(V.w.heap.size≤b∨S.B b)) } id o b↔DS V' id o b:=fun {id o b} => by cases o<;>exact Iff.rfl
 have hnew:∀id o,look σ' id=some o→¬V'.nl id→∀b,DS V' id o b→V.w.heap.size≤b∨S.B b:=fun id o ho hn b hb=>by
  rcases hi.live id o ho hn b hb with h|h|h
  ·exact .inl h
  ·obtain⟨_,_,h,_⟩:=h;cases h
  ·exact .inr h
 have hap:∀id o,look σ id=some o→¬V.nl id→∀b,DS V id o b→(V.w.heap.size≤b∨S.B b)→False:=fun id o ho hn b hb h=>by
  rcases h with h|h
  ·have:=(h2.st.obj _ _ ho).blt hn hb;omega
  ·exact hS.ap b ⟨id,o,ho,hn,hb⟩ h
 refine⟨_,s,e,⟨hi.os.trans h2.os,hi.tape.trans h2.tape,hi.output.trans h2.output,fun b hb hf=>(hi.old b (Nat.lt_of_lt_of_le hb h2.ext.size) (fun h=>h.elim (fun ⟨_,_,h,_⟩=>by cases h) fun h=>(hSB b h).elim (fun h=>by omega) hf)).trans (h2.old b hb hf),fun b hb=>?_,fun b hb=>?_,h2.ext.trans e,⟨fun id o ho=>?_,fun id o ho=>?_,fun id o ho hn b hb hI=>?_,fun id id' o o' ho1 ho2 hne hn hn' b hb hb'=>?_⟩,fun id o ho hn b hb=>?_,fun x hx=>⟨.inl (h2.tabs x hx).1,(hi.tabs x hx).2⟩,?_⟩⟩
 ·rcases hb with hb|hb
  ·exact hi.iLt b (he.i b (.inl hb))
  ·exact hi.iLt b hb.1
 ·rcases hb with hb|hb
  ·exact h2.iNew b hb
  ·rcases hb.2 with h|h
   ·exact .inr (.inl (Nat.le_trans h2.ext.size h))
   ·exact .inr (hSB b h)
 ·rcases B4 ho with ho|ho
  ·exact(hi.st.obj id o ho).Hf s (ho'.get ho)
  ·exact(h2.st.obj id o ho).Bb e (h2.st.lt id o ho) fun hn b hb=>he.heap b (.inr ⟨id,o,ho,hn,hb⟩)
 ·rcases B4 ho with ho|ho
  ·exact hi.st.lt id o ho
  ·exact Nat.lt_of_lt_of_le (h2.st.lt id o ho) he.nx
 ·rcases B4 ho with ho|ho
  ·have h3:=hi.st.free id o ho hn b (bs.1 hb)
   rcases hI with hI|hI
   ·exact h3 (he.i b (.inl hI))
   ·exact h3 hI.1
  ·have hlt:=h2.st.lt id o ho
   have hb:=(AD e hlt).1 hb
   have hn:¬V.nl id:=fun h=>hn ((e.nl id hlt).2 h)
   rcases hI with hI|hI
   ·exact h2.st.free id o ho hn b hb hI
   ·exact hap id o ho hn b hb hI.2
 ·rcases B4 ho1 with ho1|ho1<;>rcases B4 ho2 with ho2|ho2
  ·exact hi.st.inj _ _ _ _ ho1 ho2 hne hn hn' b (bs.1 hb) (bs.1 hb')
  ·have h3:=hnew id o ho1 hn b (bs.1 hb)
   have hlt:=h2.st.lt _ _ ho2
   exact hap _ _ ho2 (fun h=>hn' ((e.nl _ hlt).2 h)) b ((AD e hlt).1 hb') h3
  ·have h3:=hnew id' o' ho2 hn' b (bs.1 hb')
   have hlt:=h2.st.lt _ _ ho1
   exact hap _ _ ho1 (fun h=>hn ((e.nl _ hlt).2 h)) b ((AD e hlt).1 hb) h3
  ·have hlt:=h2.st.lt _ _ ho1
   have hlt':=h2.st.lt _ _ ho2
   exact h2.st.inj _ _ _ _ ho1 ho2 hne (fun h=>hn ((e.nl _ hlt).2 h)) (fun h=>hn' ((e.nl _ hlt').2 h)) b ((AD e hlt).1 hb) ((AD e hlt').1 hb')
 ·rcases B4 ho with ho|ho
  ·rcases hnew id o ho hn b (bs.1 hb) with h|h
   ·exact .inl (Nat.le_trans h2.ext.size h)
   ·exact hSB b h
  ·have hlt:=h2.st.lt _ _ ho
   exact h2.live id o ho (fun h=>hn ((e.nl _ hlt).2 h)) b ((AD e hlt).1 hb)
 ·obtain⟨S1,k1,k2,k3⟩:=hi.hid
  have hB:∀b,S1.B b→V.w.heap.size≤b∨S.B b:=fun b hb=>by
   rcases k3 b hb with h|h|h
   ·exact .inl h
   ·obtain⟨_,_,h,_⟩:=h;cases h
   ·exact .inr h
  refine⟨S1,⟨k1.r,fun b hb=>?_,fun b hb hI=>k1.bi b hb (hI.elim (fun h=>he.i b (.inl h)) fun h=>h.1),fun b ⟨id,o,ho,hn,hb⟩ hB1=>?_⟩,fun b hb=>?_,fun b hb=>?_⟩
  ·rcases k2 b hb with h|h|h|h
   ·exact .inl (hS.ji b h)
   ·exact .inr ⟨k1.ji b hb,.inl h⟩
   ·obtain⟨_,_,h,_⟩:=h;cases h
   ·exact .inr ⟨k1.ji b hb,.inr h⟩
  ·rcases B4 ho with ho|ho
   ·exact k1.ap b ⟨id,o,ho,hn,bs.1 hb⟩ hB1
   ·have hlt:=h2.st.lt _ _ ho
    exact hap _ _ ho (fun h=>hn ((e.nl _ hlt).2 h)) b ((AD e hlt).1 hb) (hB b hB1)
  ·rcases k2 b hb with h|h|h|h
   ·exact hSJ b h
   ·exact .inr (.inl (Nat.le_trans h2.ext.size h))
   ·obtain⟨_,_,h,_⟩:=h;cases h
   ·exact .inr (hSB b h)
  ·rcases hB b hb with h|h
   ·exact .inl (Nat.le_trans h2.ext.size h)
   ·exact hSB b h
theorem SY{V:View}{a:Act}{L:List (Nat×E)}(h2:Inv TB Γ V σ)(hE:Pt σ f L)(h1:Hg V o f a):Hg (EO V σ) o (look L) a:=fun t e ht he=>by
 obtain⟨y,h3,h4⟩:=hE.get t e he
 exact h4.rel h2 (h1 t y ht h3)
theorem BZ.X5{K:E→Ab→Nat→Prop}(L:List (Nat×E))(hE:Pt σ f L)(h:∀Γ',BZ P TB Γ' o (look L) [] nx (fun x σ1 nx1=>(E.Hf x∧cg σ1)∧K x (σ1++σ) nx1)):BZ P TB Γ o f σ nx K:=by
 intro V a h1 h2 h3
 obtain⟨S,hS,hSJ,hSB⟩:=h2.hid
 refine Oper.wp_mono ?_ (h (EI (EO V σ) (EO V σ) [] S) (EO V σ) a (SY h2 hE h1) (PB h2 hS) h3)
 rintro a' w' ⟨V',v,x,σ',rfl,rfl,he,hi,hx,⟨hxo,hso⟩,hk⟩
 obtain⟨V3,s,e,hi3⟩:=Ob h2 hS hSJ hSB he hi hso
 exact⟨V3,v,x,_,s.w,rfl,e,hi3,hx.Hf s hxo,by rw [s.nx];exact hk⟩
theorem A1.X5{x:E}(L:List (Nat×E))(hE:Pt σ f L)(h:∀Γ',A1 P TB Γ' o (look L) [] nx x)(hxo:x.Hf):A1 P TB Γ o f σ nx x:=by
 intro V a h1 h2 h3
 obtain⟨S,hS,hSJ,hSB⟩:=h2.hid
 refine Oper.wp_mono ?_ (h (EI (EO V σ) (EO V σ) [] S) (EO V σ) a (SY h2 hE h1) (PB h2 hS) h3)
 rintro a' w' ⟨V',v,rfl,rfl,he,hi,hn,hx⟩
 obtain⟨V3,s,e,hi3⟩:=Ob h2 hS hSJ hSB he hi (fun x hx=>by cases hx)
 exact⟨V3,v,s.w,rfl,e,hi3,by rw [s.nx];exact hn,hx.Hf s hxo⟩
end
def JB(σ:Ab):List Nat→Ab
 | []=>[]
 | i::r=>match look σ i with
  | some o=>(i,o)::JB σ r
  | none=>JB σ r
theorem GK{σ:Ab}:∀ {ids:List Nat} {id:Nat} {o:O},look (JB σ ids) id=some o→id∈ids∧look σ id=some o
 | [],_,_,h=>by cases h
 | i :: r,id,o,h=>by
  unfold JB at h
  split at h
  ·rename_i o' ho
   rw [Aw] at h
   by_cases hi:i=id
   ·rw [if_pos hi] at h;injection h with h;subst h;subst hi;exact⟨List.mem_cons_self ..,ho⟩
   ·rw [if_neg hi] at h
    have:=GK h
    exact⟨List.mem_cons_of_mem _ this.1,this.2⟩
  ·have:=GK h
   exact⟨List.mem_cons_of_mem _ this.1,this.2⟩
def U9(σi:Ab)(f:Env):List (Nat×E)→Prop
 | []=>True
 | (t,e')::L=>(∃e,f t=some e∧(e=e'∨EZ σi e e'))∧U9 σi f L
theorem U9.get{σi:Ab}{f:Env}:∀ {L:List (Nat×E)},U9 σi f L→∀t e',look L t=some e'→∃e,f t=some e∧(e=e'∨EZ σi e e')
 | [],_,t,e,h=>by cases h
 | (k,x)::L,hs,t,e,h=>by
  rw [Aw] at h
  by_cases hk:k=t
  ·rw [if_pos hk] at h;injection h with h;subst h;subst hk;exact hs.1
  ·rw [if_neg hk] at h;exact U9.get hs.2 t e h
theorem Ai.AF{c:Code}{Q:Exit→Env→Ab→Nat→Prop}{f:Env}{nx:Nat}(ids:List Nat)(L:List (Nat×E))(hE:U9 (JB σ ids) f L)(h:Ai P TB Γ N c Q (look L) (CL ids σ) nx):Ai P TB Γ N c Q f σ nx:=by
 intro V a hr
 have hi:=hr.inv
 have hsub:∀id o,look (JB σ ids) id=some o→look σ id=some o:=fun id o h=>(GK h).2
 have his:Inv TB Γ V (JB σ ids):=hi.sub hsub
 have e:Ext V (EO V (JB σ ids)):=Le
 refine h (EO V (JB σ ids)) a ⟨fun t x hx=>?_,fun t x hx=>?_,hr.size,?_,hr.nx,hr.defers⟩
 ·obtain⟨y,h1,h2⟩:=hE.get t x hx
  rcases h2 with rfl|h2
  ·exact(hr.env t _ h1).ext e
  ·exact h2.rel his (hr.env t y h1)
 ·obtain⟨y,h1,_⟩:=hE.get t x hx
  exact hr.lt t y h1
 ·refine⟨hi.os,hi.tape,hi.output,hi.old,?_,?_,hi.ext.trans e,⟨?_,?_,?_,?_⟩,?_,fun x hx=>⟨.inl (hi.tabs x hx).1,(hi.tabs x hx).2⟩,hi.hid.same rfl (fun _ h=>.inl h) (fun b hb=>hb.elim .inl fun ⟨id,o,hl,hn,he⟩=>.inr ⟨id,o,hsub _ _ hl,hn,he⟩) fun b ⟨id,o,hl,hn,hb⟩=>have h2:=(Bl ids σ id o hl).2;⟨id,o,h2,hn,(AD e (hi.st.lt id o h2)).1 hb⟩⟩
  ·rintro b (hb|⟨id,o,hl,hn,hb⟩)
   ·exact hi.iLt b hb
   ·exact(hi.st.obj id o (hsub _ _ hl)).blt hn hb
  ·rintro b (hb|⟨id,o,hl,hn,hb⟩)
   ·exact hi.iNew b hb
   ·exact .inr (hi.live id o (hsub _ _ hl) hn b hb)
  ·intro id o hl
   have:=(Bl ids σ id o hl).2
   exact(hi.st.obj id o this).Bb e (hi.st.lt id o this) fun _ _ _=>rfl
  ·intro id o hl;exact hi.st.lt id o (Bl ids σ id o hl).2
  ·intro id o hl hn b hb' hb
   obtain⟨h1,h2⟩:=Bl ids σ id o hl
   have hb':=(AD e (hi.st.lt id o h2)).1 hb'
   rcases hb with hb|⟨id',o',hl',hn',he⟩
   ·exact hi.st.free id o h2 hn b hb' hb
   ·have h3:=GK hl'
    exact hi.st.inj id id' o o' h2 h3.2 (fun e=>h1 (e ▸ h3.1)) hn hn' b hb' he
  ·intro id id' o o' hl hl' hne hn hn' b hb hb'
   have h2:=(Bl ids σ id o hl).2
   have h2':=(Bl ids σ id' o' hl').2
   exact hi.st.inj id id' o o' h2 h2' hne hn hn' b ((AD e (hi.st.lt id o h2)).1 hb) ((AD e (hi.st.lt id' o' h2')).1 hb')
  ·intro id o hl hn b hb
   have h2:=(Bl ids σ id o hl).2
   exact hi.live id o h2 hn b ((AD e (hi.st.lt id o h2)).1 hb)
theorem FZ.Ln{a s:Nat}{T Ta:TypeId}{l:HH}(ha:look σ a=some (.cells Ta 1 (Az l)))(hs:look σ s=some (.sld T (sI l))):FZ σ (.arr a 1 0 l.length) (CX (l.map (·.2))):=by
 refine .rows ha (by simp) (Cj l) fun i r' hi=>?_
 simp only [List.getElem?_map,Option.map_eq_some_iff] at hi
 obtain⟨x,⟨y,hy,rfl⟩,rfl⟩:=hi
 refine⟨[.d (.v y.1)],by simp [Az,hy],.cons ?_ .nil⟩
 have h1:FZ σ (.d (.v y.1)) (.l ((y.2.map (Value.int .i64)).map fun x=>[D.v x])):=.sld hs (List.mem_map.2 ⟨y,List.mem_of_getElem? hy,rfl⟩)
 rw [List.map_map] at h1
 exact h1
theorem Ai.RS{c:Code}{Q:Exit→Env→Ab→Nat→Prop}{f:Env}{nx:Nat}(a i s:Nat)(l:HH)(xs:List Int)(ha:look σ a=some (.cells Ta 1 (Az l++[[.arr i 1 0 xs.length]])))(hi:look σ i=some (.cells T 1 (JA xs)))(hs:look σ s=some (.sld T (sI l)))
 (h:∀v,Ai P TB Γ N c Q f ((a,.cells Ta 1 (Az (l++[(v,xs)])))::(s,.sld T (sI (l++[(v,xs)])))::kill i σ) nx):Ai P TB Γ N c Q f σ nx:=
 Ai.put a i s (Az l) [] xs l [] ha hi (by rw [List.append_nil];exact hs) fun v=>by
  have:=h v
  rw [AW] at this
  exact this
theorem Mt{l:HH}{k:Nat}{y:Value×List Int}(h:l[k]? = some y):l=l.take k++y::l.drop (k+1)∧(l.take k).length=k:=by
 obtain⟨hk,rfl⟩:=List.getElem?_eq_some_iff.1 h
 refine⟨?_,by rw [List.length_take];omega⟩
 rw [←List.drop_eq_getElem_cons hk,List.take_append_drop]
theorem Pj{α:Type}{l1 l2:List α}{x y:α}{k:Nat}(h:l1.length=k):(l1++x::l2).set k y=l1++y::l2:=by
 subst h;simp
theorem Ai.ZW{c:Code}{Q:Exit→Env→Ab→Nat→Prop}{f:Env}{nx:Nat}(a s:Nat)(l:HH)(k:Nat)(y:Value×List Int)(hk:l[k]? = some y)(ha:look σ a=some (.cells Ta 1 (Az l)))(hs:look σ s=some (.sld T (sI l)))
 (h:Ai P TB Γ N c Q f ((a,.cells Ta 1 ((Az l).set k [.arr nx 1 0 y.2.length]))::(nx,.cells T 1 (JA y.2))::(s,.sld T (sI (l.eraseIdx k)))::σ) (nx+1)):Ai P TB Γ N c Q f σ nx:=by
 obtain⟨h1,h2⟩:=Mt hk
 obtain⟨v,xs⟩:=y
 have e1:Az l=Az (l.take k)++[.d (.v v)]::Az (l.drop (k+1)):=by
  have:=congrArg Az h1
  rw [AW] at this;exact this
 refine Ai.take a s (Az (l.take k)) (Az (l.drop (k+1))) v xs (l.take k) (l.drop (k+1)) (by rw [←e1];exact ha) (by rw [←h1];exact hs) ?_
 have e2:(Az l).set k [.arr nx 1 0 xs.length]=Az (l.take k)++[.arr nx 1 0 xs.length]::Az (l.drop (k+1)):=by
  rw [e1,Pj (by rw [Cj,h2])]
 have e3:l.eraseIdx k=l.take k++l.drop (k+1):=List.eraseIdx_eq_take_drop_succ ..
 rw [e2,e3] at h
 exact h
theorem Ai.putAt{c:Code}{Q:Exit→Env→Ab→Nat→Prop}{f:Env}{nx:Nat}(a i s:Nat)(l:HH)(k:Nat)(y:Value×List Int)(hk:l[k]? = some y)(xs:List Int)(ha:look σ a=some (.cells Ta 1 ((Az l).set k [.arr i 1 0 xs.length])))(hi:look σ i=some (.cells T 1 (JA xs)))(hs:look σ s=some (.sld T (sI (l.eraseIdx k))))
 (h:∀v,Ai P TB Γ N c Q f ((a,.cells Ta 1 (Az (l.set k (v,xs))))::(s,.sld T (sI (l.set k (v,xs))))::kill i σ) nx):Ai P TB Γ N c Q f σ nx:=by
 obtain⟨h1,h2⟩:=Mt hk
 have e1:Az l=Az (l.take k)++[.d (.v y.1)]::Az (l.drop (k+1)):=by
  have:=congrArg Az h1
  rw [AW] at this;exact this
 rw [e1,Pj (by rw [Cj,h2])] at ha
 rw [show l.eraseIdx k=l.take k++l.drop (k+1) from List.eraseIdx_eq_take_drop_succ ..] at hs
 refine Ai.put a i s (Az (l.take k)) (Az (l.drop (k+1))) xs (l.take k) (l.drop (k+1)) ha hi hs fun v=>?_
 have h3:l.set k (v,xs)=l.take k++(v,xs)::l.drop (k+1):=by
  have this:l.set k (v,xs)=(l.take k++y::l.drop (k+1)).set k (v,xs):=congrArg (fun m=>List.set m k (v,xs)) h1
  rw [this,Pj h2]
 have:=h v
 rw [h3,AW] at this
 exact this
theorem AU.A4{g:FuncId}{m nx:Nat}{args:List E}{post:E→Ab→Nat→Prop}
 (h:AU P TB g m σ nx args (fun x σ1 nx1=>∃(l:List Nat) (x':E) (σ2:Ab),((∀i,i < m→l[i]? = some i)∧l.Nodup)∧x=x'.A4 (nm l nx1)∧A0 (nm l nx1) σ1 σ2∧post x' σ2 l.length)):AU P TB g m σ nx args post:=
 ⟨h.1, fun V vs S hg ha=>(h.2 V vs S hg ha).mono fun e w' ⟨V',v,x,σ',h1,h2,h3,h4,l,x',σ2,h5,h6,h7,h8⟩=>by
  have hr:B1 TB (EI V (Kj V m) σ S) 1 V' (look [(0,x)]) σ' V'.nx { tmps:=#[v],defers:=[] } := by
   refine⟨fun t y hy=>?_,fun t y hy=>?_,rfl,h3,rfl,rfl⟩
   ·rw [Aw] at hy
    by_cases ht:0=t
    ·rw [if_pos ht] at hy;injection hy with hy;subst hy;subst ht;exact h4
    ·rw [if_neg ht] at hy;cases hy
   ·rw [Aw] at hy
    by_cases ht:0=t
    ·subst ht;exact Nat.zero_lt_one
    ·rw [if_neg ht] at hy;cases hy
  obtain⟨V'',e1,e2⟩:=hr.A4 l [(0,x')] σ2 h5.1 h5.2 ⟨by rw [←h6];rfl,trivial⟩ h7
  refine⟨V'',v,x',σ2,h1,e1.trans h2,e2.inv,e2.env 0 x' rfl,?_⟩
  rw [e2.nx];exact h8⟩
theorem CK{m:Nat}{σ σ':Ab}(i:Nat)(hm:m=2 ^ i)(h:look σ' i=look σ i):Kept m σ σ':=fun id hb=>by
 subst hm
 rw [Nat.testBit_two_pow] at hb
 have:i=id:=of_decide_eq_true hb
 subst this;exact h
theorem Hq{m:Nat}{σ σ':Ab}(i j:Nat)(hm:m=2 ^ i ||| 2 ^ j)(h:look σ' i=look σ i)(h':look σ' j=look σ j):Kept m σ σ':=fun id hb=>by
 subst hm
 rw [Nat.testBit_or,Bool.or_eq_true,Nat.testBit_two_pow,Nat.testBit_two_pow,decide_eq_true_eq,decide_eq_true_eq] at hb
 rcases hb with hb|hb
 ·subst hb;exact h
 ·subst hb;exact h'
theorem JD{l1 l2:HH}{c:C}{k:Nat}(h:l1.length=k):(Az l1++[c]::Az l2)[k]? = some [c]:=by
 subst h
 rw [List.getElem?_append_right (by rw [Cj];exact Nat.le_refl _),Cj];simp
theorem eR [hT:CN P] {g:FuncId} {fn:Func} {c:Code} {nx:Nat} {args:List E} {post:E→Ab→Nat→Prop} (hf:P.funcs[g]? = some fn) (hb:fn.body=some c) (hname:(fn.name == "runtime.NumGoroutine")=false)
 (ha:Nat.ble args.length fn.ntmps=true) (h:∀Γ:Ctx,Γ.V.nx=nx→Ai P TB Γ fn.ntmps c (Vj hT.T fn.results (fun x σ1 nx1=>∃(l:List Nat) (x':E) (σ2:Ab),((∀i,i < nx→l[i]? = some i)∧l.Nodup)∧x=x'.A4 (nm l nx1)∧A0 (nm l nx1) σ1 σ2∧post x' σ2 l.length)) (look (B7 0 args)) σ nx):Spec P TB g σ nx args post:=
 AU.GW (AU.A4 (AU.Pr (Nat.le_refl _) hf hb hname (Nat.le_of_ble_eq_true ha) h))
end
theorem cN:(∀(r:Nat→Nat) (l:HH),(Az l).map (C.Ce r)=Az l)∧(∀(α:Type) (b:Bool) (x y:α),(bif b then x else y)=if b=true then x else y)∧∀a b:Nat,(Nat.beq a b=true)=(a=b):=
 ⟨QB,fun _ b _ _=>by cases b<;>rfl,fun _ _=>Nat.beq_eq⟩
end Go.Am
namespace Go.Am
open Go
set_option linter.unusedVariables false
variable {TB:Bh}
section
variable {P:Program}{Γ:Ctx}{d:Option Tmp}{ty:TypeId}{pos:String}{af:Array Edge}{g:Option (Nat×Bool)}{f:Env}{σ:Ab}{nx:Nat}
theorem MD{t:TypeId}{z:List Value}{fl:List (Nat×Nat)}{parts:Array (Nat×Operand)}{es:List E}{qs:List (Nat×List C)}[hz:BO P t z][hf:Ev P t fl](hes:HM f (parts.toList.map (·.2))=some es)(hq:EB fl parts.toList es=some qs)
 (hok:z.all MM=true) (hle:(qs.all fun x=>Nat.ble (x.1+x.2.length) z.length)=true):A1 P TB Γ ⟨d,.build t parts,ty,pos,af,g⟩ f σ nx (.a (B2 qs (z.map fun v=>C.d (.v v)))):=
 AH fun V ρ h1 _=>by
  obtain⟨i,zv,hi,hzv,hzz⟩:=HG hz.out
  have hfo:=CT (V:=V) (ρ:=ρ) parts.toList es qs (fun x hx e he=>h1.get (by simp only [Op.operands];simpa using hx) he) hes hq
  have hzr:CU V (z.map fun v=>C.d (.v v)) zv.cells:=by
   refine⟨by rw [List.length_map,←hzz];simp,fun j c v hj hv=>?_⟩
   simp only [List.getElem?_map,Option.map_eq_some_iff] at hj
   obtain⟨u,hu,rfl⟩:=hj
   have:u=v:=by
    rw [←hzz] at hu
    simp only [Array.getElem?_toList] at hu
    rw [hu] at hv;exact Option.some.inj hv
   subst this
   exact .d (.v (List.all_eq_true.1 hok u (List.mem_of_getElem? hu)))
  obtain⟨cells,h3,h4⟩:=E6 _ _ _ _ hfo hzr (fun x hx=>by rw [List.length_map];exact Hn _ _ hle x hx)
  have hh:=hf.out
  have hparts:(parts.map fun (i,x)=>(i,ρ x)).toList=parts.toList.map fun (i,x)=>(i,ρ x):=by simp
  refine⟨.agg cells,?_,cells,rfl,h4⟩
  have hb : (Instr.build t (parts.map fun (i,x)=>(i,ρ x))).run P V.w=.ok (.agg cells) V.w:=by
   unfold aT at hh
   split at hh
   ·rename_i fs hu
    have hpl:∀(l:List Field) (ll:List (Nat×Nat)),(l.mapM fun f=>(P.info? f.type).map fun i=>(f.offset,i.size))=some ll→∀w,((l.mapM fun f=>do pure (f.offset,←sizeOf f.type)):Sem (List (Nat×Nat))).run P w=.ok ll w:=by
     intro l
     induction l with
     | nil=>intro ll h w;simp at h;subst h;simp [go_sem]
     | cons y l ih=>
      intro ll h w
      simp only [List.mapM_cons,Option.bind_eq_bind,Option.bind_eq_some_iff,Option.map_eq_some_iff] at h
      obtain⟨p,⟨ii,hii,rfl⟩,ll',h5,h6⟩:=h
      simp at h6
      subst h6
      have hs:(sizeOf y.type).run P w=.ok ii.size w:=by simp [sizeOf,typeInfo,hii,go_sem]
      have ihh:=ih ll' h5 w
      simp only [bind_pure_comp] at ihh
      simp only [List.mapM_cons,Sem.run_bind,hs,Result.andThen_ok,bind_pure_comp,Sem.run_map,ihh]
    have hpl2:=hpl fs.toList fl hh V.w
    have hz0:(zeroValue t).run P V.w=.ok zv V.w:=by simp [zeroValue,typeInfo,hi,hzv,go_sem]
    have ha:((fs.mapM fun f=>do pure (f.offset,←sizeOf f.type)):Sem (Array (Nat×Nat))).run P V.w=.ok fl.toArray V.w:=by
     rw [Array.mapM_eq_mapM_toList,Sem.run_map,hpl2];rfl
    rw [←hparts] at h3
    simp only [Instr.build,Sem.run_bind,hz0,Result.andThen_ok,run_underlying hu,ha]
    simp only [List.getElem?_toArray]
    rw [h3]
    rfl
   ·rename_i n e hu
    simp only [Option.map_eq_some_iff] at hh
    obtain⟨ii,hii,rfl⟩:=hh
    have hz0:(zeroValue t).run P V.w=.ok zv V.w:=by simp [zeroValue,typeInfo,hi,hzv,go_sem]
    have hs:(sizeOf e).run P V.w=.ok ii.size V.w:=by simp [sizeOf,typeInfo,hii,go_sem]
    have hfill:∀(ps:List (Nat×Value)) (c c':Array Value),Instr.fill (fun i=>((List.range n).map fun j=>(j*ii.size,ii.size))[i]?) c ps=some c'→Instr.fill (fun i=>some (i*ii.size,ii.size)) c ps=some c':=by
     intro ps
     induction ps with
     | nil=>intro c c' h;simpa [Instr.fill] using h
     | cons p ps ih=>
      intro c c' h
      obtain⟨i',v'⟩:=p
      unfold Instr.fill at h ⊢
      by_cases hlt:i' < n
      ·simp only [List.getElem?_map,List.getElem?_range hlt,Option.map_some] at h
       simp only at h ⊢
       split at h
       ·cases h
       ·rename_i hno
        rw [if_neg hno];exact ih _ _ (by simpa only [List.getElem?_map] using h)
      ·simp [hlt] at h
    rw [←hparts] at h3
    simp only [Instr.build,Sem.run_bind,hz0,Result.andThen_ok,run_underlying hu,hs]
    rw [hfill _ _ _ h3]
    rfl
   ·cases hh
  show ((do let v ←Instr.build t (parts.map fun (i,x)=>(i,ρ x));pure (Go.Next.value v):Sem Go.Next)).run P V.w=_
  simp only [Sem.run_bind,hb,Result.andThen_ok]
  rfl
end
theorem Qn{P:Program}{Γ:Ctx}{o:Oper}{L:List (Nat×E)}{σ:Ab}{nx:Nat}{K:E→Ab→Nat→Prop}{b:Option Addr}(t:Tmp)(hx:look L t=some (.o (.d (.v (.slice b 0 0)))))(h:BZ P TB Γ o (look ((t,.e)::L)) σ nx K):BZ P TB Γ o (look L) σ nx K:=by
 intro V a h1 h2 h3
 refine h V a ?_ h2 h3
 intro t' e' ht' he'
 rw [Aw] at he'
 by_cases he:t=t'
 ·subst he
  rw [if_pos rfl] at he'
  injection he' with he'
  subst he'
  exact⟨b,AE.val (h1 t _ ht' hx)⟩
 ·rw [if_neg he] at he'
  exact h1 t' e' ht' he'
theorem RR{P:Program}{Γ:Ctx}{ops:Array Oper}{fl:Fl}{i n:Nat}{L:List (Nat×E)}{σ:Ab}{nx:Nat}{K:Env→Ab→Nat→Prop}{op:Op}{ty:TypeId}{pos:String}{af:Array Edge}{g:Option (Nat×Bool)}
 (h:BZ P TB Γ ⟨none,op,ty,pos,af,g⟩ (look L) σ nx (fun _ σ' nx'=>Kept (fl i - 1000) σ σ'∧Lex P TB Γ ops (Al fl (i+1) n) K (look L) σ' nx')) (hg:Br ops ⟨none,op,ty,pos,af,g⟩ (look L)=some true) (hf:Nat.ble 10 (fl i)=true∧Nat.ble 1000 (fl i)=true):Bj P TB Γ ops ⟨none,op,ty,pos,af,g⟩ fl i n K L σ nx:=
 fun ho=>Ts ho hg hf h
end Go.Am
namespace Go.Am
open Go
def JT(q:IntKind)(l:List Int):Value:=.agg (l.map (Value.int q)).toArray
abbrev dH(q:IntKind)(l:List Int):List C:=l.map fun x=>.d (.v (.int q x))
abbrev X1(q:IntKind)(l:List Int):E:=.a (dH q l)
theorem SU{q:IntKind}{a b:List Int}:JT q a=JT q b↔a=b:=by
 unfold JT
 constructor
 ·intro h
  injection h with h
  have h:=congrArg Array.toList h
  simp only at h
  exact(List.map_inj_right (fun x y h=>by injection h)).1 h
 ·rintro rfl;rfl
theorem Jn{V:View}{q:IntKind}{l:List Int}{v:Value}(h:Bc V (X1 q l) v):v=JT q l:=by
 obtain⟨vs,rfl,h2,h3⟩:=h
 unfold JT
 congr 1
 apply Array.ext
 ·simpa using h2
 ·intro i h4 h5
  have h6:i < l.length:=by simpa using h5
  have:=AE.val (h3 i (.d (.v (.int q l[i]))) vs[i] (by simp [List.getElem?_eq_getElem h6]) (Array.getElem?_eq_getElem h4))
  rw [this];simp
class E0 (P:Program) (t:TypeId) (n:outParam Nat) (q:outParam IntKind):Prop where
 u:∃e,WideMaps.ArrKey P t e n∧P.underlying e=some (.int q)
 eg:P.eqGuardType P.depth t=false
 sz:P.types.size≠0
section
variable {P:Program}{t:TypeId}{n:Nat}{q:IntKind}
theorem mapM_some{α β:Type}{f:α→Option β}:∀ {l:List α},(∀x∈l,∃y,f x=some y)→∃ys,l.mapM f=some ys
 | [],_=>⟨[],rfl⟩
 | x::l,h=>by
  obtain⟨y,hy⟩:=h x (by simp)
  obtain⟨ys,hys⟩:=mapM_some (l:=l) (fun z hz=>h z (by simp [hz]))
  exact⟨y::ys,by rw [List.mapM_cons,hy,hys];rfl⟩
theorem E0.key(h:E0 P t n q){l:List Int}(hl:l.length=n)(hw:∀x∈l,(Lit.int q x).wf=true):∃lx,keyOf P t (JT q l)=some lx:=by
 obtain⟨e,hA,he⟩:=h.u
 obtain⟨m,hm⟩:=Nat.exists_eq_succ_of_ne_zero h.sz
 have hm:P.types.size=m+1:=hm
 have h1:∀i∈List.range n,∃y,P.keyLits (m+1) e ((((l.map (Value.int q)).toArray.toList).drop (i*P.cellsOf e)).take (P.cellsOf e))=some y:=fun i hi=>by
  have hi:i < n:=List.mem_range.1 hi
  rw [hA.one,Nat.mul_one]
  obtain⟨x,hx⟩:∃x,l[i]? = some x:=⟨l[i],List.getElem?_eq_getElem (by omega)⟩
  have h2:(((l.map (Value.int q)).toArray.toList).drop i).take 1=[Value.int q x]:=by
   have h3:(l.map (Value.int q))[i]? = some (Value.int q x):=by simp [hx]
   obtain⟨h4,h5⟩:=List.getElem?_eq_some_iff.1 h3
   simp only
   rw [List.drop_eq_getElem_cons h4,h5]
   rfl
  rw [h2]
  refine⟨[.int q x],?_⟩
  unfold Program.keyLits
  simp [he,hw x (List.mem_of_getElem? hx)]
 obtain⟨ys,hys⟩:=mapM_some h1
 have h6:P.keyLits (P.types.size+1) t (JT q l).cells.toList=some ys.flatten:=by
  rw [hm]
  show P.keyLits (m+1+1) t (l.map (Value.int q)).toArray.toList=_
  unfold Program.keyLits
  simp only [hA.hu]
  rw [if_pos (by rw [hA.size];simp [hl])]
  rw [hys];rfl
 have hf:(JT q l).formed P t=true:=by simp [JT,Value.formed,hA.hu,hA.size,hl]
 unfold keyOf
 rw [hA.hu]
 simp only
 rw [if_pos (by rw [hA.keyType ⟨m,hm⟩,hf];rfl),h6]
 exact⟨_,rfl⟩
theorem E0.law(h:E0 P t n q):WideMaps.KeyLaw P t:=by
 obtain⟨e,hA,he⟩:=h.u
 exact hA.law
theorem E0.run_eq(h:E0 P t n q){a b:List Int}(ha:a.length=n)(hb:b.length=n)(hwa:∀x∈a,(Lit.int q x).wf=true)(hwb:∀x∈b,(Lit.int q x).wf=true)(w:World):(Op.equal t (JT q a) (JT q b)).run P w=.ok (decide (a=b)) w:=by
 obtain⟨lx,hx⟩:=h.key ha hwa
 obtain⟨ly,hy⟩:=h.key hb hwb
 obtain⟨e,hA,he⟩:=h.u
 obtain⟨r,h1,h2⟩:=run_equal_deep w (m:=2) (by omega) (hA.at 0) hA.wide hx hy
 rw [h1]
 congr 1
 rw [Bool.eq_iff_iff,h2,decide_eq_true_eq]
 refine⟨fun h3=>SU.1 (h.law.inj hx (by rw [h3];exact hy)),fun h3=>?_⟩
 subst h3
 rw [hx] at hy
 injection hy
end
section
variable {P:Program}{TB:Bh}{Γ:Ctx}{d:Option Tmp}{ty:TypeId}{pos:String}{af:Array Edge}{g:Option (Nat×Bool)}{f:Env}{σ:Ab}{nx:Nat}
variable {K:E→Ab→Nat→Prop}{t:TypeId}{n:Nat}{q:IntKind}
theorem JC{x y:Operand}{l:List Int}{k:IntKind}{i:Int}{v:Int}[h:E0 P t n q](hx:ev f x=some (X1 q l))(hy:ev f y=some (eI k i))(hn:l.length=n)(h0:0≤i)(hv:l[i.toNat]? = some v) :
 A1 P TB Γ ⟨d,.index t x y,ty,pos,af,g⟩ f σ nx (eI q v):=
 AH fun V ρ h1 _=>by
  have h2:=Jn (h1.get (by simp [Op.operands]) hx)
  have h3:ρ y=.int k i:=AE.val (h1.get (by simp [Op.operands]) hy)
  obtain⟨e,hA,he⟩:=h.u
  obtain⟨inf,hi⟩:=info_of_underlying he
  have h4:inf.size=1:=by have:=hA.one;simpa [Program.cellsOf,hi] using this
  have hlt:=(List.getElem?_eq_some_iff.1 hv).1
  have h5:i < (n:Int):=by omega
  refine⟨.int q v,?_,.d (.v rfl)⟩
  have h6:(l.map (Value.int q)).toArray[i.toNat]? = some (.int q v):=by simp [hv]
  have h7:(isAgg e).run P V.w=.ok false V.w:=by simp [isAgg,run_underlying he,go_sem]
  simp [execOp,h2,h3,JT,Instr.index,asIntOf,run_underlying hA.hu,h0,h5,part,h7,sizeOf,typeInfo,hi,h4,hv,go_sem]
theorem bB{yt:TypeId}{x y:Operand}{a b:List Int}[h:E0 P t n q](hx:ev f x=some (X1 q a))(hy:ev f y=some (X1 q b))(ha:a.length=n)(hb:b.length=n)(hwa:∀x∈a,(Lit.int q x).wf=true)(hwb:∀x∈b,(Lit.int q x).wf=true) :
 A1 P TB Γ ⟨d,.binOp .eql t x y yt,ty,pos,af,g⟩ f σ nx (eB (decide (a=b))):=
 AH fun V ρ h1 _=>by
  have h2:=Jn (h1.get (x:=x) (by simp [Op.operands]) hx)
  have h3:=Jn (h1.get (x:=y) (by simp [Op.operands]) hy)
  refine⟨.bool (decide (a=b)),?_,.d (.v rfl)⟩
  have h6:binOp .eql t (JT q a) (JT q b)=(do pure (.bool (←Op.equal t (JT q a) (JT q b)))):=rfl
  have h7:(eqGuard .eql t x y (JT q a) (JT q b)).run P V.w=.ok () V.w:=by
   unfold eqGuard JT
   simp [h.eg,go_sem]
  simp [execOp,h2,h3,h6,h7,h.run_eq ha hb hwa hwb V.w,go_sem]
def mapA(q:IntKind)(l:List (List Int×Int)):List (Value×Value):=l.map fun p=>(JT q p.1,.int .i64 p.2)
def Dl:List (List Int×Int)→List Int→Option Int
 | [],_=>none
 | p::l,s=>if p.1=s then some p.2 else Dl l s
theorem GC:∀ {l:List (List Int×Int)} {s:List Int},Dl l s=none↔∀p∈l,p.1≠s
 | [],s=>by simp [Dl]
 | p::l,s=>by
  unfold Dl
  split
  ·rename_i h;simp [h]
  ·rename_i h;rw [GC (l:=l)];simp [h]
theorem J6:∀ {l:List (List Int×Int)} {p:List Int×Int},l.Pairwise (fun a b=>a.1≠b.1)→p∈l→Dl l p.1=some p.2
 | [],p,_,h=>by cases h
 | x :: l,p,hd,h=>by
  unfold Dl
  rcases List.mem_cons.1 h with rfl|h
  ·rw [if_pos rfl]
  ·rw [if_neg ((List.pairwise_cons.1 hd).1 p h)]
   exact J6 (List.pairwise_cons.1 hd).2 h
def NI(n:Nat)(q:IntKind)(l:List (List Int×Int)):Prop:=∀p∈l,p.1.length=n∧∀x∈p.1,(Lit.int q x).wf=true
theorem NY[h:E0 P t n q]{l:List (List Int×Int)}{es:List MapEntry}{s:List Int}(hl:NI n q l)(hes:es.map (fun e=>(e.key,e.val))=mapA q l)(hs:s.length=n)(hw:∀x∈s,(Lit.int q x).wf=true)(hd:l.Pairwise (fun a b=>a.1≠b.1))(w:World) :
 ∃r,(Instr.findKey t (JT q s) es).run P w=.ok r w∧r.map (·.2)=(Dl l s).map (.int .i64):=by
 obtain⟨lx,hx⟩:=h.key hs hw
 have hmem:∀e∈es,∃p∈l,e.key=JT q p.1∧e.val=.int .i64 p.2:=fun e he=>by
  have:(e.key,e.val)∈mapA q l:=by rw [←hes];exact List.mem_map.2 ⟨e,he,rfl⟩
  obtain⟨p,h1,h2⟩:=List.mem_map.1 this
  injection h2 with h2 h3
  exact⟨p,h1,h2.symm,h3.symm⟩
 rcases h.law.find w hx es (fun e he=>by
  obtain⟨p,h1,h2,_⟩:=hmem e he
  rw [h2];exact h.key (hl p h1).1 (hl p h1).2) with ⟨h1,h2⟩|⟨j,e,h1,h2,h3⟩
 ·refine⟨none,h1,?_⟩
  have:Dl l s=none:=GC.2 fun p hp he=>by
   have h4:(JT q p.1,Value.int .i64 p.2)∈es.map (fun e=>(e.key,e.val)):=by rw [hes];exact List.mem_map.2 ⟨p,hp,rfl⟩
   obtain⟨e,h5,h6⟩:=List.mem_map.1 h4
   injection h6 with h6 h7
   exact h2 e h5 (by rw [h6,he])
  rw [this];rfl
 ·refine⟨_,h1,?_⟩
  obtain⟨p,h4,h5,h6⟩:=hmem e (List.mem_of_getElem? h2)
  have h7:p.1=s:=SU.1 (by rw [←h5,h3])
  rw [←h7,J6 hd h4,h6];rfl
theorem LK[h:E0 P t n q]{s:List Int}(hs:s.length=n)(hw:∀x∈s,(Lit.int q x).wf=true)(b:Bool)(w:World):(Instr.checkKey b 10000 t (JT q s)).run P w=.ok () w:=by
 obtain⟨lx,hx⟩:=h.key hs hw
 exact h.law.check w b hx
theorem Tw{m e:TypeId}{x y:Operand}{id:Nat}{l:List (List Int×Int)}{s:List Int}[hm:Ik P m t e][h:E0 P t n q][hz:NH P e (.int .i64 0)](hx:ev f x=some (.o (.mp id)))(hy:ev f y=some (X1 q s))(ho:look σ id=some (.mp (mapA q l)))
 (hl:NI n q l) (hd:l.Pairwise (fun a b=>a.1≠b.1)) (hs:s.length=n) (hw:∀x∈s,(Lit.int q x).wf=true) :
 A1 P TB Γ ⟨d,.lookup m x y true,ty,pos,af,g⟩ f σ nx (.t [(false,[.d (.v (.int .i64 ((Dl l s).getD 0)))]),(false,[.d (.v (.bool (Dl l s).isSome))])]):=
 AH fun V ρ hr hi=>by
  have e1:=hr.get (by simp [Op.operands]) hx
  have e2:ρ y=JT q s:=Jn (hr.get (by simp [Op.operands]) hy)
  generalize hv:ρ x=v at e1
  cases e1 with
  | mp hid =>
   obtain⟨hn,ents,clock,h1,h2⟩:=hi.st.obj id _ ho
   obtain⟨r,hfk,h4⟩:=NY (P:=P) (t:=t) (es:=ents.toList) hl h2 hs hw hd V.w
   have hzz:=hz.out
   simp only [Option.bind_eq_some_iff] at hzz
   obtain⟨i,hi1,hz1⟩:=hzz
   have hzv:(zeroValue e).run P V.w=.ok (.int .i64 0) V.w:=by simp [zeroValue,typeInfo,hi1,hz1,go_sem]
   have hck:=LK (P:=P) (t:=t) hs hw ents.isEmpty V.w
   refine⟨.tuple #[.int .i64 ((Dl l s).getD 0),.bool (Dl l s).isSome],?_,⟨_,rfl,rfl,fun j x v hj hv=>?_⟩⟩
   ·cases r with
    | none=>
     have h5:Dl l s=none:=by simpa using h4.symm
     simp [execOp,hv,e2,Instr.lookup,run_underlying hm.out,MapKept.run_getObj_map h1,hck,hfk,hzv,h5,go_sem]
    | some p=>
     obtain⟨n,h5,h6⟩:∃n,Dl l s=some n∧p.2=.int .i64 n:=by
      cases hf:Dl l s with
      | none=>rw [hf] at h4;simp at h4
      | some n=>rw [hf] at h4;exact⟨n,rfl,by simpa using h4⟩
     obtain⟨q1,q2⟩:=p
     simp only at h6
     subst h6
     simp [execOp,hv,e2,Instr.lookup,run_underlying hm.out,MapKept.run_getObj_map h1,hck,hfk,h5,go_sem]
   ·match j with
    | 0=>simp at hj hv;subst hj;subst hv;exact⟨_,rfl,.d (.v rfl)⟩
    | 1=>simp at hj hv;subst hj;subst hv;exact⟨_,rfl,.d (.v rfl)⟩
    | j+2=>simp at hj
theorem Zz{m e:TypeId}{x y z:Operand}{id:Nat}{l:List (List Int×Int)}{s:List Int}{v:Int}[hm:Ik P m t e][h:E0 P t n q](hx:ev f x=some (.o (.mp id)))(hy:ev f y=some (X1 q s))(hz:ev f z=some (eI .i64 v))(ho:look σ id=some (.mp (mapA q l)))
 (hl:NI n q l) (hd:l.Pairwise (fun a b=>a.1≠b.1)) (hs:s.length=n) (hw:∀x∈s,(Lit.int q x).wf=true) (hn:Dl l s=none) (hK:K (.t []) ((id,.mp (mapA q (l++[(s,v)])))::σ) nx):BZ P TB Γ ⟨d,.mapUpdate m x y z,ty,pos,af,g⟩ f σ nx K:=by
 intro V a h1 h2 h3
 have h1:=h1.Gb
 unfold Oper.wp
 generalize a.eval=ρ at h1 ⊢
 have e1:=h1.get (x:=x) (by simp [Op.operands]) hx
 have e2:ρ y=JT q s:=Jn (h1.get (by simp [Op.operands]) hy)
 have e3:ρ z=.int .i64 v:=AE.val (h1.get (by simp [Op.operands]) hz)
 generalize hv:ρ x=vx at e1
 cases e1 with
 | mp hid=>
  obtain⟨hnl,ents,clock,h4,h5⟩:=h2.st.obj id _ ho
  obtain⟨r,hfk,h7⟩:=NY (P:=P) (t:=t) (es:=ents.toList) hl h5 hs hw hd V.w
  rw [hn] at h7
  have hr:r=none:=by cases r with
   | none=>rfl
   | some q=>simp at h7
  subst hr
  have hck:=LK (P:=P) (t:=t) hs hw false V.w
  let ob:Obj:=.map (ents.push { key:=JT q s,val:=.int .i64 v,born:=clock }) (clock+1)
  let w':World:={ V.w with heap:=V.w.heap.setIfInBounds (V.ρ id) ob }
  have hset:=MapKept.run_setObj_map (P:=P) ob h4
  have hlt:=(Array.getElem?_eq_some_iff.1 h4).1
  obtain⟨hi,he⟩:=h2.write ho hnl (w:=w') (ob':=.mp (mapA q (l++[(s,v)]))) rfl rfl rfl rfl rfl (by simp [w']) (fun b hb=>by simp [w',Array.getElem?_setIfInBounds,Ne.symm hb]) (by
   refine⟨hnl,ents.push { key:=JT q s,val:=.int .i64 v,born:=clock },clock+1,?_,?_⟩
   ·show w'.heap[V.ρ id]? = some ob
    simp [w',Array.getElem?_setIfInBounds,hlt]
   ·simp [mapA] at h5 ⊢
    exact h5)
  have hrun:(execOp ρ ⟨d,.mapUpdate m x y z,ty,pos,af,g⟩).run P V.w=.ok .skip w':=by
   simp [execOp,hv,e2,e3,Instr.mapUpdate,run_underlying hm.out,MapKept.run_getObj_map h4,hck,hfk,hset,ob,w',go_sem]
  rw [hrun]
  exact⟨{ V with w:=w' },.tuple #[],.t [],_,rfl,rfl,he,hi,⟨#[],rfl,rfl,fun j x v hj=>by simp at hj⟩,by rw [←h3] at hK;exact hK⟩
end
end Go.Am
namespace Go.Am
open Go Go.Proofs
set_option maxHeartbeats 1000000
attribute [local irreducible] A1 BZ Lex Bj Ai Spec
variable {TB:Bh}
abbrev UR(n:UInt8):List D:=[.v (.int .u8 n.toNat)]
abbrev OA(l:List UInt8):D:=.l (l.map UR)
abbrev AV(b:List UInt8)(p:Int):O:=.cells 112 2 [[.d (OA b),.d (iD p)]]
theorem VZ{a b:Nat}(ha:a < 2 ^ 62)(hb:b < 2 ^ 62):Rp .i64 a b=((a ^^^ b:Nat):Int):=by
 unfold Rp
 have h1:(BitVec.ofInt IntKind.i64.bits (a:Int)).toNat=a:=by
  rw [BitVec.toNat_ofInt];have:IntKind.i64.bits=64:=rfl;rw [this];omega
 have h2:(BitVec.ofInt IntKind.i64.bits (b:Int)).toNat=b:=by
  rw [BitVec.toNat_ofInt];have:IntKind.i64.bits=64:=rfl;rw [this];omega
 rw [BitVec.toNat_xor,h1,h2]
 have h3:a ^^^ b < 2 ^ 62:=Nat.xor_lt_two_pow ha hb
 exact IntWalk.i64_in _ (by omega)
theorem XY{x y:Int}(hx:0≤x∧x < 4611686018427387904)(hy:0≤y∧y < 4611686018427387904):0≤Rp .i64 x y∧Rp .i64 x y < 4611686018427387904:=by
 obtain⟨a,rfl⟩:∃a:Nat,x=a:=⟨x.toNat,by omega⟩
 obtain⟨b,rfl⟩:∃b:Nat,y=b:=⟨y.toNat,by omega⟩
 rw [VZ (by omega) (by omega)]
 have h3:a ^^^ b < 2 ^ 62:=Nat.xor_lt_two_pow (by omega) (by omega)
 omega
theorem Rt(b:List UInt8)(hb:b.length≤9223372036854775807):∃b':List UInt8,b'.length≤2000∧AU Tryz.prog TB 54 0 [] 0 [.o (.d (OA b))] (fun x σ nx=>x=.o (.ptr 0 2 0 0)∧σ=[(0,AV b' 0)]∧nx=1):=by
 by_cases h:b.length≤2000
 ·refine⟨b,h,?_⟩
  refine AU.Pr (m:=0) (Nat.le_of_ble_eq_true rfl) Tryz.func54 rfl (by kernel_rfl) (Nat.le_of_ble_eq_true rfl) ?_;intro Γ hΓ
  (repeat first|refine sN rfl ?_ |refine tX rfl ?_ |refine s2 rfl fun _ _hb=>?_ |refine aU rfl ?_ |refine Aa ?_)
  ((refine aC rfl ?_ ?_<;>rintro⟨⟩);all_goals try (simp at _hb;done))
  ·exfalso;(simp only[oZ] at *;omega)
  refine aK ?_
  (repeat first|refine tX rfl ?_|(refine Af rfl ?_;refine gA rfl ?_;first| refine gS (fun _ _=>Av rfl rfl (by rfl) (by rfl)) ?_) |refine aU rfl ?_)
  (refine pW rfl ?_ rfl (by rfl);refine Dm rfl rfl ?_)
  (repeat first|refine tX rfl ?_ |refine Aa ?_)
  refine aR ⟨_,rfl,rfl,rfl,rfl⟩
 ·refine⟨b.take 2000,by simp;omega,?_⟩
  have e:(b.map UR).take (2000:Int).toNat=(b.take 2000).map UR:=by simp [List.map_take]
  refine AU.Pr (m:=0) (Nat.le_of_ble_eq_true rfl) Tryz.func54 rfl (by kernel_rfl) (Nat.le_of_ble_eq_true rfl) ?_;intro Γ hΓ
  (repeat first|refine sN rfl ?_ |refine tX rfl ?_ |refine s2 rfl fun _ _hb=>?_ |refine aU rfl ?_ |refine Aa ?_)
  ((refine aC rfl ?_ ?_<;>rintro⟨⟩);all_goals try (simp at _hb;done))
  ·(repeat first|refine tX rfl ?_|(refine Af rfl ?_;refine gA rfl ?_;first| refine gS (fun _ _=>HZ rfl rfl (by simp) (by omega) (by simp;omega)) ?_) |refine aU rfl ?_ |refine Aa ?_)
   rw [e]
   (repeat first| (refine Af rfl ?_;refine gA rfl ?_;first| refine gS (fun _ _=>Av rfl rfl (by rfl) (by rfl)) ?_))
   (refine pW rfl ?_ rfl (by rfl);refine Dm rfl rfl ?_)
   (repeat first|refine tX rfl ?_ |refine Aa ?_)
   refine aR ⟨_,rfl,rfl,rfl,rfl⟩
  ·exfalso;(simp only[oZ] at *;omega)
theorem AX(b:List UInt8)(hb:b.length≤2000)(p n:Int)(h0:0≤p∧p < 1000000000):∃k:Int,0≤k∧(k=0∨k < n)∧Spec Tryz.prog TB 66 [(0,AV b p)] 1 [.o (.ptr 0 2 0 0),eI .i64 n] (fun x σ nx=>x=eI .i64 k∧σ=[(0,AV b (p+1))]∧nx=1):=by
 by_cases hz:n < 1∨b.length=0
 ·refine⟨0,by omega,.inl rfl,?_⟩
  refine eR Tryz.func66 rfl (by kernel_rfl) rfl ?_;intro Γ hΓ
  (repeat' first|refine sN rfl ?_ |(refine sA rfl ?_ ?_;first|exact tI|omega|simp only[oZ] at *;omega) |refine s2 rfl fun _ _hb=>?_ |refine s3 rfl ?_ ?_<;>rintro rfl |refine aU rfl ?_ |refine Aa ?_ |refine rE (by kernel_rfl) ?_|(refine aC rfl ?_ ?_<;>rintro⟨⟩)|refine aK ?_|refine aE ?_|refine aB ?_|refine aR ⟨_,rfl,?_⟩)
  all_goals first
   | (exfalso;(simp only[oZ] at *;omega);done)
   | refine⟨[0],eI .i64 0,[(0,AV b (p+1))],⟨by first|(simp;done)|decide|(intro i hi;match i with|0=>rfl),by decide⟩,rfl,by (simp[cX,zC,hΓ]),rfl,rfl,rfl⟩
 have hl:0 < b.length:=by omega
 have hn:0 < n:=by omega
 by_cases hp:p < b.length
 ·obtain⟨c,hc⟩:=get_some (l:=b) (k:=(p+1 - 1).toNat) (by omega)
  have hc':=get_map (g:=UR) hc
  have hcl:=c.toNat_lt
  refine⟨(c.toNat:Int) % n,Int.emod_nonneg _ (by omega),.inr (Int.emod_lt_of_pos _ hn),?_⟩
  refine eR Tryz.func66 rfl (by kernel_rfl) rfl ?_;intro Γ hΓ
  (repeat' first|refine sN rfl ?_ |(refine sA rfl ?_ ?_;first|exact tI|omega) |(refine s4 rfl ‹_› rfl ?_ ?_;omega) |refine s2 rfl fun _ _hb=>?_ |refine s3 rfl ?_ ?_<;>rintro rfl |refine aU rfl ?_ |refine Aa ?_ |refine rE (by kernel_rfl) ?_|(refine aC rfl ?_ ?_<;>rintro⟨⟩)|refine aK ?_|refine aE ?_|refine aB ?_|refine aR ⟨_,rfl,?_⟩)
  all_goals first
   | (exfalso;(simp only[oZ] at *;omega);done)
   | refine⟨[0],_,[(0,AV b (p+1))],⟨by first|(simp;done)|decide|(intro i hi;match i with|0=>rfl),by decide⟩,rfl,by (simp[cX,zC,hΓ]),rfl,rfl,rfl⟩
 ·have hl':(0:Int) < b.length:=by omega
  have i1:=Int.emod_nonneg (p+1 - 1) (show (b.length:Int)≠0 by omega)
  have i2:=Int.emod_lt_of_pos (p+1 - 1) hl'
  have j1:=Int.emod_nonneg ((p+1 - 1)*7+3) (show (b.length:Int)≠0 by omega)
  have j2:=Int.emod_lt_of_pos ((p+1 - 1)*7+3) hl'
  obtain⟨c,hc⟩:=get_some (l:=b) (k:=((p+1 - 1) % (b.length:Int)).toNat) (by omega)
  have hc':=get_map (g:=UR) hc
  have hcl:=c.toNat_lt
  obtain⟨d,hd⟩:=get_some (l:=b) (k:=(((p+1 - 1)*7+3) % (b.length:Int)).toNat) (by omega)
  have hd':=get_map (g:=UR) hd
  have hdl:=d.toNat_lt
  have q1:0≤(p+1 - 1) / (b.length:Int):=Int.ediv_nonneg (by omega) (by omega)
  have q2:(p+1 - 1) / (b.length:Int)≤p+1 - 1:=Int.ediv_le_self _ (by omega)
  obtain⟨x,hx⟩:∃x,x=(c.toNat:Int)*131+(d.toNat:Int)*1117+(p+1 - 1)*29+(p+1 - 1) / (b.length:Int)*53:=⟨_,rfl⟩
  have x1:0≤x∧x < 1000000000000:=by omega
  have y1:=XY (x:=x) (y:=x / 64) (by omega) (by omega)
  refine⟨Rp .i64 x (x / 64) % n,Int.emod_nonneg _ (by omega),.inr (Int.emod_lt_of_pos _ hn),?_⟩
  refine eR Tryz.func66 rfl (by kernel_rfl) rfl ?_;intro Γ hΓ
  (repeat' first|refine sN rfl ?_ |(refine sA rfl ?_ ?_;first|exact tI|omega) |(refine s4 rfl ‹_› rfl ?_ ?_;omega) |(refine s2 rfl fun _ _hb=>?_;try (simp only[Bool.not_true,Bool.not_false] at _hb;subst _hb))|(refine Af rfl ?_;refine gA rfl ?_;first| refine gS (fun _ _=>bS rfl rfl rfl) ?_) |refine s3 rfl ?_ ?_<;>rintro rfl |refine aU rfl ?_ |refine Aa ?_ |refine rE (by kernel_rfl) ?_|(refine aC rfl ?_ ?_<;>rintro⟨⟩)|refine aK ?_|refine aR ⟨_,rfl,?_⟩|(rw [←hx]))
  all_goals first
   | (exfalso;(simp only[oZ] at *;omega);done)
   | refine⟨[0],_,[(0,AV b (p+1))],⟨by first|(simp;done)|decide|(intro i hi;match i with|0=>rfl),by decide⟩,rfl,by (simp[cX,zC,hΓ]),rfl,rfl,rfl⟩
theorem BQ(b:List UInt8)(hb:b.length≤2000)(p:Int)(h0:0≤p∧p < 1000000000)(l:List Int)(hl:0 < l.length)(hl2:l.length < 1000000):∃k∈l,Spec Tryz.prog TB 77 [(0,AV b p)] 1 [.o (.ptr 0 2 0 0),Ay l] (fun x σ nx=>x=eI .i64 k∧σ=[(0,AV b (p+1))]∧nx=1):=by
 obtain⟨k,k1,k2,h⟩:=AX (TB:=TB) b hb p l.length h0
 obtain⟨x,hx⟩:=get_some (l:=l) (k:=k.toNat) (by omega)
 have hx':=get_map (g:=Bv) hx
 refine⟨x,List.mem_of_getElem? hx,?_⟩
 refine eR Tryz.func77 rfl (by kernel_rfl) rfl ?_;intro Γ hΓ
 (repeat first|refine sN rfl ?_ |refine tA rfl ?_ |refine aU rfl ?_ |refine Aa ?_)
 (refine pW rfl ?_ rfl (by rfl);refine Ae [0] rfl rfl (h) ⟨rfl,by decide,by decide⟩ rfl (by simp[cX,zC,hΓ]) ?_;rintro x0 σ1 nx1 ⟨rfl,rfl,rfl⟩ _)
 (repeat first|refine tA rfl ?_ |(refine s4 rfl ‹_› rfl ?_ ?_;omega) |refine Aa ?_)
 refine aR ⟨_,rfl,?_⟩
 refine⟨[0],_,[(0,AV b (p+1))],⟨by first|(simp;done)|decide|(intro i hi;match i with|0=>rfl),by decide⟩,rfl,by (simp[cX,zC,hΓ]),rfl,rfl,rfl⟩
theorem Qt(b:List UInt8)(hb:b.length≤2000)(p:Int)(h0:0≤p∧p < 1000000000)(l:List W)(hl:0 < l.length)(hl2:l.length < 1000000):∃k∈l,Spec Tryz.prog TB 75 [(0,AV b p)] 1 [.o (.ptr 0 2 0 0),Bp l] (fun x σ nx=>x=eT k∧σ=[(0,AV b (p+1))]∧nx=1):=by
 obtain⟨k,k1,k2,h⟩:=AX (TB:=TB) b hb p l.length h0
 obtain⟨x,hx⟩:=get_some (l:=l) (k:=k.toNat) (by omega)
 have hx':=get_map (g:=BD) hx
 refine⟨x,List.mem_of_getElem? hx,?_⟩
 refine eR Tryz.func75 rfl (by kernel_rfl) rfl ?_;intro Γ hΓ
 (repeat first|refine sN rfl ?_ |refine tA rfl ?_ |refine aU rfl ?_ |refine Aa ?_)
 (refine pW rfl ?_ rfl (by rfl);refine Ae [0] rfl rfl (h) ⟨rfl,by decide,by decide⟩ rfl (by simp[cX,zC,hΓ]) ?_;rintro x0 σ1 nx1 ⟨rfl,rfl,rfl⟩ _)
 (repeat first|refine tA rfl ?_ |(refine s4 rfl ‹_› rfl ?_ ?_;omega) |refine Aa ?_)
 refine aR ⟨_,rfl,?_⟩
 refine⟨[0],_,[(0,AV b (p+1))],⟨by first|(simp;done)|decide|(intro i hi;match i with|0=>rfl),by decide⟩,rfl,by (simp[cX,zC,hΓ]),rfl,rfl,rfl⟩
end Go.Am
