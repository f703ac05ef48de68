/-
  Arrays of arrays of the call's own: the inner ones lie sealed, one of them at a time is taken out and put back.
-/
import Derived.Test.YtkdilmleinnfiaaGreatDoorPart17
import Derived.Test.YtkdilmleinnfiaaGreatDoorPart16
import Derived.Test.YtkdilmleinnfiaaGreatDoorPart6
import Derived.Test.YtkdilmleinnfiaaGreatDoorPart5
import Derived.WideKeyArr
import Derived.Test.YtkdilmleinnfiaaGreatDoorPart15
import Derived.Test.YtkdilmleinnfiaaGreatDoorPart14
import Derived.Test.YtkdilmleinnfiaaGreatDoorPart13
set_option linter.constructorNameAsVariable false
set_option linter.unusedSectionVars false
set_option linter.unusedSimpArgs false
set_option linter.unusedVariables false
namespace Go.Am
open Go
abbrev Pr:=List (Value×List Int)
def sI(l:Pr):List (Value×List Value):=l.map fun x=>(x.1,x.2.map (.int .i64))
def CQ(l:Pr):List (List C):=l.map fun x=>[.d (.v x.1)]
abbrev Jq(xs:List Int):List (List C):=xs.map AI
theorem XZ{V:View}{i k off n:Nat}{v:Value}(h:Ax V (.arr i k off n) v):(V.nl i∧off=0∧n=0∧v=.slice none 0 0)∨(¬V.nl i∧off+n≤V.cap i∧v=.slice (some ⟨V.ρ i,off*k,none⟩) n (V.cap i - off)):=by
 cases h with
 | nil _ h=>exact .inl ⟨h,rfl,rfl,rfl⟩
 | arr _ h1 h2=>exact .inr ⟨h1,h2,rfl⟩
theorem IL(l m:Pr):sI (l++m)=sI l++sI m:=List.map_append
theorem Jv(l m:Pr):CQ (l++m)=CQ l++CQ m:=List.map_append
theorem Mw(l:Pr):(CQ l).length=l.length:=List.length_map _
theorem Xj(r:Nat→Nat)(l:Pr):(CQ l).map (C.Bp r)=CQ l:=by
 unfold CQ
 rw [List.map_map]
 rfl
theorem WR(l:List Int):(Jq l).length=l.length:=List.length_map _
section
variable {P:Program}{TB:Be}{Γ:Ctx}{N:Nat}{V:View}{σ:Ab}{a i s:Nat}{T Ta:TypeId}{R1 R2:List (List C)}{xs:List Int}{l1 l2:Pr}
theorem Se{l:Pr}{x:Value×List Value}(h:x∈sI l):∃y∈l,x=(y.1,y.2.map (.int .i64)):=by
 obtain⟨y,hy,rfl⟩:=List.mem_map.1 h
 exact⟨y,hy,rfl⟩
theorem Inv.put(h:Inv TB Γ V σ)(ha:look σ a=some (.cells Ta 1 (R1++[.arr i 1 0 xs.length]::R2)))(hi:look σ i=some (.cells T 1 (Jq xs)))(hs:look σ s=some (.sld T (sI (l1++l2)))) :
 ∃v,Inv TB Γ V ((a,.cells Ta 1 (R1++[.d (.v v)]::R2))::(s,.sld T (sI (l1++(v,xs)::l2)))::kill i σ):=by
 have has:a≠s:=fun e=>by rw [e,hs] at ha;cases ha
 have his:i≠s:=fun e=>by rw [e,hs] at hi;cases hi
 have hai:a≠i:=fun e=>by
  rw [e,hi] at ha
  injection ha with ha;injection ha with _ _ ha
  have h1:(Jq xs)[R1.length]? = some [.arr i 1 0 xs.length]:=by rw [ha];simp
  rw [List.getElem?_map,Option.map_eq_some_iff] at h1
  obtain⟨x,_,hx⟩:=h1
  cases hx
 rcases h.st.obj a _ ha with ⟨_,h0⟩|⟨hna,cur,h2,h3,h4,h5,h6,h7⟩
 ·simp at h0
 obtain⟨v,hv,hc⟩:=h7 R1.length [.arr i 1 0 xs.length] 0 (.arr i 1 0 xs.length) (by simp) rfl
 have hc:=XZ hc
 have hsl:Ns v=true:=by rcases hc with ⟨_,_,_,rfl⟩|⟨_,_,rfl⟩<;>rfl
 have hblk:∀b,Ip v b→¬V.nl i∧b=V.ρ i:=by
  rintro b ⟨o,n,c,rfl⟩
  rcases hc with ⟨_,_,_,hw⟩|⟨hn,_,hw⟩
  ·cases hw
  ·injection hw with hw;injection hw with hw;injection hw with hw;exact⟨hn,hw⟩
 have hslot:IT V.w T v (xs.map (.int .i64)):=by
  rcases h.st.obj i _ hi with ⟨g1,g2⟩|⟨hni,cur',g2,g3,g4,g5,g6,g7⟩
  ·have:xs=[]:=by simpa using g2
   subst this
   rcases hc with ⟨_,_,_,rfl⟩|⟨hn,_⟩
   ·exact .inl ⟨rfl,rfl⟩
   ·exact absurd g1 hn
  ·rcases hc with ⟨hn,_⟩|⟨_,hle,rfl⟩
   ·exact absurd hn hni
   ·refine .inr ⟨V.ρ i,V.cap i,cur',by simp,g2,by simpa using g3,by rw [WR] at g4;simpa using g4,g5,fun j x hj=>?_⟩
    rw [List.getElem?_map,Option.map_eq_some_iff] at hj
    obtain⟨n,hn,rfl⟩:=hj
    obtain⟨w,hw,hcw⟩:=g7 j [.d (.v (.int .i64 n))] 0 (.d (.v (.int .i64 n))) (by simp [Jq,hn]) rfl
    have:w=.int .i64 n:=Ax.val hcw
    subst this
    exact⟨by simpa using hw,rfl⟩
 refine⟨v,?_⟩
 have look':∀id o,look ((a,.cells Ta 1 (R1++[.d (.v v)]::R2))::(s,.sld T (sI (l1++(v,xs)::l2)))::kill i σ) id=some o→
  (id=a∧o=.cells Ta 1 (R1++[.d (.v v)]::R2))∨(id=s∧o=.sld T (sI (l1++(v,xs)::l2)))∨(id≠a∧id≠s∧id≠i∧look σ id=some o):=fun id o ho=>by
  rw [Au] at ho
  by_cases h1:a=id
  ·rw [if_pos h1] at ho;injection ho with ho;exact .inl ⟨h1.symm,ho.symm⟩
  ·rw [if_neg h1,Au] at ho
   by_cases h2:s=id
   ·rw [if_pos h2] at ho;injection ho with ho;exact .inr (.inl ⟨h2.symm,ho.symm⟩)
   ·rw [if_neg h2,DQ] at ho
    by_cases h3:id=i
    ·rw [if_pos h3] at ho;cases ho
    ·rw [if_neg h3] at ho;exact .inr (.inr ⟨Ne.symm h1,Ne.symm h2,h3,ho⟩)
 have hsb:∀b,Dv V s (.sld T (sI (l1++(v,xs)::l2))) b→Dv V s (.sld T (sI (l1++l2))) b∨(¬V.nl i∧b=V.ρ i):=by
  rintro b ⟨x,hx,hb⟩
  obtain⟨y,hy,rfl⟩:=Se hx
  rcases List.mem_append.1 hy with hy|hy
  ·exact .inl ⟨_,List.mem_map.2 ⟨y,List.mem_append_left _ hy,rfl⟩,hb⟩
  ·rcases List.mem_cons.1 hy with rfl|hy
   ·exact .inr (hblk b hb)
   ·exact .inl ⟨_,List.mem_map.2 ⟨y,List.mem_append_right _ hy,rfl⟩,hb⟩
 have hos:=h.st.obj s _ hs
 have hdis:∀x∈sI (l1++l2),∀b,Ip x.1 b→¬Ip v b:=fun x hx b hb hb'=>by
  obtain⟨hn,rfl⟩:=hblk b hb'
  exact h.st.inj s i _ _ hs hi (Ne.symm his) hos.1 hn _ ⟨x,hx,hb⟩ rfl
 have src:∀id o,look ((a,.cells Ta 1 (R1++[.d (.v v)]::R2))::(s,.sld T (sI (l1++(v,xs)::l2)))::kill i σ) id=some o→¬V.nl id→∀b,Dv V id o b→∃id0 o0,look σ id0=some o0∧¬V.nl id0∧Dv V id0 o0 b∧(id0=id∨id0=i∧id=s):=fun id o ho hn b hb=>by
  rcases look' id o ho with ⟨rfl,rfl⟩|⟨rfl,rfl⟩|⟨_,_,_,ho⟩
  ·exact⟨_,_,ha,hn,hb,.inl rfl⟩
  ·rcases hsb b hb with hb|⟨h1,rfl⟩
   ·exact⟨_,_,hs,hn,hb,.inl rfl⟩
   ·exact⟨_,_,hi,h1,rfl,.inr ⟨rfl,rfl⟩⟩
  ·exact⟨_,_,ho,hn,hb,.inl rfl⟩
 have noi:∀id o,look ((a,.cells Ta 1 (R1++[.d (.v v)]::R2))::(s,.sld T (sI (l1++(v,xs)::l2)))::kill i σ) id=some o→id≠i:=fun id o ho=>by
  rcases look' id o ho with ⟨rfl,rfl⟩|⟨rfl,rfl⟩|⟨_,_,h3,_⟩
  ·exact hai
  ·exact Ne.symm his
  ·exact h3
 refine⟨h.os,h.tape,h.output,h.old,h.iLt,h.iNew,h.ext,⟨fun id o ho=>?_,fun id o ho=>?_,fun id o ho hn b hb=>?_,fun id id' o o' ho ho' hne hn hn' b hb hb'=>?_⟩,fun id o ho hn b hb=>?_,h.tabs,h.hid.same rfl (fun _ h=>h) (fun _ h=>.inl h) fun b ⟨id,o,ho,hn,hb⟩=>let ⟨id0,o0,g1,g2,g3,_⟩:=src id o ho hn b hb;⟨id0,o0,g1,g2,g3⟩⟩
 ·rcases look' id o ho with ⟨rfl,rfl⟩|⟨rfl,rfl⟩|⟨_,_,_,ho⟩
  ·refine .inr ⟨hna,cur,h2,h3,by simpa using h4,h5,fun r hr=>?_,fun q r j c hq hj=>?_⟩
   ·rcases List.mem_append.1 hr with hr|hr
    ·exact h6 r (List.mem_append_left _ hr)
    ·rcases List.mem_cons.1 hr with rfl|hr
     ·rfl
     ·exact h6 r (List.mem_append_right _ (List.mem_cons_of_mem _ hr))
   ·by_cases hq0:q=R1.length
    ·subst hq0
     simp at hq
     subst hq
     have hj0:j=0:=by have:=(List.getElem?_eq_some_iff.1 hj).1;simp at this;omega
     subst hj0
     simp at hj
     subst hj
     exact⟨v,hv,.d (.v hsl)⟩
    ·refine h7 q r j c ?_ hj
     rw [←hq]
     rcases Nat.lt_or_ge q R1.length with h8|h8
     ·rw [List.getElem?_append_left h8,List.getElem?_append_left h8]
     ·rw [List.getElem?_append_right h8,List.getElem?_append_right h8]
      obtain⟨k,hk⟩:∃k,q - R1.length=k+1:=⟨q - R1.length - 1,by omega⟩
      rw [hk];rfl
  ·refine⟨hos.1,?_,fun x hx=>?_⟩
   ·have hp:=hos.2.1
    rw [IL,List.pairwise_append] at hp
    rw [IL,List.pairwise_append]
    refine⟨hp.1,List.pairwise_cons.2 ⟨fun y hy b hb hb'=>hdis y (by rw [IL];exact List.mem_append_right _ hy) b hb' hb,hp.2.1⟩,fun x hx y hy=>?_⟩
    rcases List.mem_cons.1 hy with rfl|hy
    ·exact fun b hb=>hdis x (by rw [IL];exact List.mem_append_left _ hx) b hb
    ·exact hp.2.2 x hx y hy
   ·obtain⟨y,hy,rfl⟩:=Se hx
    rcases List.mem_append.1 hy with hy|hy
    ·exact hos.2.2 _ (List.mem_map.2 ⟨y,List.mem_append_left _ hy,rfl⟩)
    ·rcases List.mem_cons.1 hy with rfl|hy
     ·exact hslot
     ·exact hos.2.2 _ (List.mem_map.2 ⟨y,List.mem_append_right _ hy,rfl⟩)
  ·exact h.st.obj id o ho
 ·rcases look' id o ho with ⟨rfl,rfl⟩|⟨rfl,rfl⟩|⟨_,_,_,ho⟩
  ·exact h.st.lt _ _ ha
  ·exact h.st.lt _ _ hs
  ·exact h.st.lt _ _ ho
 ·obtain⟨id0,o0,g1,g2,g3,_⟩:=src id o ho hn b hb
  exact h.st.free _ _ g1 g2 b g3
 ·obtain⟨id0,o0,g1,g2,g3,g4⟩:=src id o ho hn b hb
  obtain⟨id0',o0',g1',g2',g3',g4'⟩:=src id' o' ho' hn' b hb'
  refine h.st.inj id0 id0' _ _ g1 g1' ?_ g2 g2' b g3 g3'
  have n1:=noi id o ho
  have n2:=noi id' o' ho'
  rintro rfl
  rcases g4 with rfl|⟨rfl,rfl⟩<;>rcases g4' with rfl|⟨e1,rfl⟩
  ·exact hne rfl
  ·exact n1 e1
  ·exact n2 rfl
  ·exact hne rfl
 ·obtain⟨id0,o0,g1,g2,g3,_⟩:=src id o ho hn b hb
  exact h.live _ _ g1 g2 b g3
theorem Av.put{c:Code}{Q:Exit→Env→Ab→Nat→Prop}{f:Env}{nx:Nat}(a i s:Nat)(R1 R2:List (List C))(xs:List Int)(l1 l2:Pr)(ha:look σ a=some (.cells Ta 1 (R1++[.arr i 1 0 xs.length]::R2)))(hi:look σ i=some (.cells T 1 (Jq xs)))(hs:look σ s=some (.sld T (sI (l1++l2))))
 (h:∀v,Av P TB Γ N c Q f ((a,.cells Ta 1 (R1++[.d (.v v)]::R2))::(s,.sld T (sI (l1++(v,xs)::l2)))::kill i σ) nx):Av P TB Γ N c Q f σ nx:=by
 intro V ac hr
 obtain⟨v,hi'⟩:=hr.inv.put ha hi hs
 exact h v V ac ⟨hr.env,hr.lt,hr.size,hi',hr.nx,hr.defers⟩
theorem Inv.take{v:Value}(h:Inv TB Γ V σ)(ha:look σ a=some (.cells Ta 1 (R1++[.d (.v v)]::R2)))(hs:look σ s=some (.sld T (sI (l1++(v,xs)::l2)))) :
 ∃V',V'.w=V.w∧V'.nx=V.nx+1∧Ext V V'∧Inv TB Γ V' ((a,.cells Ta 1 (R1++[.arr V.nx 1 0 xs.length]::R2))::(V.nx,.cells T 1 (Jq xs))::(s,.sld T (sI (l1++l2)))::σ):=by
 have has:a≠s:=fun e=>by rw [e,hs] at ha;cases ha
 have hos:=h.st.obj s _ hs
 have hsn:=h.st.lt _ _ hs
 have han:=h.st.lt _ _ ha
 have hmem:((v,xs.map (.int .i64)):Value×List Value)∈sI (l1++(v,xs)::l2):=List.mem_map.2 ⟨(v,xs),by simp,rfl⟩
 obtain⟨b0,cap,nl,hb0,hcr,hob⟩:∃b0 cap nl,(¬nl→Ip v b0)∧Ax (Ak V b0 cap nl V.w) (.arr V.nx 1 0 xs.length) v∧BN (Ak V b0 cap nl V.w) V.nx (.cells T 1 (Jq xs)):=by
  rcases hos.2.2 _ hmem with ⟨h1,h2⟩|⟨b,cap,cur,h1,h2,h3,h4,h5,h6⟩
  ·have h1:v=.slice none 0 0:=h1
   have hx0:xs=[]:=by simpa using h2
   subst h1;subst hx0
   exact⟨0,0,True,fun h=>absurd trivial h,.nil (by simp [Ak]) (by simp [Ak]),.inl ⟨by simp [Ak],rfl⟩⟩
  ·have h1:v=.slice (some ⟨b,0,none⟩) (xs.map (Value.int .i64)).length cap:=h1
   rw [List.length_map] at h1 h4
   refine⟨b,cap,False,fun _=>⟨_,_,_,h1⟩,?_,.inr ⟨by simp [Ak],cur,by simpa [Ak] using h2,by simpa [Ak] using h3,by simpa [Ak] using h4,by simpa [Ak] using h5,fun r hr=>?_,fun q r j c hq hj=>?_⟩⟩
   ·rw [h1]
    have:=@Ax.arr (Ak V b cap False V.w) V.nx 1 0 xs.length (by simp [Ak]) (by simp [Ak]) (by simpa [Ak] using h4)
    simpa [Ak] using this
   ·obtain⟨n,_,rfl⟩:=List.mem_map.1 hr;rfl
   ·rw [List.getElem?_map,Option.map_eq_some_iff] at hq
    obtain⟨n,hn,rfl⟩:=hq
    have hj0:j=0:=by have:=(List.getElem?_eq_some_iff.1 hj).1;simp at this;omega
    subst hj0
    simp at hj
    subst hj
    exact⟨.int .i64 n,by simpa using (h6 q (.int .i64 n) (by simp [hn])).1,.d (.v rfl)⟩
 have e:Ext V (Ak V b0 cap nl V.w):=DB (Nat.le_refl _) fun _ _=>rfl
 have hρ:(Ak V b0 cap nl V.w).ρ V.nx=b0:=by simp [Ak]
 have hnl:(Ak V b0 cap nl V.w).nl V.nx↔nl:=by simp [Ak]
 refine⟨Ak V b0 cap nl V.w,rfl,rfl,e,?_⟩
 have look':∀id o,look ((a,.cells Ta 1 (R1++[.arr V.nx 1 0 xs.length]::R2))::(V.nx,.cells T 1 (Jq xs))::(s,.sld T (sI (l1++l2)))::σ) id=some o→
  (id=a∧o=.cells Ta 1 (R1++[.arr V.nx 1 0 xs.length]::R2))∨(id=V.nx∧o=.cells T 1 (Jq xs))∨(id=s∧o=.sld T (sI (l1++l2)))∨(id≠a∧id≠s∧look σ id=some o):=fun id o ho=>by
  rw [Au] at ho
  by_cases h1:a=id
  ·rw [if_pos h1] at ho;injection ho with ho;exact .inl ⟨h1.symm,ho.symm⟩
  ·rw [if_neg h1,Au] at ho
   by_cases h2:V.nx=id
   ·rw [if_pos h2] at ho;injection ho with ho;exact .inr (.inl ⟨h2.symm,ho.symm⟩)
   ·rw [if_neg h2,Au] at ho
    by_cases h3:s=id
    ·rw [if_pos h3] at ho;injection ho with ho;exact .inr (.inr (.inl ⟨h3.symm,ho.symm⟩))
    ·rw [if_neg h3] at ho;exact .inr (.inr (.inr ⟨Ne.symm h1,Ne.symm h3,ho⟩))
 have hsub:∀x∈sI (l1++l2),x∈sI (l1++(v,xs)::l2):=fun x hx=>by
  obtain⟨y,hy,rfl⟩:=Se hx
  refine List.mem_map.2 ⟨y,?_,rfl⟩
  rcases List.mem_append.1 hy with hy|hy
  ·exact List.mem_append_left _ hy
  ·exact List.mem_append_right _ (List.mem_cons_of_mem _ hy)
 have hp:=hos.2.1
 rw [IL,List.pairwise_append] at hp
 have hp2:=List.pairwise_cons.1 hp.2.1
 have hdis:∀x∈sI (l1++l2),∀b,Ip x.1 b→¬Ip v b:=fun x hx b hb hb'=>by
  rw [IL] at hx
  rcases List.mem_append.1 hx with hx|hx
  ·exact hp.2.2 x hx _ (List.mem_cons_self ..) b hb hb'
  ·exact hp2.1 x hx b hb' hb
 have src:∀id o,look ((a,.cells Ta 1 (R1++[.arr V.nx 1 0 xs.length]::R2))::(V.nx,.cells T 1 (Jq xs))::(s,.sld T (sI (l1++l2)))::σ) id=some o→¬(Ak V b0 cap nl V.w).nl id→∀b,Dv (Ak V b0 cap nl V.w) id o b→
  ∃id0 o0,look σ id0=some o0∧¬V.nl id0∧Dv V id0 o0 b∧(id0=id∨id0=s∧id=V.nx∧Ip v b)∧(id=s→∃x∈sI (l1++l2),Ip x.1 b):=fun id o ho hn b hb=>by
  rcases look' id o ho with ⟨rfl,rfl⟩|⟨rfl,rfl⟩|⟨rfl,rfl⟩|⟨_,h3,ho⟩
  ·exact⟨_,_,ha,fun h=>hn ((e.nl _ han).2 h),by have:b=_:=hb;rw [e.ρ _ han] at this;exact this,.inl rfl,fun e=>absurd e has⟩
  ·have hb:b=_:=hb
   rw [hρ] at hb
   subst hb
   have hv:=hb0 fun h=>hn (hnl.2 h)
   exact⟨_,_,hs,hos.1,⟨_,hmem,hv⟩,.inr ⟨rfl,rfl,hv⟩,fun e=>by omega⟩
  ·obtain⟨x,hx,hb⟩:=hb
   exact⟨_,_,hs,hos.1,⟨x,hsub x hx,hb⟩,.inl rfl,fun _=>⟨x,hx,hb⟩⟩
  ·have hlt:=h.st.lt _ _ ho
   exact⟨_,_,ho,fun h=>hn ((e.nl _ hlt).2 h),(Aw e hlt).1 hb,.inl rfl,fun e=>absurd e h3⟩
 refine⟨h.os,h.tape,h.output,h.old,h.iLt,h.iNew,h.ext.trans e,⟨fun id o ho=>?_,fun id o ho=>?_,fun id o ho hn b hb=>?_,fun id id' o o' ho ho' hne hn hn' b hb hb'=>?_⟩,fun id o ho hn b hb=>?_,h.tabs,h.hid.same rfl (fun _ h=>h) (fun _ h=>.inl h) fun b ⟨id,o,ho,hn,hb⟩=>let ⟨id0,o0,g1,g2,g3,_⟩:=src id o ho hn b hb;⟨id0,o0,g1,g2,g3⟩⟩
 ·rcases look' id o ho with ⟨rfl,rfl⟩|⟨rfl,rfl⟩|⟨rfl,rfl⟩|⟨_,_,ho⟩
  ·rcases h.st.obj _ _ ha with ⟨_,h0⟩|⟨hna,cur,h2,h3,h4,h5,h6,h7⟩
   ·simp at h0
   refine .inr ⟨fun h=>hna ((e.nl _ han).1 h),cur,by rw [e.ρ _ han];exact h2,by rw [e.cap _ han];exact h3,by rw [e.cap _ han];simpa using h4,by rw [e.cap _ han];exact h5,fun r hr=>?_,fun q r j c hq hj=>?_⟩
   ·rcases List.mem_append.1 hr with hr|hr
    ·exact h6 r (List.mem_append_left _ hr)
    ·rcases List.mem_cons.1 hr with rfl|hr
     ·rfl
     ·exact h6 r (List.mem_append_right _ (List.mem_cons_of_mem _ hr))
   ·by_cases hq0:q=R1.length
    ·subst hq0
     simp at hq
     subst hq
     have hj0:j=0:=by have:=(List.getElem?_eq_some_iff.1 hj).1;simp at this;omega
     subst hj0
     simp at hj
     subst hj
     obtain⟨w,hw,hc⟩:=h7 R1.length [.d (.v v)] 0 (.d (.v v)) (by simp) rfl
     have hw2:w=v:=Ax.val hc
     subst hw2
     exact⟨w,hw,hcr⟩
    ·obtain⟨w,hw,hc⟩:=h7 q r j c (by
      rw [←hq]
      rcases Nat.lt_or_ge q R1.length with h8|h8
      ·rw [List.getElem?_append_left h8,List.getElem?_append_left h8]
      ·rw [List.getElem?_append_right h8,List.getElem?_append_right h8]
       obtain⟨k,hk⟩:∃k,q - R1.length=k+1:=⟨q - R1.length - 1,by omega⟩
       rw [hk];rfl) hj
     exact⟨w,hw,hc.ext e⟩
  ·exact hob
  ·refine⟨fun h=>hos.1 ((e.nl _ hsn).1 h),?_,fun x hx=>hos.2.2 x (hsub x hx)⟩
   rw [IL,List.pairwise_append]
   exact⟨hp.1,hp2.2,fun x hx y hy=>hp.2.2 x hx y (List.mem_cons_of_mem _ hy)⟩
  ·exact(h.st.obj id o ho).AU e (h.st.lt id o ho) fun _ _ _=>rfl
 ·rcases look' id o ho with ⟨rfl,rfl⟩|⟨rfl,rfl⟩|⟨rfl,rfl⟩|⟨_,_,ho⟩
  ·exact Nat.lt_succ_of_lt han
  ·exact Nat.lt_succ_self _
  ·exact Nat.lt_succ_of_lt hsn
  ·exact Nat.lt_succ_of_lt (h.st.lt _ _ ho)
 ·obtain⟨id0,o0,g1,g2,g3,_⟩:=src id o ho hn b hb
  exact h.st.free _ _ g1 g2 b g3
 ·obtain⟨id0,o0,g1,g2,g3,g4,g5⟩:=src id o ho hn b hb
  obtain⟨id0',o0',g1',g2',g3',g4',g5'⟩:=src id' o' ho' hn' b hb'
  by_cases hee:id0=id0'
  ·rcases g4 with g4|⟨k1,k2,k3⟩<;>rcases g4' with g4'|⟨k1',k2',k3'⟩
   ·exact hne (by rw [←g4,←g4',hee])
   ·obtain⟨x,hx,hxb⟩:=g5 (by rw [←g4,hee,k1'])
    exact hdis x hx b hxb k3'
   ·obtain⟨x,hx,hxb⟩:=g5' (by rw [←g4',←hee,k1])
    exact hdis x hx b hxb k3
   ·exact hne (by rw [k2,k2'])
  ·exact h.st.inj id0 id0' _ _ g1 g1' hee g2 g2' b g3 g3'
 ·obtain⟨id0,o0,g1,g2,g3,_⟩:=src id o ho hn b hb
  exact h.live _ _ g1 g2 b g3
theorem Av.take{c:Code}{Q:Exit→Env→Ab→Nat→Prop}{f:Env}{nx:Nat}(a s:Nat)(R1 R2:List (List C))(v:Value)(xs:List Int)(l1 l2:Pr)(ha:look σ a=some (.cells Ta 1 (R1++[.d (.v v)]::R2)))(hs:look σ s=some (.sld T (sI (l1++(v,xs)::l2))))
 (h:Av P TB Γ N c Q f ((a,.cells Ta 1 (R1++[.arr nx 1 0 xs.length]::R2))::(nx,.cells T 1 (Jq xs))::(s,.sld T (sI (l1++l2)))::σ) (nx+1)):Av P TB Γ N c Q f σ nx:=by
 intro V ac hr
 obtain⟨V',h1,h2,e,hi⟩:=hr.inv.take ha hs
 have:=h V' ac ⟨hr.env.ext e,hr.lt,hr.size,by have:=hr.nx;subst this;exact hi,by rw [h2,hr.nx],hr.defers⟩
 rw [h1] at this
 exact this
theorem Av.gp{c:Code}{Q:Exit→Env→Ab→Nat→Prop}{f:Env}{nx:Nat}(T:TypeId)(h:Av P TB Γ N c Q f ((nx,.sld T (sI []))::σ) (nx+1)):Av P TB Γ N c Q f σ nx:=by
 intro V ac hr
 have hi:=hr.inv
 have e:Ext V (Ak V 0 0 False V.w):=DB (Nat.le_refl _) fun _ _=>rfl
 have hnx:=hr.nx
 subst hnx
 have look':∀id o,look ((V.nx,.sld T (sI []))::σ) id=some o→(id=V.nx∧o=.sld T (sI []))∨(id≠V.nx∧look σ id=some o):=fun id o ho=>by
  rw [Au] at ho
  by_cases h1:V.nx=id
  ·rw [if_pos h1] at ho;injection ho with ho;exact .inl ⟨h1.symm,ho.symm⟩
  ·rw [if_neg h1] at ho;exact .inr ⟨Ne.symm h1,ho⟩
 have src:∀id o,look ((V.nx,.sld T (sI []))::σ) id=some o→∀b,Dv (Ak V 0 0 False V.w) id o b→look σ id=some o∧Dv V id o b∧((Ak V 0 0 False V.w).nl id↔V.nl id):=fun id o ho b hb=>by
  rcases look' id o ho with ⟨rfl,rfl⟩|⟨_,ho⟩
  ·obtain⟨x,hx,_⟩:=hb;cases hx
  ·have hlt:=hi.st.lt _ _ ho
   exact⟨ho,(Aw e hlt).1 hb,e.nl _ hlt⟩
 refine h (Ak V 0 0 False V.w) ac ⟨hr.env.ext e,hr.lt,hr.size,?_,rfl,hr.defers⟩
 refine⟨hi.os,hi.tape,hi.output,hi.old,hi.iLt,hi.iNew,hi.ext.trans e,⟨fun id o ho=>?_,fun id o ho=>?_,fun id o ho hn b hb=>?_,fun id id' o o' ho ho' hne hn hn' b hb hb'=>?_⟩,fun id o ho hn b hb=>?_,hi.tabs,hi.hid.same rfl (fun _ h=>h) (fun _ h=>.inl h) fun b ⟨id,o,ho,hn,hb⟩=>let ⟨h1,h2,h3⟩:=src id o ho b hb;⟨id,o,h1,fun h=>hn (h3.2 h),h2⟩⟩
 ·rcases look' id o ho with ⟨rfl,rfl⟩|⟨_,ho⟩
  ·exact⟨by simp [Ak],List.Pairwise.nil,fun x hx=>by cases hx⟩
  ·exact(hi.st.obj id o ho).AU e (hi.st.lt id o ho) fun _ _ _=>rfl
 ·rcases look' id o ho with ⟨rfl,rfl⟩|⟨_,ho⟩
  ·exact Nat.lt_succ_self _
  ·exact Nat.lt_succ_of_lt (hi.st.lt _ _ ho)
 ·obtain⟨h1,h2,h3⟩:=src id o ho b hb
  exact hi.st.free _ _ h1 (fun h=>hn (h3.2 h)) b h2
 ·obtain⟨h1,h2,h3⟩:=src id o ho b hb
  obtain⟨h1',h2',h3'⟩:=src id' o' ho' b hb'
  exact hi.st.inj _ _ _ _ h1 h1' hne (fun h=>hn (h3.2 h)) (fun h=>hn' (h3'.2 h)) b h2 h2'
 ·obtain⟨h1,h2,h3⟩:=src id o ho b hb
  exact hi.live _ _ h1 (fun h=>hn (h3.2 h)) b h2
def C.HW:C→Bool
 | .d (.v _)|.d (.l [])|.arr ..|.ptr ..|.mp _|.fn _ []=>true
 | _=>false
def O.HW:O→Prop
 | .cells _ _ rows=>∀r∈rows,∀c∈r,C.HW c=true
 | _=>True
def E.HW:E→Prop
 | .o c=>C.HW c=true
 | .a cs=>∀c∈cs,C.HW c=true
 | .t xs=>∀x∈xs,∀c∈x.2,C.HW c=true
 | .e=>True
def dS(σ:Ab):Prop:=∀x∈σ,O.HW x.2
theorem dS.get{σ:Ab}(h:dS σ){id:Nat}{o:O}(ho:look σ id=some o):O.HW o:=by
 induction σ with
 | nil=>cases ho
 | cons x r ih=>
  obtain⟨k,y⟩:=x
  rw [Au] at ho
  by_cases hk:k=id
  ·rw [if_pos hk] at ho;injection ho with ho;subst ho;exact h _ (List.mem_cons_self ..)
  ·rw [if_neg hk] at ho;exact ih (fun z hz=>h z (List.mem_cons_of_mem _ hz)) ho
structure Pt (V V':View):Prop where
 ρ:V'.ρ=V.ρ
 cap:V'.cap=V.cap
 nl:V'.nl=V.nl
 nx:V'.nx=V.nx
 w:V'.w=V.w
theorem Ax.HW{V V':View}(s:Pt V V'){c:C}{v:Value}(h:Ax V c v)(hc:c.HW=true):Ax V' c v:=by
 cases h with
 | @d x v h=>
  cases h with
  | v h=>exact .d (.v h)
  | nil=>exact .d .nil
  | e h=>exact .d (.e h)
  | @l rows b o k cap vs hb h1 h2 h3 h4 h5=>
   cases rows with
   | nil=>exact .d (.e h2)
   | cons=>cases hc
  | p=>cases hc
 | nil h1 h2=>exact .nil (by rw [s.nx];exact h1) (by rw [s.nl];exact h2)
 | @arr id k off len h1 h2 h3=>rw [←s.ρ,←s.cap];exact .arr (by rw [s.nx];exact h1) (by rw [s.nl];exact h2) (by rw [s.cap];exact h3)
 | ptr h1 h2=>rw [←s.ρ];exact .ptr (by rw [s.nx];exact h1) (by rw [s.nl];exact h2)
 | @fn f cap vs h1 h2=>
  cases cap with
  | nil=>exact .fn h1 fun j c v hj=>by simp at hj
  | cons=>cases hc
 | mp h1=>rw [←s.ρ];exact .mp (by rw [s.nx];exact h1)
 | mv=>cases hc
theorem A2.HW{V V':View}(s:Pt V V'){e:E}{v:Value}(h:A2 V e v)(hc:e.HW):A2 V' e v:=by
 cases e with
 | o c=>exact Ax.HW s h hc
 | a cs=>obtain⟨vs,h1,h2,h3⟩:=h;exact⟨vs,h1,h2,fun j c v hj hv=>(h3 j c v hj hv).HW s (hc c (List.mem_of_getElem? hj))⟩
 | t xs=>
  obtain⟨vs,h1,h2,h3⟩:=h
  refine⟨vs,h1,h2,fun j x v hj hv=>?_⟩
  have h4:=h3 j x v hj hv
  have h5:=hc x (List.mem_of_getElem? hj)
  obtain⟨b,cs⟩:=x
  cases b
  ·obtain⟨c,h6,h7⟩:=h4
   have h6:cs=[c]:=h6
   subst h6
   exact⟨c,rfl,h7.HW s (h5 c (by simp))⟩
  ·obtain⟨ws,h6,h7,h8⟩:=h4
   exact⟨ws,h6,h7,fun j c v hj hv=>(h8 j c v hj hv).HW s (h5 c (List.mem_of_getElem? hj))⟩
 | e=>exact h
theorem BN.HW{V V':View}(s:Pt V V'){id:Nat}{o:O}(h:BN V id o)(hc:o.HW):BN V' id o:=by
 cases o with
 | cells T k rows=>
  rcases h with ⟨h1,h2⟩|⟨h0,cur,h2,h3,h4,h5,h6,h7⟩
  ·exact .inl ⟨by rw [s.nl];exact h1,h2⟩
  ·refine .inr ⟨by rw [s.nl];exact h0,cur,by rw [s.w,s.ρ];exact h2,by rw [s.cap];exact h3,by rw [s.cap];exact h4,by rw [s.cap];exact h5,h6,fun i r j c hi hj=>?_⟩
   obtain⟨v,h8,h9⟩:=h7 i r j c hi hj
   exact⟨v,h8,h9.HW s (hc r (List.mem_of_getElem? hi) c (List.mem_of_getElem? hj))⟩
 | mp es=>obtain⟨h0,ents,clock,h1,h2⟩:=h;exact⟨by rw [s.nl];exact h0,ents,clock,by rw [s.w,s.ρ];exact h1,h2⟩
 | sld T l=>exact⟨by rw [s.nl];exact h.1,by rw [s.w];exact h.2⟩
section
variable {o:Oper}{f:Env}{nx:Nat}
theorem Pv{V:View}{S:Pu}(h:Inv TB Γ V σ)(hS:KQ TB V σ S):Inv TB (DJ (Ex V σ) (Ex V σ) [] S) (Ex V σ) []:=
 ⟨rfl,rfl,rfl,fun _ _ _=>rfl,fun b hb=>by
  rcases hb with hb|⟨id,o,hl,hn,hb⟩
  ·exact h.iLt b hb
  ·exact(h.st.obj id o hl).blt hn hb,fun _ h=>.inl h,Ext.refl _,Dh,fun id o ho=>(by cases ho),fun x hx=>⟨.inl (h.tabs x hx).1,(h.tabs x hx).2⟩,⟨S,⟨hS.r,fun b hb=>.inl (hS.ji b hb),fun b hb hi=>hi.elim (hS.bi b hb) fun ⟨id,o,hl,hn,hx⟩=>hS.ap b ⟨id,o,hl,hn,hx⟩ hb,fun b ⟨_,_,h,_⟩=>by cases h⟩,fun b hb=>.inl hb,fun b hb=>.inr (.inr hb)⟩⟩
theorem NU{V V':View}{σ':Ab}{S:Pu}(h2:Inv TB Γ V σ)(hS:KQ TB V σ S)(hSJ:∀b,S.J b→Γ.J b∨Γ.V.w.heap.size≤b∨Γ.F b)(hSB:∀b,S.B b→Γ.V.w.heap.size≤b∨Γ.F b)(he:Ext (Ex V σ) V')(hi:Inv TB (DJ (Ex V σ) (Ex V σ) [] S) V' σ')(ho':dS σ') :
 ∃V3,Pt V' V3∧Ext V V3∧Inv TB Γ V3 (σ'++σ):=by
 have s:Pt V' { V' with I:=fun b=>V.I b∨(V'.I b∧(V.w.heap.size≤b∨S.B b)) } := ⟨rfl,rfl,rfl,rfl,rfl⟩
 have e:Ext V { V' with I:=fun b=>V.I b∨(V'.I b∧(V.w.heap.size≤b∨S.B b)) } := ⟨fun _ h=>.inl h,fun b hb=>he.heap b (.inl hb),he.size,he.ρ,he.cap,he.nl,he.nx⟩
 have bs:∀ {id:Nat} {o:O} {b:Nat},Dv { V' with I:=fun b=>V.I b∨(V'.I b∧(V.w.heap.size≤b∨S.B b)) } id o b↔Dv V' id o b:=fun {id o b} => by cases o<;>exact Iff.rfl
 have hnew:∀id o,look σ' id=some o→¬V'.nl id→∀b,Dv V' id o b→V.w.heap.size≤b∨S.B b:=fun id o ho hn b hb=>by
  rcases hi.live id o ho hn b hb with h|h|h
  ·exact .inl h
  ·obtain⟨_,_,h,_⟩:=h;cases h
  ·exact .inr h
 have hap:∀id o,look σ id=some o→¬V.nl id→∀b,Dv V id o b→(V.w.heap.size≤b∨S.B b)→False:=fun id o ho hn b hb h=>by
  rcases h with h|h
  ·have:=(h2.st.obj _ _ ho).blt hn hb;omega
  ·exact hS.ap b ⟨id,o,ho,hn,hb⟩ h
 refine⟨_,s,e,⟨hi.os.trans h2.os,hi.tape.trans h2.tape,hi.output.trans h2.output,fun b hb hf=>(hi.old b (Nat.lt_of_lt_of_le hb h2.ext.size) (fun h=>h.elim (fun ⟨_,_,h,_⟩=>by cases h) fun h=>(hSB b h).elim (fun h=>by omega) hf)).trans (h2.old b hb hf),fun b hb=>?_,fun b hb=>?_,h2.ext.trans e,⟨fun id o ho=>?_,fun id o ho=>?_,fun id o ho hn b hb hI=>?_,fun id id' o o' ho1 ho2 hne hn hn' b hb hb'=>?_⟩,fun id o ho hn b hb=>?_,fun x hx=>⟨.inl (h2.tabs x hx).1,(hi.tabs x hx).2⟩,?_⟩⟩
 ·rcases hb with hb|hb
  ·exact hi.iLt b (he.i b (.inl hb))
  ·exact hi.iLt b hb.1
 ·rcases hb with hb|hb
  ·exact h2.iNew b hb
  ·rcases hb.2 with h|h
   ·exact .inr (.inl (Nat.le_trans h2.ext.size h))
   ·exact .inr (hSB b h)
 ·rcases BI ho with ho|ho
  ·exact(hi.st.obj id o ho).HW s (ho'.get ho)
  ·exact(h2.st.obj id o ho).AU e (h2.st.lt id o ho) fun hn b hb=>he.heap b (.inr ⟨id,o,ho,hn,hb⟩)
 ·rcases BI ho with ho|ho
  ·exact hi.st.lt id o ho
  ·exact Nat.lt_of_lt_of_le (h2.st.lt id o ho) he.nx
 ·rcases BI ho with ho|ho
  ·have h3:=hi.st.free id o ho hn b (bs.1 hb)
   rcases hI with hI|hI
   ·exact h3 (he.i b (.inl hI))
   ·exact h3 hI.1
  ·have hlt:=h2.st.lt id o ho
   have hb:=(Aw e hlt).1 hb
   have hn:¬V.nl id:=fun h=>hn ((e.nl id hlt).2 h)
   rcases hI with hI|hI
   ·exact h2.st.free id o ho hn b hb hI
   ·exact hap id o ho hn b hb hI.2
 ·rcases BI ho1 with ho1|ho1<;>rcases BI ho2 with ho2|ho2
  ·exact hi.st.inj _ _ _ _ ho1 ho2 hne hn hn' b (bs.1 hb) (bs.1 hb')
  ·have h3:=hnew id o ho1 hn b (bs.1 hb)
   have hlt:=h2.st.lt _ _ ho2
   exact hap _ _ ho2 (fun h=>hn' ((e.nl _ hlt).2 h)) b ((Aw e hlt).1 hb') h3
  ·have h3:=hnew id' o' ho2 hn' b (bs.1 hb')
   have hlt:=h2.st.lt _ _ ho1
   exact hap _ _ ho1 (fun h=>hn ((e.nl _ hlt).2 h)) b ((Aw e hlt).1 hb) h3
  ·have hlt:=h2.st.lt _ _ ho1
   have hlt':=h2.st.lt _ _ ho2
   exact h2.st.inj _ _ _ _ ho1 ho2 hne (fun h=>hn ((e.nl _ hlt).2 h)) (fun h=>hn' ((e.nl _ hlt').2 h)) b ((Aw e hlt).1 hb) ((Aw e hlt').1 hb')
 ·rcases BI ho with ho|ho
  ·rcases hnew id o ho hn b (bs.1 hb) with h|h
   ·exact .inl (Nat.le_trans h2.ext.size h)
   ·exact hSB b h
  ·have hlt:=h2.st.lt _ _ ho
   exact h2.live id o ho (fun h=>hn ((e.nl _ hlt).2 h)) b ((Aw e hlt).1 hb)
 ·obtain⟨S1,k1,k2,k3⟩:=hi.hid
  have hB:∀b,S1.B b→V.w.heap.size≤b∨S.B b:=fun b hb=>by
   rcases k3 b hb with h|h|h
   ·exact .inl h
   ·obtain⟨_,_,h,_⟩:=h;cases h
   ·exact .inr h
  refine⟨S1,⟨k1.r,fun b hb=>?_,fun b hb hI=>k1.bi b hb (hI.elim (fun h=>he.i b (.inl h)) fun h=>h.1),fun b ⟨id,o,ho,hn,hb⟩ hB1=>?_⟩,fun b hb=>?_,fun b hb=>?_⟩
  ·rcases k2 b hb with h|h|h|h
   ·exact .inl (hS.ji b h)
   ·exact .inr ⟨k1.ji b hb,.inl h⟩
   ·obtain⟨_,_,h,_⟩:=h;cases h
   ·exact .inr ⟨k1.ji b hb,.inr h⟩
  ·rcases BI ho with ho|ho
   ·exact k1.ap b ⟨id,o,ho,hn,bs.1 hb⟩ hB1
   ·have hlt:=h2.st.lt _ _ ho
    exact hap _ _ ho (fun h=>hn ((e.nl _ hlt).2 h)) b ((Aw e hlt).1 hb) (hB b hB1)
  ·rcases k2 b hb with h|h|h|h
   ·exact hSJ b h
   ·exact .inr (.inl (Nat.le_trans h2.ext.size h))
   ·obtain⟨_,_,h,_⟩:=h;cases h
   ·exact .inr (hSB b h)
  ·rcases hB b hb with h|h
   ·exact .inl (Nat.le_trans h2.ext.size h)
   ·exact hSB b h
theorem Tj{V:View}{a:Act}{L:List (Nat×E)}(h2:Inv TB Γ V σ)(hE:Pp σ f L)(h1:GU V o f a):GU (Ex V σ) o (look L) a:=fun t e ht he=>by
 obtain⟨y,h3,h4⟩:=hE.get t e he
 exact h4.rel h2 (h1 t y ht h3)
theorem BX.eY{K:E→Ab→Nat→Prop}(L:List (Nat×E))(hE:Pp σ f L)(h:∀Γ',BX P TB Γ' o (look L) [] nx (fun x σ1 nx1=>(E.HW x∧dS σ1)∧K x (σ1++σ) nx1)):BX P TB Γ o f σ nx K:=by
 intro V a h1 h2 h3
 obtain⟨S,hS,hSJ,hSB⟩:=h2.hid
 refine Oper.wp_mono ?_ (h (DJ (Ex V σ) (Ex V σ) [] S) (Ex V σ) a (Tj h2 hE h1) (Pv h2 hS) h3)
 rintro a' w' ⟨V',v,x,σ',rfl,rfl,he,hi,hx,⟨hxo,hso⟩,hk⟩
 obtain⟨V3,s,e,hi3⟩:=NU h2 hS hSJ hSB he hi hso
 exact⟨V3,v,x,_,s.w,rfl,e,hi3,hx.HW s hxo,by rw [s.nx];exact hk⟩
theorem AV.eY{x:E}(L:List (Nat×E))(hE:Pp σ f L)(h:∀Γ',AV P TB Γ' o (look L) [] nx x)(hxo:x.HW):AV P TB Γ o f σ nx x:=by
 intro V a h1 h2 h3
 obtain⟨S,hS,hSJ,hSB⟩:=h2.hid
 refine Oper.wp_mono ?_ (h (DJ (Ex V σ) (Ex V σ) [] S) (Ex V σ) a (Tj h2 hE h1) (Pv h2 hS) h3)
 rintro a' w' ⟨V',v,rfl,rfl,he,hi,hn,hx⟩
 obtain⟨V3,s,e,hi3⟩:=NU h2 hS hSJ hSB he hi (fun x hx=>by cases hx)
 exact⟨V3,v,s.w,rfl,e,hi3,by rw [s.nx];exact hn,hx.HW s hxo⟩
end
def Jr(σ:Ab):List Nat→Ab
 | []=>[]
 | i::r=>match look σ i with
  | some o=>(i,o)::Jr σ r
  | none=>Jr σ r
theorem Gt{σ:Ab}:∀ {ids:List Nat} {id:Nat} {o:O},look (Jr σ ids) id=some o→id∈ids∧look σ id=some o
 | [],_,_,h=>by cases h
 | i :: r,id,o,h=>by
  unfold Jr at h
  split at h
  ·rename_i o' ho
   rw [Au] at h
   by_cases hi:i=id
   ·rw [if_pos hi] at h;injection h with h;subst h;subst hi;exact⟨List.mem_cons_self ..,ho⟩
   ·rw [if_neg hi] at h
    have:=Gt h
    exact⟨List.mem_cons_of_mem _ this.1,this.2⟩
  ·have:=Gt h
   exact⟨List.mem_cons_of_mem _ this.1,this.2⟩
def Vr(σi:Ab)(f:Env):List (Nat×E)→Prop
 | []=>True
 | (t,e')::L=>(∃e,f t=some e∧(e=e'∨EZ σi e e'))∧Vr σi f L
theorem Vr.get{σi:Ab}{f:Env}:∀ {L:List (Nat×E)},Vr σi f L→∀t e',look L t=some e'→∃e,f t=some e∧(e=e'∨EZ σi e e')
 | [],_,t,e,h=>by cases h
 | (k,x)::L,hs,t,e,h=>by
  rw [Au] at h
  by_cases hk:k=t
  ·rw [if_pos hk] at h;injection h with h;subst h;subst hk;exact hs.1
  ·rw [if_neg hk] at h;exact Vr.get hs.2 t e h
theorem Av.dW{c:Code}{Q:Exit→Env→Ab→Nat→Prop}{f:Env}{nx:Nat}(ids:List Nat)(L:List (Nat×E))(hE:Vr (Jr σ ids) f L)(h:Av P TB Γ N c Q (look L) (BH ids σ) nx):Av P TB Γ N c Q f σ nx:=by
 intro V a hr
 have hi:=hr.inv
 have hsub:∀id o,look (Jr σ ids) id=some o→look σ id=some o:=fun id o h=>(Gt h).2
 have his:Inv TB Γ V (Jr σ ids):=hi.sub hsub
 have e:Ext V (Ex V (Jr σ ids)):=K8
 refine h (Ex V (Jr σ ids)) a ⟨fun t x hx=>?_,fun t x hx=>?_,hr.size,?_,hr.nx,hr.defers⟩
 ·obtain⟨y,h1,h2⟩:=hE.get t x hx
  rcases h2 with rfl|h2
  ·exact(hr.env t _ h1).ext e
  ·exact h2.rel his (hr.env t y h1)
 ·obtain⟨y,h1,_⟩:=hE.get t x hx
  exact hr.lt t y h1
 ·refine⟨hi.os,hi.tape,hi.output,hi.old,?_,?_,hi.ext.trans e,⟨?_,?_,?_,?_⟩,?_,fun x hx=>⟨.inl (hi.tabs x hx).1,(hi.tabs x hx).2⟩,hi.hid.same rfl (fun _ h=>.inl h) (fun b hb=>hb.elim .inl fun ⟨id,o,hl,hn,he⟩=>.inr ⟨id,o,hsub _ _ hl,hn,he⟩) fun b ⟨id,o,hl,hn,hb⟩=>have h2:=(A8 ids σ id o hl).2;⟨id,o,h2,hn,(Aw e (hi.st.lt id o h2)).1 hb⟩⟩
  ·rintro b (hb|⟨id,o,hl,hn,hb⟩)
   ·exact hi.iLt b hb
   ·exact(hi.st.obj id o (hsub _ _ hl)).blt hn hb
  ·rintro b (hb|⟨id,o,hl,hn,hb⟩)
   ·exact hi.iNew b hb
   ·exact .inr (hi.live id o (hsub _ _ hl) hn b hb)
  ·intro id o hl
   have:=(A8 ids σ id o hl).2
   exact(hi.st.obj id o this).AU e (hi.st.lt id o this) fun _ _ _=>rfl
  ·intro id o hl;exact hi.st.lt id o (A8 ids σ id o hl).2
  ·intro id o hl hn b hb' hb
   obtain⟨h1,h2⟩:=A8 ids σ id o hl
   have hb':=(Aw e (hi.st.lt id o h2)).1 hb'
   rcases hb with hb|⟨id',o',hl',hn',he⟩
   ·exact hi.st.free id o h2 hn b hb' hb
   ·have h3:=Gt hl'
    exact hi.st.inj id id' o o' h2 h3.2 (fun e=>h1 (e ▸ h3.1)) hn hn' b hb' he
  ·intro id id' o o' hl hl' hne hn hn' b hb hb'
   have h2:=(A8 ids σ id o hl).2
   have h2':=(A8 ids σ id' o' hl').2
   exact hi.st.inj id id' o o' h2 h2' hne hn hn' b ((Aw e (hi.st.lt id o h2)).1 hb) ((Aw e (hi.st.lt id' o' h2')).1 hb')
  ·intro id o hl hn b hb
   have h2:=(A8 ids σ id o hl).2
   exact hi.live id o h2 hn b ((Aw e (hi.st.lt id o h2)).1 hb)
theorem FZ.gx{a s:Nat}{T Ta:TypeId}{l:Pr}(ha:look σ a=some (.cells Ta 1 (CQ l)))(hs:look σ s=some (.sld T (sI l))):FZ σ (.arr a 1 0 l.length) (Dx (l.map (·.2))):=by
 refine .rows ha (by simp) (Mw l) fun i r' hi=>?_
 simp only [List.getElem?_map,Option.map_eq_some_iff] at hi
 obtain⟨x,⟨y,hy,rfl⟩,rfl⟩:=hi
 refine⟨[.d (.v y.1)],by simp [CQ,hy],.cons ?_ .nil⟩
 have h1:FZ σ (.d (.v y.1)) (.l ((y.2.map (Value.int .i64)).map fun x=>[D.v x])):=.sld hs (List.mem_map.2 ⟨y,List.mem_of_getElem? hy,rfl⟩)
 rw [List.map_map] at h1
 exact h1
theorem Av.ff{c:Code}{Q:Exit→Env→Ab→Nat→Prop}{f:Env}{nx:Nat}(a i s:Nat)(l:Pr)(xs:List Int)(ha:look σ a=some (.cells Ta 1 (CQ l++[[.arr i 1 0 xs.length]])))(hi:look σ i=some (.cells T 1 (Jq xs)))(hs:look σ s=some (.sld T (sI l)))
 (h:∀v,Av P TB Γ N c Q f ((a,.cells Ta 1 (CQ (l++[(v,xs)])))::(s,.sld T (sI (l++[(v,xs)])))::kill i σ) nx):Av P TB Γ N c Q f σ nx:=
 Av.put a i s (CQ l) [] xs l [] ha hi (by rw [List.append_nil];exact hs) fun v=>by
  have:=h v
  rw [Jv] at this
  exact this
theorem WL{l:Pr}{k:Nat}{y:Value×List Int}(h:l[k]? = some y):l=l.take k++y::l.drop (k+1)∧(l.take k).length=k:=by
 obtain⟨hk,rfl⟩:=List.getElem?_eq_some_iff.1 h
 refine⟨?_,by rw [List.length_take];omega⟩
 rw [←List.drop_eq_getElem_cons hk,List.take_append_drop]
theorem Sh{α:Type}{l1 l2:List α}{x y:α}{k:Nat}(h:l1.length=k):(l1++x::l2).set k y=l1++y::l2:=by
 subst h;simp
theorem Av.fv{c:Code}{Q:Exit→Env→Ab→Nat→Prop}{f:Env}{nx:Nat}(a s:Nat)(l:Pr)(k:Nat)(y:Value×List Int)(hk:l[k]? = some y)(ha:look σ a=some (.cells Ta 1 (CQ l)))(hs:look σ s=some (.sld T (sI l)))
 (h:Av P TB Γ N c Q f ((a,.cells Ta 1 ((CQ l).set k [.arr nx 1 0 y.2.length]))::(nx,.cells T 1 (Jq y.2))::(s,.sld T (sI (l.eraseIdx k)))::σ) (nx+1)):Av P TB Γ N c Q f σ nx:=by
 obtain⟨h1,h2⟩:=WL hk
 obtain⟨v,xs⟩:=y
 have e1:CQ l=CQ (l.take k)++[.d (.v v)]::CQ (l.drop (k+1)):=by
  have:=congrArg CQ h1
  rw [Jv] at this;exact this
 refine Av.take a s (CQ (l.take k)) (CQ (l.drop (k+1))) v xs (l.take k) (l.drop (k+1)) (by rw [←e1];exact ha) (by rw [←h1];exact hs) ?_
 have e2:(CQ l).set k [.arr nx 1 0 xs.length]=CQ (l.take k)++[.arr nx 1 0 xs.length]::CQ (l.drop (k+1)):=by
  rw [e1,Sh (by rw [Mw,h2])]
 have e3:l.eraseIdx k=l.take k++l.drop (k+1):=List.eraseIdx_eq_take_drop_succ ..
 rw [e2,e3] at h
 exact h
theorem Av.putAt{c:Code}{Q:Exit→Env→Ab→Nat→Prop}{f:Env}{nx:Nat}(a i s:Nat)(l:Pr)(k:Nat)(y:Value×List Int)(hk:l[k]? = some y)(xs:List Int)(ha:look σ a=some (.cells Ta 1 ((CQ l).set k [.arr i 1 0 xs.length])))(hi:look σ i=some (.cells T 1 (Jq xs)))(hs:look σ s=some (.sld T (sI (l.eraseIdx k))))
 (h:∀v,Av P TB Γ N c Q f ((a,.cells Ta 1 (CQ (l.set k (v,xs))))::(s,.sld T (sI (l.set k (v,xs))))::kill i σ) nx):Av P TB Γ N c Q f σ nx:=by
 obtain⟨h1,h2⟩:=WL hk
 have e1:CQ l=CQ (l.take k)++[.d (.v y.1)]::CQ (l.drop (k+1)):=by
  have:=congrArg CQ h1
  rw [Jv] at this;exact this
 rw [e1,Sh (by rw [Mw,h2])] at ha
 rw [show l.eraseIdx k=l.take k++l.drop (k+1) from List.eraseIdx_eq_take_drop_succ ..] at hs
 refine Av.put a i s (CQ (l.take k)) (CQ (l.drop (k+1))) xs (l.take k) (l.drop (k+1)) ha hi hs fun v=>?_
 have h3:l.set k (v,xs)=l.take k++(v,xs)::l.drop (k+1):=by
  have this:l.set k (v,xs)=(l.take k++y::l.drop (k+1)).set k (v,xs):=congrArg (fun m=>List.set m k (v,xs)) h1
  rw [this,Sh h2]
 have:=h v
 rw [h3,Jv] at this
 exact this
theorem A3.AW{g:FuncId}{m nx:Nat}{args:List E}{post:E→Ab→Nat→Prop}
 (h:A3 P TB g m σ nx args (fun x σ1 nx1=>∃(l:List Nat) (x':E) (σ2:Ab),((∀i,i < m→l[i]? = some i)∧l.Nodup)∧x=x'.AW (nm l nx1)∧AQ (nm l nx1) σ1 σ2∧post x' σ2 l.length)):A3 P TB g m σ nx args post:=
 ⟨h.1, fun V vs S hg ha=>(h.2 V vs S hg ha).mono fun e w' ⟨V',v,x,σ',h1,h2,h3,h4,l,x',σ2,h5,h6,h7,h8⟩=>by
  have hr:BA TB (DJ V (Kf V m) σ S) 1 V' (look [(0,x)]) σ' V'.nx { tmps:=#[v],defers:=[] } := by
   refine⟨fun t y hy=>?_,fun t y hy=>?_,rfl,h3,rfl,rfl⟩
   ·rw [Au] at hy
    by_cases ht:0=t
    ·rw [if_pos ht] at hy;injection hy with hy;subst hy;subst ht;exact h4
    ·rw [if_neg ht] at hy;cases hy
   ·rw [Au] at hy
    by_cases ht:0=t
    ·subst ht;exact Nat.zero_lt_one
    ·rw [if_neg ht] at hy;cases hy
  obtain⟨V'',e1,e2⟩:=hr.AW l [(0,x')] σ2 h5.1 h5.2 ⟨by rw [←h6];rfl,trivial⟩ h7
  refine⟨V'',v,x',σ2,h1,e1.trans h2,e2.inv,e2.env 0 x' rfl,?_⟩
  rw [e2.nx];exact h8⟩
theorem fT{m:Nat}{σ σ':Ab}(i:Nat)(hm:m=2 ^ i)(h:look σ' i=look σ i):Kept m σ σ':=fun id hb=>by
 subst hm
 rw [Nat.testBit_two_pow] at hb
 have:i=id:=of_decide_eq_true hb
 subst this;exact h
theorem eR [hT:Ci P] {g:FuncId} {fn:Func} {c:Code} {nx:Nat} {args:List E} {post:E→Ab→Nat→Prop} (hf:P.funcs[g]? = some fn) (hb:fn.body=some c) (hname:(fn.name == "runtime.NumGoroutine")=false)
 (ha:Nat.ble args.length fn.ntmps=true) (h:∀Γ:Ctx,Γ.V.nx=nx→Av P TB Γ fn.ntmps c (Vv hT.T fn.results (fun x σ1 nx1=>∃(l:List Nat) (x':E) (σ2:Ab),((∀i,i < nx→l[i]? = some i)∧l.Nodup)∧x=x'.AW (nm l nx1)∧AQ (nm l nx1) σ1 σ2∧post x' σ2 l.length)) (look (Bw 0 args)) σ nx):Spec P TB g σ nx args post:=
 A3.Fv (A3.AW (A3.YL (Nat.le_refl _) hf hb hname (Nat.le_of_ble_eq_true ha) h))
end
theorem cN:(∀(r:Nat→Nat) (l:Pr),(CQ l).map (C.Bp r)=CQ l)∧(∀(α:Type) (b:Bool) (x y:α),(bif b then x else y)=if b=true then x else y)∧∀a b:Nat,(Nat.beq a b=true)=(a=b):=
 ⟨Xj,fun _ b _ _=>by cases b<;>rfl,fun _ _=>Nat.beq_eq⟩
end Go.Am
namespace Go.Am
open Go
set_option linter.unusedVariables false
variable {TB:Be}
section
variable {P:Program}{Γ:Ctx}{d:Option Tmp}{ty:TypeId}{pos:String}{af:Array Edge}{g:Option (Nat×Bool)}{f:Env}{σ:Ab}{nx:Nat}
end
theorem fe{P:Program}{Γ:Ctx}{ops:Array Oper}{fl:Fl}{i n:Nat}{L:List (Nat×E)}{σ:Ab}{nx:Nat}{K:Env→Ab→Nat→Prop}{op:Op}{ty:TypeId}{pos:String}{af:Array Edge}{g:Option (Nat×Bool)}
 (h:BX P TB Γ ⟨none,op,ty,pos,af,g⟩ (look L) σ nx (fun _ σ' nx'=>Kept (fl i - 1000) σ σ'∧Lex P TB Γ ops (Af fl (i+1) n) K (look L) σ' nx')) (hg:Bc ops ⟨none,op,ty,pos,af,g⟩ (look L)=some true) (hf:Nat.ble 10 (fl i)=true∧Nat.ble 1000 (fl i)=true):Bf P TB Γ ops ⟨none,op,ty,pos,af,g⟩ fl i n K L σ nx:=
 fun ho=>YQ ho hg hf h
end Go.Am
namespace Go.Am
open Go
def JQ(q:IntKind)(l:List Int):Value:=.agg (l.map (Value.int q)).toArray
abbrev fS(q:IntKind)(l:List Int):List C:=l.map fun x=>.d (.v (.int q x))
abbrev Yx(q:IntKind)(l:List Int):E:=.a (fS q l)
theorem Tg{q:IntKind}{a b:List Int}:JQ q a=JQ q b↔a=b:=by
 unfold JQ
 constructor
 ·intro h
  injection h with h
  have h:=congrArg Array.toList h
  simp only at h
  exact(List.map_inj_right (fun x y h=>by injection h)).1 h
 ·rintro rfl;rfl
theorem Je{V:View}{q:IntKind}{l:List Int}{v:Value}(h:A2 V (Yx q l) v):v=JQ q l:=by
 obtain⟨vs,rfl,h2,h3⟩:=h
 unfold JQ
 congr 1
 apply Array.ext
 ·simpa using h2
 ·intro i h4 h5
  have h6:i < l.length:=by simpa using h5
  have:=Ax.val (h3 i (.d (.v (.int q l[i]))) vs[i] (by simp [List.getElem?_eq_getElem h6]) (Array.getElem?_eq_getElem h4))
  rw [this];simp
class EI (P:Program) (t:TypeId) (n:outParam Nat) (q:outParam IntKind):Prop where
 u:∃e,WideMaps.ArrKey P t e n∧P.underlying e=some (.int q)
 eg:P.eqGuardType P.depth t=false
 sz:P.types.size≠0
section
variable {P:Program}{t:TypeId}{n:Nat}{q:IntKind}
theorem mapM_some{α β:Type}{f:α→Option β}:∀ {l:List α},(∀x∈l,∃y,f x=some y)→∃ys,l.mapM f=some ys
 | [],_=>⟨[],rfl⟩
 | x::l,h=>by
  obtain⟨y,hy⟩:=h x (by simp)
  obtain⟨ys,hys⟩:=mapM_some (l:=l) (fun z hz=>h z (by simp [hz]))
  exact⟨y::ys,by rw [List.mapM_cons,hy,hys];rfl⟩
theorem EI.key(h:EI P t n q){l:List Int}(hl:l.length=n)(hw:∀x∈l,(Lit.int q x).wf=true):∃lx,keyOf P t (JQ q l)=some lx:=by
 obtain⟨e,hA,he⟩:=h.u
 obtain⟨m,hm⟩:=Nat.exists_eq_succ_of_ne_zero h.sz
 have hm:P.types.size=m+1:=hm
 have h1:∀i∈List.range n,∃y,P.keyLits (m+1) e ((((l.map (Value.int q)).toArray.toList).drop (i*P.cellsOf e)).take (P.cellsOf e))=some y:=fun i hi=>by
  have hi:i < n:=List.mem_range.1 hi
  rw [hA.one,Nat.mul_one]
  obtain⟨x,hx⟩:∃x,l[i]? = some x:=⟨l[i],List.getElem?_eq_getElem (by omega)⟩
  have h2:(((l.map (Value.int q)).toArray.toList).drop i).take 1=[Value.int q x]:=by
   have h3:(l.map (Value.int q))[i]? = some (Value.int q x):=by simp [hx]
   obtain⟨h4,h5⟩:=List.getElem?_eq_some_iff.1 h3
   simp only
   rw [List.drop_eq_getElem_cons h4,h5]
   rfl
  rw [h2]
  refine⟨[.int q x],?_⟩
  unfold Program.keyLits
  simp [he,hw x (List.mem_of_getElem? hx)]
 obtain⟨ys,hys⟩:=mapM_some h1
 have h6:P.keyLits (P.types.size+1) t (JQ q l).cells.toList=some ys.flatten:=by
  rw [hm]
  show P.keyLits (m+1+1) t (l.map (Value.int q)).toArray.toList=_
  unfold Program.keyLits
  simp only [hA.hu]
  rw [if_pos (by rw [hA.size];simp [hl])]
  rw [hys];rfl
 have hf:(JQ q l).formed P t=true:=by simp [JQ,Value.formed,hA.hu,hA.size,hl]
 unfold keyOf
 rw [hA.hu]
 simp only
 rw [if_pos (by rw [hA.keyType ⟨m,hm⟩,hf];rfl),h6]
 exact⟨_,rfl⟩
theorem EI.law(h:EI P t n q):WideMaps.KeyLaw P t:=by
 obtain⟨e,hA,he⟩:=h.u
 exact hA.law
theorem EI.run_eq(h:EI P t n q){a b:List Int}(ha:a.length=n)(hb:b.length=n)(hwa:∀x∈a,(Lit.int q x).wf=true)(hwb:∀x∈b,(Lit.int q x).wf=true)(w:World):(Op.equal t (JQ q a) (JQ q b)).run P w=.ok (decide (a=b)) w:=by
 obtain⟨lx,hx⟩:=h.key ha hwa
 obtain⟨ly,hy⟩:=h.key hb hwb
 obtain⟨e,hA,he⟩:=h.u
 obtain⟨r,h1,h2⟩:=run_equal_deep w (m:=2) (by omega) (hA.at 0) hA.wide hx hy
 rw [h1]
 congr 1
 rw [Bool.eq_iff_iff,h2,decide_eq_true_eq]
 refine⟨fun h3=>Tg.1 (h.law.inj hx (by rw [h3];exact hy)),fun h3=>?_⟩
 subst h3
 rw [hx] at hy
 injection hy
end
section
variable {P:Program}{TB:Be}{Γ:Ctx}{d:Option Tmp}{ty:TypeId}{pos:String}{af:Array Edge}{g:Option (Nat×Bool)}{f:Env}{σ:Ab}{nx:Nat}
variable {K:E→Ab→Nat→Prop}{t:TypeId}{n:Nat}{q:IntKind}
theorem Jt{x y:Operand}{l:List Int}{k:IntKind}{i:Int}{v:Int}[h:EI P t n q](hx:ev f x=some (Yx q l))(hy:ev f y=some (eI k i))(hn:l.length=n)(h0:0≤i)(hv:l[i.toNat]? = some v) :
 AV P TB Γ ⟨d,.index t x y,ty,pos,af,g⟩ f σ nx (eI q v):=
 AA fun V ρ h1 _=>by
  have h2:=Je (h1.get (by simp [Op.operands]) hx)
  have h3:ρ y=.int k i:=Ax.val (h1.get (by simp [Op.operands]) hy)
  obtain⟨e,hA,he⟩:=h.u
  obtain⟨inf,hi⟩:=info_of_underlying he
  have h4:inf.size=1:=by have:=hA.one;simpa [Program.cellsOf,hi] using this
  have hlt:=(List.getElem?_eq_some_iff.1 hv).1
  have h5:i < (n:Int):=by omega
  refine⟨.int q v,?_,.d (.v rfl)⟩
  have h6:(l.map (Value.int q)).toArray[i.toNat]? = some (.int q v):=by simp [hv]
  have h7:(isAgg e).run P V.w=.ok false V.w:=by simp [isAgg,run_underlying he,go_sem]
  simp [execOp,h2,h3,JQ,Instr.index,asIntOf,run_underlying hA.hu,h0,h5,part,h7,sizeOf,typeInfo,hi,h4,hv,go_sem]
theorem dc{yt:TypeId}{x y:Operand}{a b:List Int}[h:EI P t n q](hx:ev f x=some (Yx q a))(hy:ev f y=some (Yx q b))(ha:a.length=n)(hb:b.length=n)(hwa:∀x∈a,(Lit.int q x).wf=true)(hwb:∀x∈b,(Lit.int q x).wf=true) :
 AV P TB Γ ⟨d,.binOp .eql t x y yt,ty,pos,af,g⟩ f σ nx (eB (decide (a=b))):=
 AA fun V ρ h1 _=>by
  have h2:=Je (h1.get (x:=x) (by simp [Op.operands]) hx)
  have h3:=Je (h1.get (x:=y) (by simp [Op.operands]) hy)
  refine⟨.bool (decide (a=b)),?_,.d (.v rfl)⟩
  have h6:binOp .eql t (JQ q a) (JQ q b)=(do pure (.bool (←Op.equal t (JQ q a) (JQ q b)))):=rfl
  have h7:(eqGuard .eql t x y (JQ q a) (JQ q b)).run P V.w=.ok () V.w:=by
   unfold eqGuard JQ
   simp [h.eg,go_sem]
  simp [execOp,h2,h3,h6,h7,h.run_eq ha hb hwa hwb V.w,go_sem]
def mapA(q:IntKind)(l:List (List Int×Int)):List (Value×Value):=l.map fun p=>(JQ q p.1,.int .i64 p.2)
def CS:List (List Int×Int)→List Int→Option Int
 | [],_=>none
 | p::l,s=>if p.1=s then some p.2 else CS l s
theorem Gm:∀ {l:List (List Int×Int)} {s:List Int},CS l s=none↔∀p∈l,p.1≠s
 | [],s=>by simp [CS]
 | p::l,s=>by
  unfold CS
  split
  ·rename_i h;simp [h]
  ·rename_i h;rw [Gm (l:=l)];simp [h]
theorem J5:∀ {l:List (List Int×Int)} {p:List Int×Int},l.Pairwise (fun a b=>a.1≠b.1)→p∈l→CS l p.1=some p.2
 | [],p,_,h=>by cases h
 | x :: l,p,hd,h=>by
  unfold CS
  rcases List.mem_cons.1 h with rfl|h
  ·rw [if_pos rfl]
  ·rw [if_neg ((List.pairwise_cons.1 hd).1 p h)]
   exact J5 (List.pairwise_cons.1 hd).2 h
def Nz(n:Nat)(q:IntKind)(l:List (List Int×Int)):Prop:=∀p∈l,p.1.length=n∧∀x∈p.1,(Lit.int q x).wf=true
theorem NO[h:EI P t n q]{l:List (List Int×Int)}{es:List MapEntry}{s:List Int}(hl:Nz n q l)(hes:es.map (fun e=>(e.key,e.val))=mapA q l)(hs:s.length=n)(hw:∀x∈s,(Lit.int q x).wf=true)(hd:l.Pairwise (fun a b=>a.1≠b.1))(w:World) :
 ∃r,(Instr.findKey t (JQ q s) es).run P w=.ok r w∧r.map (·.2)=(CS l s).map (.int .i64):=by
 obtain⟨lx,hx⟩:=h.key hs hw
 have hmem:∀e∈es,∃p∈l,e.key=JQ q p.1∧e.val=.int .i64 p.2:=fun e he=>by
  have:(e.key,e.val)∈mapA q l:=by rw [←hes];exact List.mem_map.2 ⟨e,he,rfl⟩
  obtain⟨p,h1,h2⟩:=List.mem_map.1 this
  injection h2 with h2 h3
  exact⟨p,h1,h2.symm,h3.symm⟩
 rcases h.law.find w hx es (fun e he=>by
  obtain⟨p,h1,h2,_⟩:=hmem e he
  rw [h2];exact h.key (hl p h1).1 (hl p h1).2) with ⟨h1,h2⟩|⟨j,e,h1,h2,h3⟩
 ·refine⟨none,h1,?_⟩
  have:CS l s=none:=Gm.2 fun p hp he=>by
   have h4:(JQ q p.1,Value.int .i64 p.2)∈es.map (fun e=>(e.key,e.val)):=by rw [hes];exact List.mem_map.2 ⟨p,hp,rfl⟩
   obtain⟨e,h5,h6⟩:=List.mem_map.1 h4
   injection h6 with h6 h7
   exact h2 e h5 (by rw [h6,he])
  rw [this];rfl
 ·refine⟨_,h1,?_⟩
  obtain⟨p,h4,h5,h6⟩:=hmem e (List.mem_of_getElem? h2)
  have h7:p.1=s:=Tg.1 (by rw [←h5,h3])
  rw [←h7,J5 hd h4,h6];rfl
theorem LF[h:EI P t n q]{s:List Int}(hs:s.length=n)(hw:∀x∈s,(Lit.int q x).wf=true)(b:Bool)(w:World):(Instr.checkKey b 10000 t (JQ q s)).run P w=.ok () w:=by
 obtain⟨lx,hx⟩:=h.key hs hw
 exact h.law.check w b hx
theorem TG{m e:TypeId}{x y:Operand}{id:Nat}{l:List (List Int×Int)}{s:List Int}[hm:HS P m t e][h:EI P t n q][hz:Ny P e (.int .i64 0)](hx:ev f x=some (.o (.mp id)))(hy:ev f y=some (Yx q s))(ho:look σ id=some (.mp (mapA q l)))
 (hl:Nz n q l) (hd:l.Pairwise (fun a b=>a.1≠b.1)) (hs:s.length=n) (hw:∀x∈s,(Lit.int q x).wf=true) :
 AV P TB Γ ⟨d,.lookup m x y true,ty,pos,af,g⟩ f σ nx (.t [(false,[.d (.v (.int .i64 ((CS l s).getD 0)))]),(false,[.d (.v (.bool (CS l s).isSome))])]):=
 AA fun V ρ hr hi=>by
  have e1:=hr.get (by simp [Op.operands]) hx
  have e2:ρ y=JQ q s:=Je (hr.get (by simp [Op.operands]) hy)
  generalize hv:ρ x=v at e1
  cases e1 with
  | mp hid =>
   obtain⟨hn,ents,clock,h1,h2⟩:=hi.st.obj id _ ho
   obtain⟨r,hfk,h4⟩:=NO (P:=P) (t:=t) (es:=ents.toList) hl h2 hs hw hd V.w
   have hzz:=hz.out
   simp only [Option.bind_eq_some_iff] at hzz
   obtain⟨i,hi1,hz1⟩:=hzz
   have hzv:(zeroValue e).run P V.w=.ok (.int .i64 0) V.w:=by simp [zeroValue,typeInfo,hi1,hz1,go_sem]
   have hck:=LF (P:=P) (t:=t) hs hw ents.isEmpty V.w
   refine⟨.tuple #[.int .i64 ((CS l s).getD 0),.bool (CS l s).isSome],?_,⟨_,rfl,rfl,fun j x v hj hv=>?_⟩⟩
   ·cases r with
    | none=>
     have h5:CS l s=none:=by simpa using h4.symm
     simp [execOp,hv,e2,Instr.lookup,run_underlying hm.out,MapKept.run_getObj_map h1,hck,hfk,hzv,h5,go_sem]
    | some p=>
     obtain⟨n,h5,h6⟩:∃n,CS l s=some n∧p.2=.int .i64 n:=by
      cases hf:CS l s with
      | none=>rw [hf] at h4;simp at h4
      | some n=>rw [hf] at h4;exact⟨n,rfl,by simpa using h4⟩
     obtain⟨q1,q2⟩:=p
     simp only at h6
     subst h6
     simp [execOp,hv,e2,Instr.lookup,run_underlying hm.out,MapKept.run_getObj_map h1,hck,hfk,h5,go_sem]
   ·match j with
    | 0=>simp at hj hv;subst hj;subst hv;exact⟨_,rfl,.d (.v rfl)⟩
    | 1=>simp at hj hv;subst hj;subst hv;exact⟨_,rfl,.d (.v rfl)⟩
    | j+2=>simp at hj
theorem az{m e:TypeId}{x y z:Operand}{id:Nat}{l:List (List Int×Int)}{s:List Int}{v:Int}[hm:HS P m t e][h:EI P t n q](hx:ev f x=some (.o (.mp id)))(hy:ev f y=some (Yx q s))(hz:ev f z=some (eI .i64 v))(ho:look σ id=some (.mp (mapA q l)))
 (hl:Nz n q l) (hd:l.Pairwise (fun a b=>a.1≠b.1)) (hs:s.length=n) (hw:∀x∈s,(Lit.int q x).wf=true) (hn:CS l s=none) (hK:K (.t []) ((id,.mp (mapA q (l++[(s,v)])))::σ) nx):BX P TB Γ ⟨d,.mapUpdate m x y z,ty,pos,af,g⟩ f σ nx K:=by
 intro V a h1 h2 h3
 have h1:=h1.FG
 unfold Oper.wp
 generalize a.eval=ρ at h1 ⊢
 have e1:=h1.get (x:=x) (by simp [Op.operands]) hx
 have e2:ρ y=JQ q s:=Je (h1.get (by simp [Op.operands]) hy)
 have e3:ρ z=.int .i64 v:=Ax.val (h1.get (by simp [Op.operands]) hz)
 generalize hv:ρ x=vx at e1
 cases e1 with
 | mp hid=>
  obtain⟨hnl,ents,clock,h4,h5⟩:=h2.st.obj id _ ho
  obtain⟨r,hfk,h7⟩:=NO (P:=P) (t:=t) (es:=ents.toList) hl h5 hs hw hd V.w
  rw [hn] at h7
  have hr:r=none:=by cases r with
   | none=>rfl
   | some q=>simp at h7
  subst hr
  have hck:=LF (P:=P) (t:=t) hs hw false V.w
  let ob:Obj:=.map (ents.push { key:=JQ q s,val:=.int .i64 v,born:=clock }) (clock+1)
  let w':World:={ V.w with heap:=V.w.heap.setIfInBounds (V.ρ id) ob }
  have hset:=MapKept.run_setObj_map (P:=P) ob h4
  have hlt:=(Array.getElem?_eq_some_iff.1 h4).1
  obtain⟨hi,he⟩:=h2.write ho hnl (w:=w') (ob':=.mp (mapA q (l++[(s,v)]))) rfl rfl rfl rfl rfl (by simp [w']) (fun b hb=>by simp [w',Array.getElem?_setIfInBounds,Ne.symm hb]) (by
   refine⟨hnl,ents.push { key:=JQ q s,val:=.int .i64 v,born:=clock },clock+1,?_,?_⟩
   ·show w'.heap[V.ρ id]? = some ob
    simp [w',Array.getElem?_setIfInBounds,hlt]
   ·simp [mapA] at h5 ⊢
    exact h5)
  have hrun:(execOp ρ ⟨d,.mapUpdate m x y z,ty,pos,af,g⟩).run P V.w=.ok .skip w':=by
   simp [execOp,hv,e2,e3,Instr.mapUpdate,run_underlying hm.out,MapKept.run_getObj_map h4,hck,hfk,hset,ob,w',go_sem]
  rw [hrun]
  exact⟨{ V with w:=w' },.tuple #[],.t [],_,rfl,rfl,he,hi,⟨#[],rfl,rfl,fun j x v hj=>by simp at hj⟩,by rw [←h3] at hK;exact hK⟩
end
end Go.Am
namespace Go.Am
open Go Go.Proofs
set_option maxHeartbeats 1000000
set_option maxRecDepth 4000
attribute [local irreducible] AV BX Lex Bf Av Spec
variable {TB:Be}
def Ff(F:PS):List Int:=[(F 0:Nat),(F 1:Nat),(F 2:Nat),(F 3:Nat),(F 4:Nat),(F 5:Nat),(F 6:Nat),(F 7:Nat),(F 8:Nat),(F 9:Nat),(F 10:Nat),(F 11:Nat)]
abbrev Oc(F:PS):List C:=fS .u16 (Ff F)
abbrev aP(F:PS):E:=Yx .u16 (Ff F)
theorem HJ{F:PS}{p:Nat}(h:p < 12):(Ff F)[p]? = some (F p:Int):=by
 obtain rfl|rfl|rfl|rfl|rfl|rfl|rfl|rfl|rfl|rfl|rfl|rfl:p=0∨p=1∨p=2∨p=3∨p=4∨p=5∨p=6∨p=7∨p=8∨p=9∨p=10∨p=11:=by omega
 all_goals rfl
theorem Lm{F:PS}{p:Nat}(h:p < 12):(Oc F)[p]? = some (.d (.v (.int .u16 (F p:Int)))):=by simp [HJ h]
theorem Od{F G:PS}(h:∀p,p < 12→F p=G p):Ff F=Ff G:=by
 unfold Ff
 rw [h 0 (by omega),h 1 (by omega),h 2 (by omega),h 3 (by omega),h 4 (by omega),h 5 (by omega),h 6 (by omega),h 7 (by omega),h 8 (by omega),h 9 (by omega),h 10 (by omega),h 11 (by omega)]
theorem O2{F G:PS}(h:Ff F=Ff G):∀p,p < 12→F p=G p:=fun p hp=>by
 have:=HJ (F:=F) hp
 rw [h,HJ hp] at this
 injection this with this
 omega
theorem TD{F:PS}{p:Nat}(h:p < 12){v:Nat}:AE (Oc F) p [.d (.v (.int .u16 (v:Int)))]=Oc fun i=>if i=p then v else F i:=by
 have hl:(Oc F).length=12:=by simp [Ff]
 rw [GF (by omega)]
 apply List.ext_getElem?
 intro i
 rw [List.getElem?_set]
 by_cases hi:i < 12
 ·rw [Lm hi,Lm hi]
  by_cases e:p=i
  ·subst e;rw [if_pos rfl,if_pos (by omega),if_pos rfl]
  ·rw [if_neg e,if_neg (fun h=>e h.symm)]
 ·have h1:∀G:PS,(Oc G)[i]? = none:=fun G=>List.getElem?_eq_none (by simp [Ff];omega)
  rw [h1,h1]
  by_cases e:p=i
  ·omega
  ·rw [if_neg e]
theorem u16_in{n:Nat}(h:n < 65536):IntKind.u16.wrap (n:Int)=n:=by
 unfold IntKind.wrap
 simp [IntKind.bits,IntKind.signed,IntKind.min,IntKind.max]
 omega
instance:EI Tryz.prog 213 12 .u16:=⟨⟨211,⟨by kernel_rfl,by kernel_rfl,by kernel_rfl,by kernel_rfl⟩,by kernel_rfl⟩,by kernel_rfl,fun h=>by
 have h2:Nat.beq Tryz.prog.types.size 0=false:=by kernel_rfl
 rw [h] at h2;cases h2⟩
def C3(t:B1)(l:Int)(F:PS)(k:Nat):PS:=fun p':Nat=>(List.range k).foldl (fun a p=>if B9 t.q p l=(p':Int) then a ||| Cx t.s l (F p) else a) 0
theorem HH{t:B1}{l:Int}{F:PS}{k:Nat}:C3 t l F (k+1)=fun p':Nat=>if B9 t.q k l=(p':Int) then C3 t l F k p' ||| Cx t.s l (F k) else C3 t l F k p':=by
 funext p'
 unfold C3
 rw [List.range_succ,List.foldl_append];rfl
theorem Sf{s:Sys}{l:Int}:Cx s l 0=0:=by
 unfold Cx
 split
 ·exact HC fun j=>by
   cases h:(Bx s.es l 0).testBit j
   ·rfl
   ·obtain⟨e,_,⟨_,h2⟩,_⟩:=DT.1 h
    simp at h2
 ·rfl
theorem NZ{t:B1}{l:Int}{F:PS}{k:Nat}(h:F k=0):C3 t l F (k+1)=C3 t l F k:=by
 rw [HH]
 funext p'
 rw [h,Sf]
 split<;>simp
theorem WH{t:B1}{l:Int}{F:PS}(h:CB t F)(hn:t.q.nx.length≤12):C3 t l F 12=Tq t l F:=by
 have key:∀k,C3 t l F (t.q.nx.length+k)=C3 t l F t.q.nx.length:=fun k=>by
  induction k with
  | zero=>rfl
  | succ k ih=>rw [←Nat.add_assoc,NZ (h.z _ (by omega)),ih]
 have:=key (12 - t.q.nx.length)
 rw [show t.q.nx.length+(12 - t.q.nx.length)=12 by omega] at this
 rw [this];rfl
theorem Tr{t:B1}(ht:A1 t=true){l:Int}{F:PS}(h:CB t F)(k p:Nat):C3 t l F k p < 65536:=by
 induction k with
 | zero=>simp [C3]
 | succ k ih=>
  rw [HH]
  simp only
  have h2:=Ht ht (l:=l) (h.lt k)
  split
  ·have:=Nat.or_lt_two_pow (n:=16) ih h2;omega
  ·exact ih
structure Fm where
 F:List PS
 nx:List (List Int)
 un:List Bool
abbrev N9(r:List Int):List C:=r.map fun x=>.d (iD x)
def Nm(F:List PS):List (List Int×Int):=F.zipIdx.map fun x=>(Ff x.1,(x.2:Int))
abbrev Xx(t:B1)(a b c d:C):List C:=[.d (iD t.s.al),.d (iD t.s.st),.d (Hc t.s.es),.d (iD t.q.al),.d (Dx t.q.nx),.d (GZ t.q.ac),.d (iD t.al),.ip (EU t.s.es),.d (.l (Gb t.q)),.d (Eg (Cb t)),a,b,c,d]
abbrev K0(t:B1)(m:Fm):Ab:=[(0,.cells 209 14 [Xx t (.arr 1 12 0 m.F.length) (.mp 2) (.arr 3 6 0 m.nx.length) (.arr 4 1 0 m.un.length)]),(1,.cells 213 12 (m.F.map Oc)),(2,.mp (mapA .u16 (Nm m.F))),(3,.cells 148 6 (m.nx.map N9)),(4,.cells 4 1 (m.un.map BE))]
theorem AH(r:Nat→Nat)(q:IntKind)(l:List Int):C.Bp r (l.map fun x=>.d (.v (.int q x)))=l.map fun x=>.d (.v (.int q x)):=by
 rw [show (l.map fun x=>C.d (.v (.int q x)))=(l.map fun x=>D.v (.int q x)).map .d by simp,O7]
theorem Mt{P:Program}{Γ:Ctx}{d:Option Tmp}{ty:TypeId}{pos:String}{af:Array Edge}{g:Option (Nat×Bool)}{f:Env}{σ:Ab}{nx:Nat}{t:TypeId}{x:Operand}{id k i j n:Nat}{T:TypeId}{rows:List (List C)}{r:List C}{c:C}[hl:Cu P t false n](hx:ev f x=some (.o (.ptr id k i j)))(ho:look σ id=some (.cells T k rows))(hr:rows[i]? = some r)(hc:r[j]? = some c) :
 AV P TB Γ ⟨d,.load t x,ty,pos,af,g⟩ f σ nx (.o c):=TF hx ho hr (show ak false n j r=some (.o c) by unfold ak;rw [hc];rfl)
theorem PW{r:List Nat}:∀i,i < 5→(0::1::2::3::4::r)[i]? = some i
 | 0,_|1,_|2,_|3,_|4,_=>rfl
 | n+5,h=>by omega
theorem Td{a b:Nat}(ha:a < 65536)(hb:b < 65536):Wp .u16 (a:Int) (b:Int)=((a ||| b:Nat):Int):=by
 have h0:a ||| b < 2 ^ 16:=Nat.or_lt_two_pow (by omega) (by omega)
 unfold Wp
 have h1:(BitVec.ofInt IntKind.u16.bits (a:Int) ||| BitVec.ofInt IntKind.u16.bits (b:Int)).toNat=a ||| b:=by
  have e:IntKind.u16.bits=16:=rfl
  rw [e]
  simp only [BitVec.toNat_or,BitVec.ofInt_natCast,BitVec.toNat_ofNat]
  rw [Nat.mod_eq_of_lt (by omega),Nat.mod_eq_of_lt (by omega)]
 rw [h1]
 exact u16_in (by omega)
theorem Tp[Fo TB]{t:B1}(ht:A1 t=true)(m:Fm){l:Int}(hl:0≤l∧l < 6){F:PS}(hF:CB t F):Spec Tryz.prog TB 255 (K0 t m) 5 [.o (.ptr 0 14 0 0),aP F,eI .i64 l] (fun x σ nx=>x=aP (Tq t l F)∧σ=K0 t m∧nx=5):=by
 have hs:BC t.s=true:=by unfold A1 at ht;simp only [Bool.and_eq_true] at ht;exact ht.1
 have ha:=Cn ht
 have hah:=Aj ha
 rw [←WH hF (by omega)]
 refine eR Tryz.func255 rfl (by kernel_rfl) rfl ?_;intro Γ hΓ
 (repeat first|refine tA rfl ?_ |refine aU rfl ?_ |refine Aa ?_)
 refine aB ?_
 refine aL (α:={k:Nat // k≤12}) [0,2,6,7,11] [0,1,2,3,4,5] rfl rfl (fun s=>[(12,eI .i64 s.1)]) (fun s=>[(6,.cells 213 12 [Oc (C3 t l F s.1)])]) 7 (fun s=>12 - s.1) (⟨0,by omega⟩) hΓ rfl (by (simp[cX,zC,hΓ,AH]<;>rfl)) ?_;rintro⟨k,hk⟩;(try dsimp only[cA,cB])
 by_cases hkl:k < 12
 ·have hx:(Ff F)[((k:Nat):Int).toNat]? = some (F k:Int):=by rw [Int.toNat_natCast];exact HJ hkl
  have hfk:=hF.lt k
  (repeat first|refine s2 rfl fun _ _hb=>?_ |refine aU rfl ?_ |refine Aa ?_)
  ((refine aC rfl ?_ ?_<;>rintro⟨⟩);all_goals try(exfalso;(simp only[oZ] at *;omega)))
  refine aK ?_
  refine aS (aB ?_)
  (repeat first|refine tA rfl ?_ |refine s2 rfl fun _ _hb=>?_|(refine Ai rfl ?_;refine gA rfl ?_;first| refine gS (fun _ _=>Jt (l:=Ff F) rfl rfl rfl (by omega) hx) ?_) |refine aU rfl ?_ |refine Aa ?_)
  (refine aC rfl ?_ ?_<;>rintro⟨⟩)
  ·have hz:F k=0:=by (simp only[oZ] at *;omega)
   refine aE ?_
   (repeat first|(refine sA rfl ?_ ?_;first|exact tI|omega) |refine aU rfl ?_ |refine Aa ?_)
   refine⟨⟨k+1,by omega⟩,by dsimp only;(omega),[0,1,2,3,4,5,6],?_⟩
   simp[cX,zC,hΓ,AH,NZ hz];exact PW
  ·have hkn:k < t.q.nx.length:=by
    rcases Nat.lt_or_ge k t.q.nx.length with h1|h1
    ·exact h1
    ·have:=hF.z k h1;(simp only[oZ] at *;omega)
   have ta:=HN (a:=t.q) (q:=((k:Nat):Int).toNat) (by omega)
   have ra:=FU (h:=fun l=>B9 t.q k l) hl.1 hl.2
   have el:((l.toNat:Nat):Int)=l:=by omega
   simp only [el] at ra
   have hga:=Dc ha hkn hl.1 hl.2
   have hst:=Ze (TB:=TB) hs hl hfk
   have hss:=Ht ht (l:=l) hfk
   have hml:=Tr ht (l:=l) hF k
   obtain⟨g,hg⟩:∃g:Nat,B9 t.q k l=g:=⟨(B9 t.q k l).toNat,by omega⟩
   rw [hg] at ra hga
   refine aK ?_
   (repeat first|(refine sA rfl ?_ ?_;first|exact tI|omega) |(refine sC rfl (LV _ _) ?_;intro _ _hb)|(refine Ai rfl ?_;refine gA rfl ?_;first| refine gS (fun _ _=>O3 rfl (IntWalk.i64_in _ (by omega))) ?_) |refine aU rfl ?_ |refine Aa ?_)
   have ej:0+((g:Nat):Int).toNat*1=g:=by omega
   have hj:(Oc (C3 t l F k))[0+((g:Nat):Int).toNat*1]? = some (.d (.v (.int .u16 (C3 t l F k g:Int)))):=by rw [ej];exact Lm (by omega)
   have hor:=Td (hml g) hss
   have hns:C3 t l F (k+1)=fun p':Nat=>if p'=g then C3 t l F k g ||| Cx t.s l (F k) else C3 t l F k p':=by
    rw [HH,hg]
    funext p'
    by_cases e:p'=g
    ·subst e;simp
    ·rw [if_neg e,if_neg (by omega)]
   have hset:=TD (F:=C3 t l F k) (p:=g) (by omega) (v:=C3 t l F k g ||| Cx t.s l (F k))
   rw [←hns] at hset
   (refine aC rfl ?_ ?_<;>rintro⟨⟩)
   ·have hb:DN t.s.al l.toNat=true:=by simpa [hasB,hl.1] using _hb
    have hsm:Cx t.s l (F k)=Bx t.s.es l (F k):=by unfold Cx;rw [if_pos hb]
    rw [←hsm] at hst
    (repeat first|(refine sA rfl ?_ ?_;first|exact tI|omega) |(refine s4 rfl ‹_› rfl ?_ ?_;omega) |refine sP rfl (hst) rfl ?_ |refine aU rfl ?_ |refine Aa ?_)
    (repeat first|(refine sA rfl ?_ ?_;first|exact tI|omega)|(refine Ai rfl ?_;refine gA rfl ?_;first| refine gS (fun _ _=>Dp rfl ra) ?_|refine gQ (Mt rfl rfl rfl hj) rfl ?_|refine gS (fun _ _=>O3 rfl (u16_in hss)) ?_|refine gS (fun _ _=>ba rfl rfl hor) ?_))
    (refine Ai rfl ?_;refine FT ?_ rfl (by rfl);refine Ea (r:=Oc (C3 t l F k)) rfl rfl rfl rfl rfl rfl (by show 0+((g:Nat):Int).toNat*1+1≤12;omega) ?_)
    refine Aa ?_
    (repeat first|(refine sA rfl ?_ ?_;first|exact tI|omega) |refine aU rfl ?_ |refine Aa ?_)
    refine⟨⟨k+1,by omega⟩,by dsimp only;(omega),[0,1,2,3,4,5,6],?_⟩
    simp[cX,zC,hΓ,AH,hor];exact⟨PW,by simpa [AE] using hset⟩
   ·have hb:DN t.s.al l.toNat=false:=by simpa [hasB,hl.1] using _hb
    have hsm:Cx t.s l (F k)=F k:=by unfold Cx;rw [if_neg (by simp [hb])]
    rw [hsm] at hor hset
    refine aK ?_
    (repeat first|(refine sA rfl ?_ ?_;first|exact tI|omega) |(refine s4 rfl ‹_› rfl ?_ ?_;omega)|(refine Ai rfl ?_;refine gA rfl ?_;first| refine gS (fun _ _=>Dp rfl ra) ?_|refine gQ (Mt rfl rfl rfl hj) rfl ?_|refine gS (fun _ _=>O3 rfl (u16_in hfk)) ?_|refine gS (fun _ _=>ba rfl rfl hor) ?_) |refine aU rfl ?_)
    (refine Ai rfl ?_;refine FT ?_ rfl (by rfl);refine Ea (r:=Oc (C3 t l F k)) rfl rfl rfl rfl rfl rfl (by show 0+((g:Nat):Int).toNat*1+1≤12;omega) ?_)
    refine Aa ?_
    (repeat first|(refine sA rfl ?_ ?_;first|exact tI|omega) |refine aU rfl ?_ |refine Aa ?_)
    refine⟨⟨k+1,by omega⟩,by dsimp only;(omega),[0,1,2,3,4,5,6],?_⟩
    simp[cX,zC,hΓ,AH,hor];exact⟨PW,by simpa [AE] using hset⟩
 ·obtain rfl:k=12:=by omega
  (repeat first|refine s2 rfl fun _ _hb=>?_ |refine aU rfl ?_ |refine Aa ?_)
  ((refine aC rfl ?_ ?_<;>rintro⟨⟩);all_goals try(exfalso;(simp only[oZ] at *;omega)))
  refine aE ?_
  (repeat first|refine tA rfl ?_ |refine aU rfl ?_ |refine Aa ?_)
  refine aR ⟨_,rfl,[0,1,2,3,4],aP (C3 t l F 12),K0 t m,⟨PW,by decide⟩,rfl,by (simp[cX,zC,hΓ,AH]),rfl,rfl,rfl⟩
end Go.Am
