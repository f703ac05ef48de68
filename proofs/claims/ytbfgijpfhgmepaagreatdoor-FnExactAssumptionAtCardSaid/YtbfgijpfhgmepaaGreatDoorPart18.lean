/-
  Literals of slices without elements; what is appended to them.
-/
import Derived.Test.YtbfgijpfhgmepaaGreatDoorPart17
import Derived.Test.YtbfgijpfhgmepaaGreatDoorPart16
import Derived.Test.YtbfgijpfhgmepaaGreatDoorPart6
import Derived.Test.YtbfgijpfhgmepaaGreatDoorPart5
import Derived.WideKeyArr
import Derived.Test.YtbfgijpfhgmepaaGreatDoorPart15
set_option linter.constructorNameAsVariable false
set_option linter.unusedSectionVars false
set_option linter.unusedSimpArgs false
set_option linter.unusedVariables false
namespace Go.Am
open Go
set_option linter.unusedVariables false
section
variable {P:Program}{TB:Bt}{Γ:Ctx}{d:Option Tmp}{ty:TypeId}{pos:String}{af:Array Edge}{g:Option (Nat×Bool)}{f:Env}{σ:Ab}{nx:Nat}
variable {K:E→Ab→Nat→Prop}
theorem Td{t e:TypeId}{k b:Nat}{z:List Value}[hl:CK P t e k b][hz:BM P e z](hzk:z.length=k)(hok:z.all P4=true):AS P TB Γ ⟨d,.buildSlice t 0 #[],ty,pos,af,g⟩ f σ nx .e:=
 JD fun V ρ h1 h2=>by
  obtain⟨cur,h3,h4,h5⟩:=Ix (es:=[]) hl.out hz.out hzk hok h1 rfl rfl rfl rfl (by simp) (by simp)
  have hw:∀b,b < V.w.heap.size→(V.w.alloc (.cells cur e)).heap[b]? = V.w.heap[b]?:=fun b hb=>Bb V.w _ b hb
  obtain⟨hi,he⟩:=R.Inv.grow h2 (w:=V.w.alloc (.cells cur e)) rfl rfl rfl (by simp) hw
  exact⟨_,{ V with w:=V.w.alloc (.cells cur e) },h3,he,hi,rfl,⟨_,rfl⟩⟩
theorem ZW{t e:TypeId}{k b:Nat}{z:List Value}{s x:Operand}{news:List (List C)}{ex:E}[hl:CK P t e k b][hz:BM P e z]
 (hs:ev f s=some .e) (hx:ev f x=some ex) (hsrc:Ly σ k ex=some news) (hkk:∀r∈news,r.length=k) (hzk:z.length=k) (hb0:0 < b) (hb:news.length*b≤140737488355328)
 (hK0:news=[]→∀b,∃y,(∀V:View,Bd V y (.slice b 0 0))∧K y σ nx) (hK:news≠[]→K (.o (.arr nx k 0 news.length)) ((nx,.cells e k news)::σ) (nx+1)):BT P TB Γ ⟨d,.call ⟨.builtin .append,#[s,x],#[t,t]⟩,ty,pos,af,g⟩ f σ nx K:=
 Dx fun V ρ h1 h2 h3=>by
  subst h3
  obtain⟨i,hu,hi,hsz,hby⟩:=GQ hl.out
  have hz':=hz.out
  simp only [aV,hi,Option.bind_some,Option.map_eq_some_iff] at hz'
  obtain⟨zv,hzv,hzz⟩:=hz'
  have hzc:zv.cells.size=k:=by rw [←hzk,←hzz];simp
  obtain⟨sb,hsv⟩:=h1.get (x:=s) (by simp [Op.operands,Call.operands]) hs
  have hxr:=Y9 h2 hsrc hkk (h1.get (x:=x) (by simp [Op.operands,Call.operands]) hx)
  have hexec:∀w,(execOp ρ ⟨d,.call ⟨.builtin .append,#[s,x],#[t,t]⟩,ty,pos,af,g⟩).run P w=((Builtin.append_ #[t,t] ty #[ρ s,ρ x]).run P w).andThen fun v w'=>.ok (.value v) w':=fun w=>by
   simp only [execOp,resolve,invoke,builtin,List.map_toArray,List.map_cons,List.map_nil,pure_bind,bind_pure_comp,Sem.run_map]
  have hmax:news.length≤maxLen:=by
   have:news.length≤news.length*b:=Nat.le_mul_of_pos_right _ hb0
   unfold maxLen;omega
  have hint:((news.length:Nat):Int)≤9223372036854775807:=by
   have:news.length≤news.length*b:=Nat.le_mul_of_pos_right _ hb0
   omega
  rw [hsv] at hexec
  generalize hvx:ρ x=vx at *
  have nothing0:=fun h=>hK0 h sb
  have nothing:news=[]→∀v,(Builtin.append_ #[t,t] ty #[.slice sb 0 0,vx]).run P V.w=.ok (.slice sb 0 0) V.w→v=Value.slice sb 0 0→
   ∃v V' xx σ',(execOp ρ ⟨d,.call ⟨.builtin .append,#[s,x],#[t,t]⟩,ty,pos,af,g⟩).run P V.w=.ok (.value v) V'.w∧Ext V V'∧Inv TB Γ V' σ'∧Bd V' xx v∧K xx σ' V'.nx:=fun hn v hr _=>
   let ⟨y,k1,k2⟩:=nothing0 hn
   ⟨.slice sb 0 0,V,y,σ,by rw [hexec,hr];rfl,Ext.refl _,h2,k1 V,k2⟩
  rcases hxr with ⟨rfl,hnil⟩|⟨xa,xc,xv,rfl,hxk,hxcell⟩
  ·exact nothing hnil _ (FR hu hi V.w sb 0 0 (Nat.le_refl _) ty) rfl
  ·have hnewsl:(Dm news.length k xv).length=news.length*i.size:=by rw [C6,hsz]
   have hnewsc:∀j u,(Dm news.length k xv)[j]? = some u→V.w.cell? (xa.add j)=some u:=by
    intro q u hq
    obtain⟨a,b,rfl,ha,hb,rfl⟩:=Ml hq
    have hbl:b < news[a].length:=by rw [hxk _ (List.getElem_mem ha)];exact hb
    exact(hxcell a news[a] b news[a][b] (List.getElem?_eq_getElem ha) (List.getElem?_eq_getElem hbl)).1
   rcases Nat.eq_zero_or_pos news.length with hm0|hm0
   ·have hnn:news=[]:=List.length_eq_zero_iff.1 hm0
    refine nothing hnn _ ?_ rfl
    subst hnn
    cases sb<;>simp [Builtin.append_,run_underlying hu,sizeOf,typeInfo,hi,Builtin.lenOf,Builtin.firstCells,loadCells,loadCellsFrom,storeCells,go_sem]
   ·have hne:news≠[]:=fun h=>by subst h;simp at hm0
    have hrun:(Builtin.append_ #[t,t] ty #[.slice sb 0 0,.slice (some xa) news.length xc]).run P V.w=.ok (.slice (some ⟨V.w.heap.size,0,none⟩) news.length (grownCap V.w news.length 0 e))
     (V.w.drew.alloc (.cells ((Dm news.length k xv).toArray++Builtin.zeroCells zv.cells (grownCap V.w news.length 0 e - news.length)) e)):=by
     cases sb with
     | none=>
      have hr:=run_append_nil (P:=P) V.w t ty e i zv hu hi hzv xa news.length xc _ hnewsl hnewsc hm0 (by omega) (by rw [hby];omega)
      rw [hr]
     | some sa=>
      have hr:=run_append_grow (P:=P) V.w t ty e i zv hu hi hzv sa 0 0 [] (by simp) (fun j v hj=>by simp at hj) xa news.length xc _ hnewsl hnewsc (by omega) (by simpa using hint) (by rw [hby];exact growslice_fits (by omega) (by simpa using hb))
      simpa using hr
    have hcap:=grownCap_ge V.w news.length 0 e
    have hcm:=grownCap_le_maxLen V.w news.length 0 e hmax
    generalize grownCap V.w news.length 0 e=cap' at *
    let w':=V.w.drew.alloc (.cells ((Dm news.length k xv).toArray++Builtin.zeroCells zv.cells (cap' - news.length)) e)
    have ee:Ext V (Aw V V.w.heap.size cap' False w'):=EK (by simp [w']) fun b hb=>Bb V.w.drew _ b (h2.iLt b hb)
    obtain⟨hi',he'⟩:=h2.alloc (c:=cap') (nl:=False) (w:=w') (ob:=.cells e k news) rfl rfl rfl rfl (by simp [w']) (fun b hb=>Bb V.w.drew _ b hb) (by
     have hr:(Aw V V.w.heap.size cap' False w').ρ V.nx=V.w.heap.size:=by simp [Aw]
     have hc:(Aw V V.w.heap.size cap' False w').cap V.nx=cap':=by simp [Aw]
     refine .inr ⟨by simp [Aw],(Dm news.length k xv).toArray++Builtin.zeroCells zv.cells (cap' - news.length),?_,?_,?_,?_,hkk,?_⟩
     ·have:=Cb V.w.drew (.cells ((Dm news.length k xv).toArray++Builtin.zeroCells zv.cells (cap' - news.length)) e)
      rw [hr];exact this
     ·rw [hc]
      simp only [Array.size_append,List.size_toArray,C6,Builtin.zeroCells,Array.size_map,Array.size_range,hzc,←Nat.add_mul]
      congr 1;omega
     ·rw [hc];exact hcap
     ·rw [hc];exact hcm
     ·intro a r j c hi hj
      have hil:=(List.getElem?_eq_some_iff.1 hi).1
      have hjl:j < k:=by rw [←hxk r (List.mem_of_getElem? hi)];exact(List.getElem?_eq_some_iff.1 hj).1
      have h10:=Mk (vs:=xv) hil hjl
      refine⟨xv a j,?_,(hxcell a r j c hi hj).2.ext ee⟩
      have hlt:=(List.getElem?_eq_some_iff.1 h10).1
      rw [Array.getElem?_append_left (by simpa using hlt)]
      simpa using h10)
    refine⟨.slice (some ⟨V.w.heap.size,0,none⟩) news.length cap',_,_,(V.nx,.cells e k news)::σ,?_,he',hi',?_,hK hne⟩
    ·rw [hexec,hrun];rfl
    ·have:=@AB.arr (Aw V V.w.heap.size cap' False w') V.nx k 0 news.length (by simp [Aw]) (by simp [Aw]) (by simp [Aw];exact hcap)
     have hr:(Aw V V.w.heap.size cap' False w').ρ V.nx=V.w.heap.size:=by simp [Aw]
     have hc:(Aw V V.w.heap.size cap' False w').cap V.nx=cap':=by simp [Aw]
     rw [hr,hc,Nat.zero_mul,Nat.sub_zero] at this
     exact this
theorem HL{t e:TypeId}{k b:Nat}{z:List Value}{s x:Operand}{news:List (List C)}{ex:E}[hl:CK P t e k b][hz:BM P e z]
 (hs:ev f s=some .e) (hx:ev f x=some ex) (hsrc:Ly σ k ex=some news) (hkk:∀r∈news,r.length=k) (hzk:z.length=k) (hb0:0 < b) (hb:news.length*b≤140737488355328)
 (hK0:news=[]→K .e σ nx) (hK:news≠[]→K (.o (.arr nx k 0 news.length)) ((nx,.cells e k news)::σ) (nx+1)):BT P TB Γ ⟨d,.call ⟨.builtin .append,#[s,x],#[t,t]⟩,ty,pos,af,g⟩ f σ nx K:=ZW hs hx hsrc hkk hzk hb0 hb (fun h b=>⟨.e,fun V=>⟨b,rfl⟩,hK0 h⟩) hK
end
section
variable {P:Program}{TB:Bt}{Γ:Ctx}{N:Nat}
theorem Au.BR{c:Code}{Q:Exit→Env→Ab→Nat→Prop}{L0 Lk:List (Nat×E)}{σ Sk:Ab}{nx:Nat}(ks is:List Nat)(hk:OW L0 ks=some Lk)(hi:Yv σ is=some Sk)(v:List (Nat×E))(s:Ab)(l:List Nat)
 (hl:(∀i,i < Γ.V.nx→l[i]? = some i)∧l.Nodup) (h0:DO (nm l nx) (look L0) (v++Lk)∧A7 (nm l nx) σ (s++Sk)) (h:Au P TB Γ N c Q (look (v++Lk)) (s++Sk) l.length):Au P TB Γ N c Q (look L0) σ nx:=
 Au.names l (v++Lk) (s++Sk) hl.1 hl.2 h0.1 h0.2 h
end
abbrev Ga:=List (Value×List Int)
def sI(l:Ga):List (Value×List Value):=l.map fun x=>(x.1,x.2.map (.int .i64))
def A6(l:Ga):List (List C):=l.map fun x=>[.d (.v x.1)]
abbrev Lm(xs:List Int):List (List C):=xs.map Al
theorem eL{V:View}{i k off n:Nat}{v:Value}(h:AB V (.arr i k off n) v):(V.nl i∧off=0∧n=0∧v=.slice none 0 0)∨(¬V.nl i∧off+n≤V.cap i∧v=.slice (some ⟨V.ρ i,off*k,none⟩) n (V.cap i - off)):=by
 cases h with
 | nil _ h=>exact .inl ⟨h,rfl,rfl,rfl⟩
 | arr _ h1 h2=>exact .inr ⟨h1,h2,rfl⟩
theorem Kv(l m:Ga):sI (l++m)=sI l++sI m:=List.map_append
theorem Lo(l m:Ga):A6 (l++m)=A6 l++A6 m:=List.map_append
theorem Ec(l:Ga):(A6 l).length=l.length:=List.length_map _
theorem dA(r:Nat→Nat)(l:Ga):(A6 l).map (C.BB r)=A6 l:=by
 unfold A6
 rw [List.map_map]
 rfl
theorem cY(l:List Int):(Lm l).length=l.length:=List.length_map _
section
variable {P:Program}{TB:Bt}{Γ:Ctx}{N:Nat}{V:View}{σ:Ab}{a i s:Nat}{T Ta:TypeId}{R1 R2:List (List C)}{xs:List Int}{l1 l2:Ga}
theorem Xc{l:Ga}{x:Value×List Value}(h:x∈sI l):∃y∈l,x=(y.1,y.2.map (.int .i64)):=by
 obtain⟨y,hy,rfl⟩:=List.mem_map.1 h
 exact⟨y,hy,rfl⟩
theorem Inv.put(h:Inv TB Γ V σ)(ha:look σ a=some (.cells Ta 1 (R1++[.arr i 1 0 xs.length]::R2)))(hi:look σ i=some (.cells T 1 (Lm xs)))(hs:look σ s=some (.sld T (sI (l1++l2)))) :
 ∃v,Inv TB Γ V ((a,.cells Ta 1 (R1++[.d (.v v)]::R2))::(s,.sld T (sI (l1++(v,xs)::l2)))::kill i σ):=by
 have has:a≠s:=fun e=>by rw [e,hs] at ha;cases ha
 have his:i≠s:=fun e=>by rw [e,hs] at hi;cases hi
 have hai:a≠i:=fun e=>by
  rw [e,hi] at ha
  injection ha with ha;injection ha with _ _ ha
  have h1:(Lm xs)[R1.length]? = some [.arr i 1 0 xs.length]:=by rw [ha];simp
  rw [List.getElem?_map,Option.map_eq_some_iff] at h1
  obtain⟨x,_,hx⟩:=h1
  cases hx
 rcases h.st.obj a _ ha with ⟨_,h0⟩|⟨hna,cur,h2,h3,h4,h5,h6,h7⟩
 ·simp at h0
 obtain⟨v,hv,hc⟩:=h7 R1.length [.arr i 1 0 xs.length] 0 (.arr i 1 0 xs.length) (by simp) rfl
 have hc:=eL hc
 have hsl:PA v=true:=by rcases hc with ⟨_,_,_,rfl⟩|⟨_,_,rfl⟩<;>rfl
 have hblk:∀b,Kc v b→¬V.nl i∧b=V.ρ i:=by
  rintro b ⟨o,n,c,rfl⟩
  rcases hc with ⟨_,_,_,hw⟩|⟨hn,_,hw⟩
  ·cases hw
  ·injection hw with hw;injection hw with hw;injection hw with hw;exact⟨hn,hw⟩
 have hslot:KD V.w T v (xs.map (.int .i64)):=by
  rcases h.st.obj i _ hi with ⟨g1,g2⟩|⟨hni,cur',g2,g3,g4,g5,g6,g7⟩
  ·have:xs=[]:=by simpa using g2
   subst this
   rcases hc with ⟨_,_,_,rfl⟩|⟨hn,_⟩
   ·exact .inl ⟨rfl,rfl⟩
   ·exact absurd g1 hn
  ·rcases hc with ⟨hn,_⟩|⟨_,hle,rfl⟩
   ·exact absurd hn hni
   ·refine .inr ⟨V.ρ i,V.cap i,cur',by simp,g2,by simpa using g3,by rw [cY] at g4;simpa using g4,g5,fun j x hj=>?_⟩
    rw [List.getElem?_map,Option.map_eq_some_iff] at hj
    obtain⟨n,hn,rfl⟩:=hj
    obtain⟨w,hw,hcw⟩:=g7 j [.d (.v (.int .i64 n))] 0 (.d (.v (.int .i64 n))) (by simp [Lm,hn]) rfl
    have:w=.int .i64 n:=AB.val hcw
    subst this
    exact⟨by simpa using hw,rfl⟩
 refine⟨v,?_⟩
 have look':∀id o,look ((a,.cells Ta 1 (R1++[.d (.v v)]::R2))::(s,.sld T (sI (l1++(v,xs)::l2)))::kill i σ) id=some o→
  (id=a∧o=.cells Ta 1 (R1++[.d (.v v)]::R2))∨(id=s∧o=.sld T (sI (l1++(v,xs)::l2)))∨(id≠a∧id≠s∧id≠i∧look σ id=some o):=fun id o ho=>by
  rw [Ay] at ho
  by_cases h1:a=id
  ·rw [if_pos h1] at ho;injection ho with ho;exact .inl ⟨h1.symm,ho.symm⟩
  ·rw [if_neg h1,Ay] at ho
   by_cases h2:s=id
   ·rw [if_pos h2] at ho;injection ho with ho;exact .inr (.inl ⟨h2.symm,ho.symm⟩)
   ·rw [if_neg h2,Fc] at ho
    by_cases h3:id=i
    ·rw [if_pos h3] at ho;cases ho
    ·rw [if_neg h3] at ho;exact .inr (.inr ⟨Ne.symm h1,Ne.symm h2,h3,ho⟩)
 have hsb:∀b,EF V s (.sld T (sI (l1++(v,xs)::l2))) b→EF V s (.sld T (sI (l1++l2))) b∨(¬V.nl i∧b=V.ρ i):=by
  rintro b ⟨x,hx,hb⟩
  obtain⟨y,hy,rfl⟩:=Xc hx
  rcases List.mem_append.1 hy with hy|hy
  ·exact .inl ⟨_,List.mem_map.2 ⟨y,List.mem_append_left _ hy,rfl⟩,hb⟩
  ·rcases List.mem_cons.1 hy with rfl|hy
   ·exact .inr (hblk b hb)
   ·exact .inl ⟨_,List.mem_map.2 ⟨y,List.mem_append_right _ hy,rfl⟩,hb⟩
 have hos:=h.st.obj s _ hs
 have hdis:∀x∈sI (l1++l2),∀b,Kc x.1 b→¬Kc v b:=fun x hx b hb hb'=>by
  obtain⟨hn,rfl⟩:=hblk b hb'
  exact h.st.inj s i _ _ hs hi (Ne.symm his) hos.1 hn _ ⟨x,hx,hb⟩ rfl
 have src:∀id o,look ((a,.cells Ta 1 (R1++[.d (.v v)]::R2))::(s,.sld T (sI (l1++(v,xs)::l2)))::kill i σ) id=some o→¬V.nl id→∀b,EF V id o b→∃id0 o0,look σ id0=some o0∧¬V.nl id0∧EF V id0 o0 b∧(id0=id∨id0=i∧id=s):=fun id o ho hn b hb=>by
  rcases look' id o ho with ⟨rfl,rfl⟩|⟨rfl,rfl⟩|⟨_,_,_,ho⟩
  ·exact⟨_,_,ha,hn,hb,.inl rfl⟩
  ·rcases hsb b hb with hb|⟨h1,rfl⟩
   ·exact⟨_,_,hs,hn,hb,.inl rfl⟩
   ·exact⟨_,_,hi,h1,rfl,.inr ⟨rfl,rfl⟩⟩
  ·exact⟨_,_,ho,hn,hb,.inl rfl⟩
 have noi:∀id o,look ((a,.cells Ta 1 (R1++[.d (.v v)]::R2))::(s,.sld T (sI (l1++(v,xs)::l2)))::kill i σ) id=some o→id≠i:=fun id o ho=>by
  rcases look' id o ho with ⟨rfl,rfl⟩|⟨rfl,rfl⟩|⟨_,_,h3,_⟩
  ·exact hai
  ·exact Ne.symm his
  ·exact h3
 refine⟨h.os,h.tape,h.output,h.old,h.iLt,h.iNew,h.ext,⟨fun id o ho=>?_,fun id o ho=>?_,fun id o ho hn b hb=>?_,fun id id' o o' ho ho' hne hn hn' b hb hb'=>?_⟩,fun id o ho hn b hb=>?_,h.tabs,h.hid.same rfl (fun _ h=>h) (fun _ h=>.inl h) fun b ⟨id,o,ho,hn,hb⟩=>let ⟨id0,o0,g1,g2,g3,_⟩:=src id o ho hn b hb;⟨id0,o0,g1,g2,g3⟩⟩
 ·rcases look' id o ho with ⟨rfl,rfl⟩|⟨rfl,rfl⟩|⟨_,_,_,ho⟩
  ·refine .inr ⟨hna,cur,h2,h3,by simpa using h4,h5,fun r hr=>?_,fun q r j c hq hj=>?_⟩
   ·rcases List.mem_append.1 hr with hr|hr
    ·exact h6 r (List.mem_append_left _ hr)
    ·rcases List.mem_cons.1 hr with rfl|hr
     ·rfl
     ·exact h6 r (List.mem_append_right _ (List.mem_cons_of_mem _ hr))
   ·by_cases hq0:q=R1.length
    ·subst hq0
     simp at hq
     subst hq
     have hj0:j=0:=by have:=(List.getElem?_eq_some_iff.1 hj).1;simp at this;omega
     subst hj0
     simp at hj
     subst hj
     exact⟨v,hv,.d (.v hsl)⟩
    ·refine h7 q r j c ?_ hj
     rw [←hq]
     rcases Nat.lt_or_ge q R1.length with h8|h8
     ·rw [List.getElem?_append_left h8,List.getElem?_append_left h8]
     ·rw [List.getElem?_append_right h8,List.getElem?_append_right h8]
      obtain⟨k,hk⟩:∃k,q - R1.length=k+1:=⟨q - R1.length - 1,by omega⟩
      rw [hk];rfl
  ·refine⟨hos.1,?_,fun x hx=>?_⟩
   ·have hp:=hos.2.1
    rw [Kv,List.pairwise_append] at hp
    rw [Kv,List.pairwise_append]
    refine⟨hp.1,List.pairwise_cons.2 ⟨fun y hy b hb hb'=>hdis y (by rw [Kv];exact List.mem_append_right _ hy) b hb' hb,hp.2.1⟩,fun x hx y hy=>?_⟩
    rcases List.mem_cons.1 hy with rfl|hy
    ·exact fun b hb=>hdis x (by rw [Kv];exact List.mem_append_left _ hx) b hb
    ·exact hp.2.2 x hx y hy
   ·obtain⟨y,hy,rfl⟩:=Xc hx
    rcases List.mem_append.1 hy with hy|hy
    ·exact hos.2.2 _ (List.mem_map.2 ⟨y,List.mem_append_left _ hy,rfl⟩)
    ·rcases List.mem_cons.1 hy with rfl|hy
     ·exact hslot
     ·exact hos.2.2 _ (List.mem_map.2 ⟨y,List.mem_append_right _ hy,rfl⟩)
  ·exact h.st.obj id o ho
 ·rcases look' id o ho with ⟨rfl,rfl⟩|⟨rfl,rfl⟩|⟨_,_,_,ho⟩
  ·exact h.st.lt _ _ ha
  ·exact h.st.lt _ _ hs
  ·exact h.st.lt _ _ ho
 ·obtain⟨id0,o0,g1,g2,g3,_⟩:=src id o ho hn b hb
  exact h.st.free _ _ g1 g2 b g3
 ·obtain⟨id0,o0,g1,g2,g3,g4⟩:=src id o ho hn b hb
  obtain⟨id0',o0',g1',g2',g3',g4'⟩:=src id' o' ho' hn' b hb'
  refine h.st.inj id0 id0' _ _ g1 g1' ?_ g2 g2' b g3 g3'
  have n1:=noi id o ho
  have n2:=noi id' o' ho'
  rintro rfl
  rcases g4 with rfl|⟨rfl,rfl⟩<;>rcases g4' with rfl|⟨e1,rfl⟩
  ·exact hne rfl
  ·exact n1 e1
  ·exact n2 rfl
  ·exact hne rfl
 ·obtain⟨id0,o0,g1,g2,g3,_⟩:=src id o ho hn b hb
  exact h.live _ _ g1 g2 b g3
theorem Au.put{c:Code}{Q:Exit→Env→Ab→Nat→Prop}{f:Env}{nx:Nat}(a i s:Nat)(R1 R2:List (List C))(xs:List Int)(l1 l2:Ga)(ha:look σ a=some (.cells Ta 1 (R1++[.arr i 1 0 xs.length]::R2)))(hi:look σ i=some (.cells T 1 (Lm xs)))(hs:look σ s=some (.sld T (sI (l1++l2))))
 (h:∀v,Au P TB Γ N c Q f ((a,.cells Ta 1 (R1++[.d (.v v)]::R2))::(s,.sld T (sI (l1++(v,xs)::l2)))::kill i σ) nx):Au P TB Γ N c Q f σ nx:=by
 intro V ac hr
 obtain⟨v,hi'⟩:=hr.inv.put ha hi hs
 exact h v V ac ⟨hr.env,hr.lt,hr.size,hi',hr.nx,hr.defers⟩
theorem Inv.take{v:Value}(h:Inv TB Γ V σ)(ha:look σ a=some (.cells Ta 1 (R1++[.d (.v v)]::R2)))(hs:look σ s=some (.sld T (sI (l1++(v,xs)::l2)))) :
 ∃V',V'.w=V.w∧V'.nx=V.nx+1∧Ext V V'∧Inv TB Γ V' ((a,.cells Ta 1 (R1++[.arr V.nx 1 0 xs.length]::R2))::(V.nx,.cells T 1 (Lm xs))::(s,.sld T (sI (l1++l2)))::σ):=by
 have has:a≠s:=fun e=>by rw [e,hs] at ha;cases ha
 have hos:=h.st.obj s _ hs
 have hsn:=h.st.lt _ _ hs
 have han:=h.st.lt _ _ ha
 have hmem:((v,xs.map (.int .i64)):Value×List Value)∈sI (l1++(v,xs)::l2):=List.mem_map.2 ⟨(v,xs),by simp,rfl⟩
 obtain⟨b0,cap,nl,hb0,hcr,hob⟩:∃b0 cap nl,(¬nl→Kc v b0)∧AB (Aw V b0 cap nl V.w) (.arr V.nx 1 0 xs.length) v∧CA (Aw V b0 cap nl V.w) V.nx (.cells T 1 (Lm xs)):=by
  rcases hos.2.2 _ hmem with ⟨h1,h2⟩|⟨b,cap,cur,h1,h2,h3,h4,h5,h6⟩
  ·have h1:v=.slice none 0 0:=h1
   have hx0:xs=[]:=by simpa using h2
   subst h1;subst hx0
   exact⟨0,0,True,fun h=>absurd trivial h,.nil (by simp [Aw]) (by simp [Aw]),.inl ⟨by simp [Aw],rfl⟩⟩
  ·have h1:v=.slice (some ⟨b,0,none⟩) (xs.map (Value.int .i64)).length cap:=h1
   rw [List.length_map] at h1 h4
   refine⟨b,cap,False,fun _=>⟨_,_,_,h1⟩,?_,.inr ⟨by simp [Aw],cur,by simpa [Aw] using h2,by simpa [Aw] using h3,by simpa [Aw] using h4,by simpa [Aw] using h5,fun r hr=>?_,fun q r j c hq hj=>?_⟩⟩
   ·rw [h1]
    have:=@AB.arr (Aw V b cap False V.w) V.nx 1 0 xs.length (by simp [Aw]) (by simp [Aw]) (by simpa [Aw] using h4)
    simpa [Aw] using this
   ·obtain⟨n,_,rfl⟩:=List.mem_map.1 hr;rfl
   ·rw [List.getElem?_map,Option.map_eq_some_iff] at hq
    obtain⟨n,hn,rfl⟩:=hq
    have hj0:j=0:=by have:=(List.getElem?_eq_some_iff.1 hj).1;simp at this;omega
    subst hj0
    simp at hj
    subst hj
    exact⟨.int .i64 n,by simpa using (h6 q (.int .i64 n) (by simp [hn])).1,.d (.v rfl)⟩
 have e:Ext V (Aw V b0 cap nl V.w):=EK (Nat.le_refl _) fun _ _=>rfl
 have hρ:(Aw V b0 cap nl V.w).ρ V.nx=b0:=by simp [Aw]
 have hnl:(Aw V b0 cap nl V.w).nl V.nx↔nl:=by simp [Aw]
 refine⟨Aw V b0 cap nl V.w,rfl,rfl,e,?_⟩
 have look':∀id o,look ((a,.cells Ta 1 (R1++[.arr V.nx 1 0 xs.length]::R2))::(V.nx,.cells T 1 (Lm xs))::(s,.sld T (sI (l1++l2)))::σ) id=some o→
  (id=a∧o=.cells Ta 1 (R1++[.arr V.nx 1 0 xs.length]::R2))∨(id=V.nx∧o=.cells T 1 (Lm xs))∨(id=s∧o=.sld T (sI (l1++l2)))∨(id≠a∧id≠s∧look σ id=some o):=fun id o ho=>by
  rw [Ay] at ho
  by_cases h1:a=id
  ·rw [if_pos h1] at ho;injection ho with ho;exact .inl ⟨h1.symm,ho.symm⟩
  ·rw [if_neg h1,Ay] at ho
   by_cases h2:V.nx=id
   ·rw [if_pos h2] at ho;injection ho with ho;exact .inr (.inl ⟨h2.symm,ho.symm⟩)
   ·rw [if_neg h2,Ay] at ho
    by_cases h3:s=id
    ·rw [if_pos h3] at ho;injection ho with ho;exact .inr (.inr (.inl ⟨h3.symm,ho.symm⟩))
    ·rw [if_neg h3] at ho;exact .inr (.inr (.inr ⟨Ne.symm h1,Ne.symm h3,ho⟩))
 have hsub:∀x∈sI (l1++l2),x∈sI (l1++(v,xs)::l2):=fun x hx=>by
  obtain⟨y,hy,rfl⟩:=Xc hx
  refine List.mem_map.2 ⟨y,?_,rfl⟩
  rcases List.mem_append.1 hy with hy|hy
  ·exact List.mem_append_left _ hy
  ·exact List.mem_append_right _ (List.mem_cons_of_mem _ hy)
 have hp:=hos.2.1
 rw [Kv,List.pairwise_append] at hp
 have hp2:=List.pairwise_cons.1 hp.2.1
 have hdis:∀x∈sI (l1++l2),∀b,Kc x.1 b→¬Kc v b:=fun x hx b hb hb'=>by
  rw [Kv] at hx
  rcases List.mem_append.1 hx with hx|hx
  ·exact hp.2.2 x hx _ (List.mem_cons_self ..) b hb hb'
  ·exact hp2.1 x hx b hb' hb
 have src:∀id o,look ((a,.cells Ta 1 (R1++[.arr V.nx 1 0 xs.length]::R2))::(V.nx,.cells T 1 (Lm xs))::(s,.sld T (sI (l1++l2)))::σ) id=some o→¬(Aw V b0 cap nl V.w).nl id→∀b,EF (Aw V b0 cap nl V.w) id o b→
  ∃id0 o0,look σ id0=some o0∧¬V.nl id0∧EF V id0 o0 b∧(id0=id∨id0=s∧id=V.nx∧Kc v b)∧(id=s→∃x∈sI (l1++l2),Kc x.1 b):=fun id o ho hn b hb=>by
  rcases look' id o ho with ⟨rfl,rfl⟩|⟨rfl,rfl⟩|⟨rfl,rfl⟩|⟨_,h3,ho⟩
  ·exact⟨_,_,ha,fun h=>hn ((e.nl _ han).2 h),by have:b=_:=hb;rw [e.ρ _ han] at this;exact this,.inl rfl,fun e=>absurd e has⟩
  ·have hb:b=_:=hb
   rw [hρ] at hb
   subst hb
   have hv:=hb0 fun h=>hn (hnl.2 h)
   exact⟨_,_,hs,hos.1,⟨_,hmem,hv⟩,.inr ⟨rfl,rfl,hv⟩,fun e=>by omega⟩
  ·obtain⟨x,hx,hb⟩:=hb
   exact⟨_,_,hs,hos.1,⟨x,hsub x hx,hb⟩,.inl rfl,fun _=>⟨x,hx,hb⟩⟩
  ·have hlt:=h.st.lt _ _ ho
   exact⟨_,_,ho,fun h=>hn ((e.nl _ hlt).2 h),(Az e hlt).1 hb,.inl rfl,fun e=>absurd e h3⟩
 refine⟨h.os,h.tape,h.output,h.old,h.iLt,h.iNew,h.ext.trans e,⟨fun id o ho=>?_,fun id o ho=>?_,fun id o ho hn b hb=>?_,fun id id' o o' ho ho' hne hn hn' b hb hb'=>?_⟩,fun id o ho hn b hb=>?_,h.tabs,h.hid.same rfl (fun _ h=>h) (fun _ h=>.inl h) fun b ⟨id,o,ho,hn,hb⟩=>let ⟨id0,o0,g1,g2,g3,_⟩:=src id o ho hn b hb;⟨id0,o0,g1,g2,g3⟩⟩
 ·rcases look' id o ho with ⟨rfl,rfl⟩|⟨rfl,rfl⟩|⟨rfl,rfl⟩|⟨_,_,ho⟩
  ·rcases h.st.obj _ _ ha with ⟨_,h0⟩|⟨hna,cur,h2,h3,h4,h5,h6,h7⟩
   ·simp at h0
   refine .inr ⟨fun h=>hna ((e.nl _ han).1 h),cur,by rw [e.ρ _ han];exact h2,by rw [e.cap _ han];exact h3,by rw [e.cap _ han];simpa using h4,by rw [e.cap _ han];exact h5,fun r hr=>?_,fun q r j c hq hj=>?_⟩
   ·rcases List.mem_append.1 hr with hr|hr
    ·exact h6 r (List.mem_append_left _ hr)
    ·rcases List.mem_cons.1 hr with rfl|hr
     ·rfl
     ·exact h6 r (List.mem_append_right _ (List.mem_cons_of_mem _ hr))
   ·by_cases hq0:q=R1.length
    ·subst hq0
     simp at hq
     subst hq
     have hj0:j=0:=by have:=(List.getElem?_eq_some_iff.1 hj).1;simp at this;omega
     subst hj0
     simp at hj
     subst hj
     obtain⟨w,hw,hc⟩:=h7 R1.length [.d (.v v)] 0 (.d (.v v)) (by simp) rfl
     have hw2:w=v:=AB.val hc
     subst hw2
     exact⟨w,hw,hcr⟩
    ·obtain⟨w,hw,hc⟩:=h7 q r j c (by
      rw [←hq]
      rcases Nat.lt_or_ge q R1.length with h8|h8
      ·rw [List.getElem?_append_left h8,List.getElem?_append_left h8]
      ·rw [List.getElem?_append_right h8,List.getElem?_append_right h8]
       obtain⟨k,hk⟩:∃k,q - R1.length=k+1:=⟨q - R1.length - 1,by omega⟩
       rw [hk];rfl) hj
     exact⟨w,hw,hc.ext e⟩
  ·exact hob
  ·refine⟨fun h=>hos.1 ((e.nl _ hsn).1 h),?_,fun x hx=>hos.2.2 x (hsub x hx)⟩
   rw [Kv,List.pairwise_append]
   exact⟨hp.1,hp2.2,fun x hx y hy=>hp.2.2 x hx y (List.mem_cons_of_mem _ hy)⟩
  ·exact(h.st.obj id o ho).AE e (h.st.lt id o ho) fun _ _ _=>rfl
 ·rcases look' id o ho with ⟨rfl,rfl⟩|⟨rfl,rfl⟩|⟨rfl,rfl⟩|⟨_,_,ho⟩
  ·exact Nat.lt_succ_of_lt han
  ·exact Nat.lt_succ_self _
  ·exact Nat.lt_succ_of_lt hsn
  ·exact Nat.lt_succ_of_lt (h.st.lt _ _ ho)
 ·obtain⟨id0,o0,g1,g2,g3,_⟩:=src id o ho hn b hb
  exact h.st.free _ _ g1 g2 b g3
 ·obtain⟨id0,o0,g1,g2,g3,g4,g5⟩:=src id o ho hn b hb
  obtain⟨id0',o0',g1',g2',g3',g4',g5'⟩:=src id' o' ho' hn' b hb'
  by_cases hee:id0=id0'
  ·rcases g4 with g4|⟨k1,k2,k3⟩<;>rcases g4' with g4'|⟨k1',k2',k3'⟩
   ·exact hne (by rw [←g4,←g4',hee])
   ·obtain⟨x,hx,hxb⟩:=g5 (by rw [←g4,hee,k1'])
    exact hdis x hx b hxb k3'
   ·obtain⟨x,hx,hxb⟩:=g5' (by rw [←g4',←hee,k1])
    exact hdis x hx b hxb k3
   ·exact hne (by rw [k2,k2'])
  ·exact h.st.inj id0 id0' _ _ g1 g1' hee g2 g2' b g3 g3'
 ·obtain⟨id0,o0,g1,g2,g3,_⟩:=src id o ho hn b hb
  exact h.live _ _ g1 g2 b g3
theorem Au.take{c:Code}{Q:Exit→Env→Ab→Nat→Prop}{f:Env}{nx:Nat}(a s:Nat)(R1 R2:List (List C))(v:Value)(xs:List Int)(l1 l2:Ga)(ha:look σ a=some (.cells Ta 1 (R1++[.d (.v v)]::R2)))(hs:look σ s=some (.sld T (sI (l1++(v,xs)::l2))))
 (h:Au P TB Γ N c Q f ((a,.cells Ta 1 (R1++[.arr nx 1 0 xs.length]::R2))::(nx,.cells T 1 (Lm xs))::(s,.sld T (sI (l1++l2)))::σ) (nx+1)):Au P TB Γ N c Q f σ nx:=by
 intro V ac hr
 obtain⟨V',h1,h2,e,hi⟩:=hr.inv.take ha hs
 have:=h V' ac ⟨hr.env.ext e,hr.lt,hr.size,by have:=hr.nx;subst this;exact hi,by rw [h2,hr.nx],hr.defers⟩
 rw [h1] at this
 exact this
theorem Au.dT{c:Code}{Q:Exit→Env→Ab→Nat→Prop}{f:Env}{nx:Nat}(T:TypeId)(h:Au P TB Γ N c Q f ((nx,.sld T (sI []))::σ) (nx+1)):Au P TB Γ N c Q f σ nx:=by
 intro V ac hr
 have hi:=hr.inv
 have e:Ext V (Aw V 0 0 False V.w):=EK (Nat.le_refl _) fun _ _=>rfl
 have hnx:=hr.nx
 subst hnx
 have look':∀id o,look ((V.nx,.sld T (sI []))::σ) id=some o→(id=V.nx∧o=.sld T (sI []))∨(id≠V.nx∧look σ id=some o):=fun id o ho=>by
  rw [Ay] at ho
  by_cases h1:V.nx=id
  ·rw [if_pos h1] at ho;injection ho with ho;exact .inl ⟨h1.symm,ho.symm⟩
  ·rw [if_neg h1] at ho;exact .inr ⟨Ne.symm h1,ho⟩
 have src:∀id o,look ((V.nx,.sld T (sI []))::σ) id=some o→∀b,EF (Aw V 0 0 False V.w) id o b→look σ id=some o∧EF V id o b∧((Aw V 0 0 False V.w).nl id↔V.nl id):=fun id o ho b hb=>by
  rcases look' id o ho with ⟨rfl,rfl⟩|⟨_,ho⟩
  ·obtain⟨x,hx,_⟩:=hb;cases hx
  ·have hlt:=hi.st.lt _ _ ho
   exact⟨ho,(Az e hlt).1 hb,e.nl _ hlt⟩
 refine h (Aw V 0 0 False V.w) ac ⟨hr.env.ext e,hr.lt,hr.size,?_,rfl,hr.defers⟩
 refine⟨hi.os,hi.tape,hi.output,hi.old,hi.iLt,hi.iNew,hi.ext.trans e,⟨fun id o ho=>?_,fun id o ho=>?_,fun id o ho hn b hb=>?_,fun id id' o o' ho ho' hne hn hn' b hb hb'=>?_⟩,fun id o ho hn b hb=>?_,hi.tabs,hi.hid.same rfl (fun _ h=>h) (fun _ h=>.inl h) fun b ⟨id,o,ho,hn,hb⟩=>let ⟨h1,h2,h3⟩:=src id o ho b hb;⟨id,o,h1,fun h=>hn (h3.2 h),h2⟩⟩
 ·rcases look' id o ho with ⟨rfl,rfl⟩|⟨_,ho⟩
  ·exact⟨by simp [Aw],List.Pairwise.nil,fun x hx=>by cases hx⟩
  ·exact(hi.st.obj id o ho).AE e (hi.st.lt id o ho) fun _ _ _=>rfl
 ·rcases look' id o ho with ⟨rfl,rfl⟩|⟨_,ho⟩
  ·exact Nat.lt_succ_self _
  ·exact Nat.lt_succ_of_lt (hi.st.lt _ _ ho)
 ·obtain⟨h1,h2,h3⟩:=src id o ho b hb
  exact hi.st.free _ _ h1 (fun h=>hn (h3.2 h)) b h2
 ·obtain⟨h1,h2,h3⟩:=src id o ho b hb
  obtain⟨h1',h2',h3'⟩:=src id' o' ho' b hb'
  exact hi.st.inj _ _ _ _ h1 h1' hne (fun h=>hn (h3.2 h)) (fun h=>hn' (h3'.2 h)) b h2 h2'
 ·obtain⟨h1,h2,h3⟩:=src id o ho b hb
  exact hi.live _ _ h1 (fun h=>hn (h3.2 h)) b h2
def C.Il:C→Bool
 | .d (.v _)|.d (.l [])|.arr ..|.ptr ..|.mp _|.fn _ []=>true
 | _=>false
def O.Il:O→Prop
 | .cells _ _ rows=>∀r∈rows,∀c∈r,C.Il c=true
 | _=>True
def E.Il:E→Prop
 | .o c=>C.Il c=true
 | .a cs=>∀c∈cs,C.Il c=true
 | .t xs=>∀x∈xs,∀c∈x.2,C.Il c=true
 | .e=>True
def lG(σ:Ab):Prop:=∀x∈σ,O.Il x.2
theorem lG.get{σ:Ab}(h:lG σ){id:Nat}{o:O}(ho:look σ id=some o):O.Il o:=by
 induction σ with
 | nil=>cases ho
 | cons x r ih=>
  obtain⟨k,y⟩:=x
  rw [Ay] at ho
  by_cases hk:k=id
  ·rw [if_pos hk] at ho;injection ho with ho;subst ho;exact h _ (List.mem_cons_self ..)
  ·rw [if_neg hk] at ho;exact ih (fun z hz=>h z (List.mem_cons_of_mem _ hz)) ho
structure TH (V V':View):Prop where
 ρ:V'.ρ=V.ρ
 cap:V'.cap=V.cap
 nl:V'.nl=V.nl
 nx:V'.nx=V.nx
 w:V'.w=V.w
theorem AB.Il{V V':View}(s:TH V V'){c:C}{v:Value}(h:AB V c v)(hc:c.Il=true):AB V' c v:=by
 cases h with
 | @d x v h=>
  cases h with
  | v h=>exact .d (.v h)
  | nil=>exact .d .nil
  | e h=>exact .d (.e h)
  | @l rows b o k cap vs hb h1 h2 h3 h4 h5=>
   cases rows with
   | nil=>exact .d (.e h2)
   | cons=>cases hc
  | p=>cases hc
 | nil h1 h2=>exact .nil (by rw [s.nx];exact h1) (by rw [s.nl];exact h2)
 | @arr id k off len h1 h2 h3=>rw [←s.ρ,←s.cap];exact .arr (by rw [s.nx];exact h1) (by rw [s.nl];exact h2) (by rw [s.cap];exact h3)
 | ptr h1 h2=>rw [←s.ρ];exact .ptr (by rw [s.nx];exact h1) (by rw [s.nl];exact h2)
 | @fn f cap vs h1 h2=>
  cases cap with
  | nil=>exact .fn h1 fun j c v hj=>by simp at hj
  | cons=>cases hc
 | mp h1=>rw [←s.ρ];exact .mp (by rw [s.nx];exact h1)
 | mv=>cases hc
theorem Bd.Il{V V':View}(s:TH V V'){e:E}{v:Value}(h:Bd V e v)(hc:e.Il):Bd V' e v:=by
 cases e with
 | o c=>exact AB.Il s h hc
 | a cs=>obtain⟨vs,h1,h2,h3⟩:=h;exact⟨vs,h1,h2,fun j c v hj hv=>(h3 j c v hj hv).Il s (hc c (List.mem_of_getElem? hj))⟩
 | t xs=>
  obtain⟨vs,h1,h2,h3⟩:=h
  refine⟨vs,h1,h2,fun j x v hj hv=>?_⟩
  have h4:=h3 j x v hj hv
  have h5:=hc x (List.mem_of_getElem? hj)
  obtain⟨b,cs⟩:=x
  cases b
  ·obtain⟨c,h6,h7⟩:=h4
   have h6:cs=[c]:=h6
   subst h6
   exact⟨c,rfl,h7.Il s (h5 c (by simp))⟩
  ·obtain⟨ws,h6,h7,h8⟩:=h4
   exact⟨ws,h6,h7,fun j c v hj hv=>(h8 j c v hj hv).Il s (h5 c (List.mem_of_getElem? hj))⟩
 | e=>exact h
theorem CA.Il{V V':View}(s:TH V V'){id:Nat}{o:O}(h:CA V id o)(hc:o.Il):CA V' id o:=by
 cases o with
 | cells T k rows=>
  rcases h with ⟨h1,h2⟩|⟨h0,cur,h2,h3,h4,h5,h6,h7⟩
  ·exact .inl ⟨by rw [s.nl];exact h1,h2⟩
  ·refine .inr ⟨by rw [s.nl];exact h0,cur,by rw [s.w,s.ρ];exact h2,by rw [s.cap];exact h3,by rw [s.cap];exact h4,by rw [s.cap];exact h5,h6,fun i r j c hi hj=>?_⟩
   obtain⟨v,h8,h9⟩:=h7 i r j c hi hj
   exact⟨v,h8,h9.Il s (hc r (List.mem_of_getElem? hi) c (List.mem_of_getElem? hj))⟩
 | mp es=>obtain⟨h0,ents,clock,h1,h2⟩:=h;exact⟨by rw [s.nl];exact h0,ents,clock,by rw [s.w,s.ρ];exact h1,h2⟩
 | sld T l=>exact⟨by rw [s.nl];exact h.1,by rw [s.w];exact h.2⟩
section
variable {o:Oper}{f:Env}{nx:Nat}
theorem TM{V:View}{S:TJ}(h:Inv TB Γ V σ)(hS:NG TB V σ S):Inv TB (EY (EW V σ) (EW V σ) [] S) (EW V σ) []:=
 ⟨rfl,rfl,rfl,fun _ _ _=>rfl,fun b hb=>by
  rcases hb with hb|⟨id,o,hl,hn,hb⟩
  ·exact h.iLt b hb
  ·exact(h.st.obj id o hl).blt hn hb,fun _ h=>.inl h,Ext.refl _,Es,fun id o ho=>(by cases ho),fun x hx=>⟨.inl (h.tabs x hx).1,(h.tabs x hx).2⟩,⟨S,⟨hS.r,fun b hb=>.inl (hS.ji b hb),fun b hb hi=>hi.elim (hS.bi b hb) fun ⟨id,o,hl,hn,hx⟩=>hS.ap b ⟨id,o,hl,hn,hx⟩ hb,fun b ⟨_,_,h,_⟩=>by cases h⟩,fun b hb=>.inl hb,fun b hb=>.inr (.inr hb)⟩⟩
theorem QZ{V V':View}{σ':Ab}{S:TJ}(h2:Inv TB Γ V σ)(hS:NG TB V σ S)(hSJ:∀b,S.J b→Γ.J b∨Γ.V.w.heap.size≤b∨Γ.F b)(hSB:∀b,S.B b→Γ.V.w.heap.size≤b∨Γ.F b)(he:Ext (EW V σ) V')(hi:Inv TB (EY (EW V σ) (EW V σ) [] S) V' σ')(ho':lG σ') :
 ∃V3,TH V' V3∧Ext V V3∧Inv TB Γ V3 (σ'++σ):=by
 have s:TH V' { V' with I:=fun b=>V.I b∨(V'.I b∧(V.w.heap.size≤b∨S.B b)) } := ⟨rfl,rfl,rfl,rfl,rfl⟩
 have e:Ext V { V' with I:=fun b=>V.I b∨(V'.I b∧(V.w.heap.size≤b∨S.B b)) } := ⟨fun _ h=>.inl h,fun b hb=>he.heap b (.inl hb),he.size,he.ρ,he.cap,he.nl,he.nx⟩
 have bs:∀ {id:Nat} {o:O} {b:Nat},EF { V' with I:=fun b=>V.I b∨(V'.I b∧(V.w.heap.size≤b∨S.B b)) } id o b↔EF V' id o b:=fun {id o b} => by cases o<;>exact Iff.rfl
 have hnew:∀id o,look σ' id=some o→¬V'.nl id→∀b,EF V' id o b→V.w.heap.size≤b∨S.B b:=fun id o ho hn b hb=>by
  rcases hi.live id o ho hn b hb with h|h|h
  ·exact .inl h
  ·obtain⟨_,_,h,_⟩:=h;cases h
  ·exact .inr h
 have hap:∀id o,look σ id=some o→¬V.nl id→∀b,EF V id o b→(V.w.heap.size≤b∨S.B b)→False:=fun id o ho hn b hb h=>by
  rcases h with h|h
  ·have:=(h2.st.obj _ _ ho).blt hn hb;omega
  ·exact hS.ap b ⟨id,o,ho,hn,hb⟩ h
 refine⟨_,s,e,⟨hi.os.trans h2.os,hi.tape.trans h2.tape,hi.output.trans h2.output,fun b hb hf=>(hi.old b (Nat.lt_of_lt_of_le hb h2.ext.size) (fun h=>h.elim (fun ⟨_,_,h,_⟩=>by cases h) fun h=>(hSB b h).elim (fun h=>by omega) hf)).trans (h2.old b hb hf),fun b hb=>?_,fun b hb=>?_,h2.ext.trans e,⟨fun id o ho=>?_,fun id o ho=>?_,fun id o ho hn b hb hI=>?_,fun id id' o o' ho1 ho2 hne hn hn' b hb hb'=>?_⟩,fun id o ho hn b hb=>?_,fun x hx=>⟨.inl (h2.tabs x hx).1,(hi.tabs x hx).2⟩,?_⟩⟩
 ·rcases hb with hb|hb
  ·exact hi.iLt b (he.i b (.inl hb))
  ·exact hi.iLt b hb.1
 ·rcases hb with hb|hb
  ·exact h2.iNew b hb
  ·rcases hb.2 with h|h
   ·exact .inr (.inl (Nat.le_trans h2.ext.size h))
   ·exact .inr (hSB b h)
 ·rcases Cu ho with ho|ho
  ·exact(hi.st.obj id o ho).Il s (ho'.get ho)
  ·exact(h2.st.obj id o ho).AE e (h2.st.lt id o ho) fun hn b hb=>he.heap b (.inr ⟨id,o,ho,hn,hb⟩)
 ·rcases Cu ho with ho|ho
  ·exact hi.st.lt id o ho
  ·exact Nat.lt_of_lt_of_le (h2.st.lt id o ho) he.nx
 ·rcases Cu ho with ho|ho
  ·have h3:=hi.st.free id o ho hn b (bs.1 hb)
   rcases hI with hI|hI
   ·exact h3 (he.i b (.inl hI))
   ·exact h3 hI.1
  ·have hlt:=h2.st.lt id o ho
   have hb:=(Az e hlt).1 hb
   have hn:¬V.nl id:=fun h=>hn ((e.nl id hlt).2 h)
   rcases hI with hI|hI
   ·exact h2.st.free id o ho hn b hb hI
   ·exact hap id o ho hn b hb hI.2
 ·rcases Cu ho1 with ho1|ho1<;>rcases Cu ho2 with ho2|ho2
  ·exact hi.st.inj _ _ _ _ ho1 ho2 hne hn hn' b (bs.1 hb) (bs.1 hb')
  ·have h3:=hnew id o ho1 hn b (bs.1 hb)
   have hlt:=h2.st.lt _ _ ho2
   exact hap _ _ ho2 (fun h=>hn' ((e.nl _ hlt).2 h)) b ((Az e hlt).1 hb') h3
  ·have h3:=hnew id' o' ho2 hn' b (bs.1 hb')
   have hlt:=h2.st.lt _ _ ho1
   exact hap _ _ ho1 (fun h=>hn ((e.nl _ hlt).2 h)) b ((Az e hlt).1 hb) h3
  ·have hlt:=h2.st.lt _ _ ho1
   have hlt':=h2.st.lt _ _ ho2
   exact h2.st.inj _ _ _ _ ho1 ho2 hne (fun h=>hn ((e.nl _ hlt).2 h)) (fun h=>hn' ((e.nl _ hlt').2 h)) b ((Az e hlt).1 hb) ((Az e hlt').1 hb')
 ·rcases Cu ho with ho|ho
  ·rcases hnew id o ho hn b (bs.1 hb) with h|h
   ·exact .inl (Nat.le_trans h2.ext.size h)
   ·exact hSB b h
  ·have hlt:=h2.st.lt _ _ ho
   exact h2.live id o ho (fun h=>hn ((e.nl _ hlt).2 h)) b ((Az e hlt).1 hb)
 ·obtain⟨S1,k1,k2,k3⟩:=hi.hid
  have hB:∀b,S1.B b→V.w.heap.size≤b∨S.B b:=fun b hb=>by
   rcases k3 b hb with h|h|h
   ·exact .inl h
   ·obtain⟨_,_,h,_⟩:=h;cases h
   ·exact .inr h
  refine⟨S1,⟨k1.r,fun b hb=>?_,fun b hb hI=>k1.bi b hb (hI.elim (fun h=>he.i b (.inl h)) fun h=>h.1),fun b ⟨id,o,ho,hn,hb⟩ hB1=>?_⟩,fun b hb=>?_,fun b hb=>?_⟩
  ·rcases k2 b hb with h|h|h|h
   ·exact .inl (hS.ji b h)
   ·exact .inr ⟨k1.ji b hb,.inl h⟩
   ·obtain⟨_,_,h,_⟩:=h;cases h
   ·exact .inr ⟨k1.ji b hb,.inr h⟩
  ·rcases Cu ho with ho|ho
   ·exact k1.ap b ⟨id,o,ho,hn,bs.1 hb⟩ hB1
   ·have hlt:=h2.st.lt _ _ ho
    exact hap _ _ ho (fun h=>hn ((e.nl _ hlt).2 h)) b ((Az e hlt).1 hb) (hB b hB1)
  ·rcases k2 b hb with h|h|h|h
   ·exact hSJ b h
   ·exact .inr (.inl (Nat.le_trans h2.ext.size h))
   ·obtain⟨_,_,h,_⟩:=h;cases h
   ·exact .inr (hSB b h)
  ·rcases hB b hb with h|h
   ·exact .inl (Nat.le_trans h2.ext.size h)
   ·exact hSB b h
theorem Yx{V:View}{a:Act}{L:List (Nat×E)}(h2:Inv TB Γ V σ)(hE:TE σ f L)(h1:IS V o f a):IS (EW V σ) o (look L) a:=fun t e ht he=>by
 obtain⟨y,h3,h4⟩:=hE.get t e he
 exact h4.rel h2 (h1 t y ht h3)
theorem BT.HJ{K:E→Ab→Nat→Prop}(L:List (Nat×E))(hE:TE σ f L)(h:∀Γ',BT P TB Γ' o (look L) [] nx (fun x σ1 nx1=>(E.Il x∧lG σ1)∧K x (σ1++σ) nx1)):BT P TB Γ o f σ nx K:=by
 intro V a h1 h2 h3
 obtain⟨S,hS,hSJ,hSB⟩:=h2.hid
 refine Oper.wp_mono ?_ (h (EY (EW V σ) (EW V σ) [] S) (EW V σ) a (Yx h2 hE h1) (TM h2 hS) h3)
 rintro a' w' ⟨V',v,x,σ',rfl,rfl,he,hi,hx,⟨hxo,hso⟩,hk⟩
 obtain⟨V3,s,e,hi3⟩:=QZ h2 hS hSJ hSB he hi hso
 exact⟨V3,v,x,_,s.w,rfl,e,hi3,hx.Il s hxo,by rw [s.nx];exact hk⟩
theorem AS.HJ{x:E}(L:List (Nat×E))(hE:TE σ f L)(h:∀Γ',AS P TB Γ' o (look L) [] nx x)(hxo:x.Il):AS P TB Γ o f σ nx x:=by
 intro V a h1 h2 h3
 obtain⟨S,hS,hSJ,hSB⟩:=h2.hid
 refine Oper.wp_mono ?_ (h (EY (EW V σ) (EW V σ) [] S) (EW V σ) a (Yx h2 hE h1) (TM h2 hS) h3)
 rintro a' w' ⟨V',v,rfl,rfl,he,hi,hn,hx⟩
 obtain⟨V3,s,e,hi3⟩:=QZ h2 hS hSJ hSB he hi (fun x hx=>by cases hx)
 exact⟨V3,v,s.w,rfl,e,hi3,by rw [s.nx];exact hn,hx.Il s hxo⟩
end
def GO(σ:Ab):List Nat→Ab
 | []=>[]
 | i::r=>match look σ i with
  | some o=>(i,o)::GO σ r
  | none=>GO σ r
theorem Em{σ:Ab}:∀ {ids:List Nat} {id:Nat} {o:O},look (GO σ ids) id=some o→id∈ids∧look σ id=some o
 | [],_,_,h=>by cases h
 | i :: r,id,o,h=>by
  unfold GO at h
  split at h
  ·rename_i o' ho
   rw [Ay] at h
   by_cases hi:i=id
   ·rw [if_pos hi] at h;injection h with h;subst h;subst hi;exact⟨List.mem_cons_self ..,ho⟩
   ·rw [if_neg hi] at h
    have:=Em h
    exact⟨List.mem_cons_of_mem _ this.1,this.2⟩
  ·have:=Em h
   exact⟨List.mem_cons_of_mem _ this.1,this.2⟩
def bg(σi:Ab)(f:Env):List (Nat×E)→Prop
 | []=>True
 | (t,e')::L=>(∃e,f t=some e∧(e=e'∨EZ σi e e'))∧bg σi f L
theorem bg.get{σi:Ab}{f:Env}:∀ {L:List (Nat×E)},bg σi f L→∀t e',look L t=some e'→∃e,f t=some e∧(e=e'∨EZ σi e e')
 | [],_,t,e,h=>by cases h
 | (k,x)::L,hs,t,e,h=>by
  rw [Ay] at h
  by_cases hk:k=t
  ·rw [if_pos hk] at h;injection h with h;subst h;subst hk;exact hs.1
  ·rw [if_neg hk] at h;exact bg.get hs.2 t e h
theorem Au.DE{c:Code}{Q:Exit→Env→Ab→Nat→Prop}{f:Env}{nx:Nat}(ids:List Nat)(L:List (Nat×E))(hE:bg (GO σ ids) f L)(h:Au P TB Γ N c Q (look L) (BN ids σ) nx):Au P TB Γ N c Q f σ nx:=by
 intro V a hr
 have hi:=hr.inv
 have hsub:∀id o,look (GO σ ids) id=some o→look σ id=some o:=fun id o h=>(Em h).2
 have his:Inv TB Γ V (GO σ ids):=hi.sub hsub
 have e:Ext V (EW V (GO σ ids)):=KF
 refine h (EW V (GO σ ids)) a ⟨fun t x hx=>?_,fun t x hx=>?_,hr.size,?_,hr.nx,hr.defers⟩
 ·obtain⟨y,h1,h2⟩:=hE.get t x hx
  rcases h2 with rfl|h2
  ·exact(hr.env t _ h1).ext e
  ·exact h2.rel his (hr.env t y h1)
 ·obtain⟨y,h1,_⟩:=hE.get t x hx
  exact hr.lt t y h1
 ·refine⟨hi.os,hi.tape,hi.output,hi.old,?_,?_,hi.ext.trans e,⟨?_,?_,?_,?_⟩,?_,fun x hx=>⟨.inl (hi.tabs x hx).1,(hi.tabs x hx).2⟩,hi.hid.same rfl (fun _ h=>.inl h) (fun b hb=>hb.elim .inl fun ⟨id,o,hl,hn,he⟩=>.inr ⟨id,o,hsub _ _ hl,hn,he⟩) fun b ⟨id,o,hl,hn,hb⟩=>have h2:=(A2 ids σ id o hl).2;⟨id,o,h2,hn,(Az e (hi.st.lt id o h2)).1 hb⟩⟩
  ·rintro b (hb|⟨id,o,hl,hn,hb⟩)
   ·exact hi.iLt b hb
   ·exact(hi.st.obj id o (hsub _ _ hl)).blt hn hb
  ·rintro b (hb|⟨id,o,hl,hn,hb⟩)
   ·exact hi.iNew b hb
   ·exact .inr (hi.live id o (hsub _ _ hl) hn b hb)
  ·intro id o hl
   have:=(A2 ids σ id o hl).2
   exact(hi.st.obj id o this).AE e (hi.st.lt id o this) fun _ _ _=>rfl
  ·intro id o hl;exact hi.st.lt id o (A2 ids σ id o hl).2
  ·intro id o hl hn b hb' hb
   obtain⟨h1,h2⟩:=A2 ids σ id o hl
   have hb':=(Az e (hi.st.lt id o h2)).1 hb'
   rcases hb with hb|⟨id',o',hl',hn',he⟩
   ·exact hi.st.free id o h2 hn b hb' hb
   ·have h3:=Em hl'
    exact hi.st.inj id id' o o' h2 h3.2 (fun e=>h1 (e ▸ h3.1)) hn hn' b hb' he
  ·intro id id' o o' hl hl' hne hn hn' b hb hb'
   have h2:=(A2 ids σ id o hl).2
   have h2':=(A2 ids σ id' o' hl').2
   exact hi.st.inj id id' o o' h2 h2' hne hn hn' b ((Az e (hi.st.lt id o h2)).1 hb) ((Az e (hi.st.lt id' o' h2')).1 hb')
  ·intro id o hl hn b hb
   have h2:=(A2 ids σ id o hl).2
   exact hi.live id o h2 hn b ((Az e (hi.st.lt id o h2)).1 hb)
theorem FZ.kE{a s:Nat}{T Ta:TypeId}{l:Ga}(ha:look σ a=some (.cells Ta 1 (A6 l)))(hs:look σ s=some (.sld T (sI l))):FZ σ (.arr a 1 0 l.length) (CR (l.map (·.2))):=by
 refine .rows ha (by simp) (Ec l) fun i r' hi=>?_
 simp only [List.getElem?_map,Option.map_eq_some_iff] at hi
 obtain⟨x,⟨y,hy,rfl⟩,rfl⟩:=hi
 refine⟨[.d (.v y.1)],by simp [A6,hy],.cons ?_ .nil⟩
 have h1:FZ σ (.d (.v y.1)) (.l ((y.2.map (Value.int .i64)).map fun x=>[D.v x])):=.sld hs (List.mem_map.2 ⟨y,List.mem_of_getElem? hy,rfl⟩)
 rw [List.map_map] at h1
 exact h1
theorem Au.WW{c:Code}{Q:Exit→Env→Ab→Nat→Prop}{f:Env}{nx:Nat}(a i s:Nat)(l:Ga)(xs:List Int)(ha:look σ a=some (.cells Ta 1 (A6 l++[[.arr i 1 0 xs.length]])))(hi:look σ i=some (.cells T 1 (Lm xs)))(hs:look σ s=some (.sld T (sI l)))
 (h:∀v,Au P TB Γ N c Q f ((a,.cells Ta 1 (A6 (l++[(v,xs)])))::(s,.sld T (sI (l++[(v,xs)])))::kill i σ) nx):Au P TB Γ N c Q f σ nx:=
 Au.put a i s (A6 l) [] xs l [] ha hi (by rw [List.append_nil];exact hs) fun v=>by
  have:=h v
  rw [Lo] at this
  exact this
theorem cQ{l:Ga}{k:Nat}{y:Value×List Int}(h:l[k]? = some y):l=l.take k++y::l.drop (k+1)∧(l.take k).length=k:=by
 obtain⟨hk,rfl⟩:=List.getElem?_eq_some_iff.1 h
 refine⟨?_,by rw [List.length_take];omega⟩
 rw [←List.drop_eq_getElem_cons hk,List.take_append_drop]
theorem Tn{α:Type}{l1 l2:List α}{x y:α}{k:Nat}(h:l1.length=k):(l1++x::l2).set k y=l1++y::l2:=by
 subst h;simp
theorem Au.jx{c:Code}{Q:Exit→Env→Ab→Nat→Prop}{f:Env}{nx:Nat}(a s:Nat)(l:Ga)(k:Nat)(y:Value×List Int)(hk:l[k]? = some y)(ha:look σ a=some (.cells Ta 1 (A6 l)))(hs:look σ s=some (.sld T (sI l)))
 (h:Au P TB Γ N c Q f ((a,.cells Ta 1 ((A6 l).set k [.arr nx 1 0 y.2.length]))::(nx,.cells T 1 (Lm y.2))::(s,.sld T (sI (l.eraseIdx k)))::σ) (nx+1)):Au P TB Γ N c Q f σ nx:=by
 obtain⟨h1,h2⟩:=cQ hk
 obtain⟨v,xs⟩:=y
 have e1:A6 l=A6 (l.take k)++[.d (.v v)]::A6 (l.drop (k+1)):=by
  have:=congrArg A6 h1
  rw [Lo] at this;exact this
 refine Au.take a s (A6 (l.take k)) (A6 (l.drop (k+1))) v xs (l.take k) (l.drop (k+1)) (by rw [←e1];exact ha) (by rw [←h1];exact hs) ?_
 have e2:(A6 l).set k [.arr nx 1 0 xs.length]=A6 (l.take k)++[.arr nx 1 0 xs.length]::A6 (l.drop (k+1)):=by
  rw [e1,Tn (by rw [Ec,h2])]
 have e3:l.eraseIdx k=l.take k++l.drop (k+1):=List.eraseIdx_eq_take_drop_succ ..
 rw [e2,e3] at h
 exact h
theorem Au.putAt{c:Code}{Q:Exit→Env→Ab→Nat→Prop}{f:Env}{nx:Nat}(a i s:Nat)(l:Ga)(k:Nat)(y:Value×List Int)(hk:l[k]? = some y)(xs:List Int)(ha:look σ a=some (.cells Ta 1 ((A6 l).set k [.arr i 1 0 xs.length])))(hi:look σ i=some (.cells T 1 (Lm xs)))(hs:look σ s=some (.sld T (sI (l.eraseIdx k))))
 (h:∀v,Au P TB Γ N c Q f ((a,.cells Ta 1 (A6 (l.set k (v,xs))))::(s,.sld T (sI (l.set k (v,xs))))::kill i σ) nx):Au P TB Γ N c Q f σ nx:=by
 obtain⟨h1,h2⟩:=cQ hk
 have e1:A6 l=A6 (l.take k)++[.d (.v y.1)]::A6 (l.drop (k+1)):=by
  have:=congrArg A6 h1
  rw [Lo] at this;exact this
 rw [e1,Tn (by rw [Ec,h2])] at ha
 rw [show l.eraseIdx k=l.take k++l.drop (k+1) from List.eraseIdx_eq_take_drop_succ ..] at hs
 refine Au.put a i s (A6 (l.take k)) (A6 (l.drop (k+1))) xs (l.take k) (l.drop (k+1)) ha hi hs fun v=>?_
 have h3:l.set k (v,xs)=l.take k++(v,xs)::l.drop (k+1):=by
  have this:l.set k (v,xs)=(l.take k++y::l.drop (k+1)).set k (v,xs):=congrArg (fun m=>List.set m k (v,xs)) h1
  rw [this,Tn h2]
 have:=h v
 rw [h3,Lo] at this
 exact this
theorem AD.A3{g:FuncId}{m nx:Nat}{args:List E}{post:E→Ab→Nat→Prop}
 (h:AD P TB g m σ nx args (fun x σ1 nx1=>∃(l:List Nat) (x':E) (σ2:Ab),((∀i,i < m→l[i]? = some i)∧l.Nodup)∧x=x'.A3 (nm l nx1)∧A7 (nm l nx1) σ1 σ2∧post x' σ2 l.length)):AD P TB g m σ nx args post:=
 ⟨h.1, fun V vs S hg ha=>(h.2 V vs S hg ha).mono fun e w' ⟨V',v,x,σ',h1,h2,h3,h4,l,x',σ2,h5,h6,h7,h8⟩=>by
  have hr:Ci TB (EY V (Kk V m) σ S) 1 V' (look [(0,x)]) σ' V'.nx { tmps:=#[v],defers:=[] } := by
   refine⟨fun t y hy=>?_,fun t y hy=>?_,rfl,h3,rfl,rfl⟩
   ·rw [Ay] at hy
    by_cases ht:0=t
    ·rw [if_pos ht] at hy;injection hy with hy;subst hy;subst ht;exact h4
    ·rw [if_neg ht] at hy;cases hy
   ·rw [Ay] at hy
    by_cases ht:0=t
    ·subst ht;exact Nat.zero_lt_one
    ·rw [if_neg ht] at hy;cases hy
  obtain⟨V'',e1,e2⟩:=hr.A3 l [(0,x')] σ2 h5.1 h5.2 ⟨by rw [←h6];rfl,trivial⟩ h7
  refine⟨V'',v,x',σ2,h1,e1.trans h2,e2.inv,e2.env 0 x' rfl,?_⟩
  rw [e2.nx];exact h8⟩
theorem Nh{m:Nat}{σ σ':Ab}(i:Nat)(hm:m=2 ^ i)(h:look σ' i=look σ i):Kept m σ σ':=fun id hb=>by
 subst hm
 rw [Nat.testBit_two_pow] at hb
 have:i=id:=of_decide_eq_true hb
 subst this;exact h
theorem eR [hT:C5 P] {g:FuncId} {fn:Func} {c:Code} {nx:Nat} {args:List E} {post:E→Ab→Nat→Prop} (hf:P.funcs[g]? = some fn) (hb:fn.body=some c) (hname:(fn.name == "runtime.NumGoroutine")=false)
 (ha:Nat.ble args.length fn.ntmps=true) (h:∀Γ:Ctx,Γ.V.nx=nx→Au P TB Γ fn.ntmps c (bk hT.T fn.results (fun x σ1 nx1=>∃(l:List Nat) (x':E) (σ2:Ab),((∀i,i < nx→l[i]? = some i)∧l.Nodup)∧x=x'.A3 (nm l nx1)∧A7 (nm l nx1) σ1 σ2∧post x' σ2 l.length)) (look (Ce 0 args)) σ nx):Spec P TB g σ nx args post:=
 AD.Hv (AD.A3 (AD.P6 (Nat.le_refl _) hf hb hname (Nat.le_of_ble_eq_true ha) h))
end
theorem cN:(∀(r:Nat→Nat) (l:Ga),(A6 l).map (C.BB r)=A6 l)∧(∀(α:Type) (b:Bool) (x y:α),(bif b then x else y)=if b=true then x else y)∧∀a b:Nat,(Nat.beq a b=true)=(a=b):=
 ⟨dA,fun _ b _ _=>by cases b<;>rfl,fun _ _=>Nat.beq_eq⟩
end Go.Am
namespace Go.Am
open Go
set_option linter.unusedVariables false
variable {TB:Bt}
section
variable {P:Program}{Γ:Ctx}{d:Option Tmp}{ty:TypeId}{pos:String}{af:Array Edge}{g:Option (Nat×Bool)}{f:Env}{σ:Ab}{nx:Nat}
theorem da{t:TypeId}{z:List Value}{fl:List (Nat×Nat)}{parts:Array (Nat×Operand)}{es:List E}{qs:List (Nat×List C)}[hz:BM P t z][hf:ED P t fl](hes:JP f (parts.toList.map (·.2))=some es)(hq:FD fl parts.toList es=some qs)
 (hok:z.all PA=true) (hle:(qs.all fun x=>Nat.ble (x.1+x.2.length) z.length)=true):AS P TB Γ ⟨d,.build t parts,ty,pos,af,g⟩ f σ nx (.a (Bi qs (z.map fun v=>C.d (.v v)))):=
 AJ fun V ρ h1 _=>by
  obtain⟨i,zv,hi,hzv,hzz⟩:=Hw hz.out
  have hfo:=De (V:=V) (ρ:=ρ) parts.toList es qs (fun x hx e he=>h1.get (by simp only [Op.operands];simpa using hx) he) hes hq
  have hzr:C7 V (z.map fun v=>C.d (.v v)) zv.cells:=by
   refine⟨by rw [List.length_map,←hzz];simp,fun j c v hj hv=>?_⟩
   simp only [List.getElem?_map,Option.map_eq_some_iff] at hj
   obtain⟨u,hu,rfl⟩:=hj
   have:u=v:=by
    rw [←hzz] at hu
    simp only [Array.getElem?_toList] at hu
    rw [hu] at hv;exact Option.some.inj hv
   subst this
   exact .d (.v (List.all_eq_true.1 hok u (List.mem_of_getElem? hu)))
  obtain⟨cells,h3,h4⟩:=GA _ _ _ _ hfo hzr (fun x hx=>by rw [List.length_map];exact IY _ _ hle x hx)
  have hh:=hf.out
  have hparts:(parts.map fun (i,x)=>(i,ρ x)).toList=parts.toList.map fun (i,x)=>(i,ρ x):=by simp
  refine⟨.agg cells,?_,cells,rfl,h4⟩
  have hb : (Instr.build t (parts.map fun (i,x)=>(i,ρ x))).run P V.w=.ok (.agg cells) V.w:=by
   unfold kl at hh
   split at hh
   ·rename_i fs hu
    have hpl:∀(l:List Field) (ll:List (Nat×Nat)),(l.mapM fun f=>(P.info? f.type).map fun i=>(f.offset,i.size))=some ll→∀w,((l.mapM fun f=>do pure (f.offset,←sizeOf f.type)):Sem (List (Nat×Nat))).run P w=.ok ll w:=by
     intro l
     induction l with
     | nil=>intro ll h w;simp at h;subst h;simp [go_sem]
     | cons y l ih=>
      intro ll h w
      simp only [List.mapM_cons,Option.bind_eq_bind,Option.bind_eq_some_iff,Option.map_eq_some_iff] at h
      obtain⟨p,⟨ii,hii,rfl⟩,ll',h5,h6⟩:=h
      simp at h6
      subst h6
      have hs:(sizeOf y.type).run P w=.ok ii.size w:=by simp [sizeOf,typeInfo,hii,go_sem]
      have ihh:=ih ll' h5 w
      simp only [bind_pure_comp] at ihh
      simp only [List.mapM_cons,Sem.run_bind,hs,Result.andThen_ok,bind_pure_comp,Sem.run_map,ihh]
    have hpl2:=hpl fs.toList fl hh V.w
    have hz0:(zeroValue t).run P V.w=.ok zv V.w:=by simp [zeroValue,typeInfo,hi,hzv,go_sem]
    have ha:((fs.mapM fun f=>do pure (f.offset,←sizeOf f.type)):Sem (Array (Nat×Nat))).run P V.w=.ok fl.toArray V.w:=by
     rw [Array.mapM_eq_mapM_toList,Sem.run_map,hpl2];rfl
    rw [←hparts] at h3
    simp only [Instr.build,Sem.run_bind,hz0,Result.andThen_ok,run_underlying hu,ha]
    simp only [List.getElem?_toArray]
    rw [h3]
    rfl
   ·rename_i n e hu
    simp only [Option.map_eq_some_iff] at hh
    obtain⟨ii,hii,rfl⟩:=hh
    have hz0:(zeroValue t).run P V.w=.ok zv V.w:=by simp [zeroValue,typeInfo,hi,hzv,go_sem]
    have hs:(sizeOf e).run P V.w=.ok ii.size V.w:=by simp [sizeOf,typeInfo,hii,go_sem]
    have hfill:∀(ps:List (Nat×Value)) (c c':Array Value),Instr.fill (fun i=>((List.range n).map fun j=>(j*ii.size,ii.size))[i]?) c ps=some c'→Instr.fill (fun i=>some (i*ii.size,ii.size)) c ps=some c':=by
     intro ps
     induction ps with
     | nil=>intro c c' h;simpa [Instr.fill] using h
     | cons p ps ih=>
      intro c c' h
      obtain⟨i',v'⟩:=p
      unfold Instr.fill at h ⊢
      by_cases hlt:i' < n
      ·simp only [List.getElem?_map,List.getElem?_range hlt,Option.map_some] at h
       simp only at h ⊢
       split at h
       ·cases h
       ·rename_i hno
        rw [if_neg hno];exact ih _ _ (by simpa only [List.getElem?_map] using h)
      ·simp [hlt] at h
    rw [←hparts] at h3
    simp only [Instr.build,Sem.run_bind,hz0,Result.andThen_ok,run_underlying hu,hs]
    rw [hfill _ _ _ h3]
    rfl
   ·cases hh
  show ((do let v ←Instr.build t (parts.map fun (i,x)=>(i,ρ x));pure (Go.Next.value v):Sem Go.Next)).run P V.w=_
  simp only [Sem.run_bind,hb,Result.andThen_ok]
  rfl
end
theorem ky{P:Program}{Γ:Ctx}{o:Oper}{L:List (Nat×E)}{σ:Ab}{nx:Nat}{K:E→Ab→Nat→Prop}{b:Option Addr}(t:Tmp)(hx:look L t=some (.o (.d (.v (.slice b 0 0)))))(h:BT P TB Γ o (look ((t,.e)::L)) σ nx K):BT P TB Γ o (look L) σ nx K:=by
 intro V a h1 h2 h3
 refine h V a ?_ h2 h3
 intro t' e' ht' he'
 rw [Ay] at he'
 by_cases he:t=t'
 ·subst he
  rw [if_pos rfl] at he'
  injection he' with he'
  subst he'
  exact⟨b,AB.val (h1 t _ ht' hx)⟩
 ·rw [if_neg he] at he'
  exact h1 t' e' ht' he'
theorem cZ{P:Program}{Γ:Ctx}{ops:Array Oper}{fl:Fl}{i n:Nat}{L:List (Nat×E)}{σ:Ab}{nx:Nat}{K:Env→Ab→Nat→Prop}{op:Op}{ty:TypeId}{pos:String}{af:Array Edge}{g:Option (Nat×Bool)}
 (h:BT P TB Γ ⟨none,op,ty,pos,af,g⟩ (look L) σ nx (fun _ σ' nx'=>Kept (fl i - 1000) σ σ'∧Lex P TB Γ ops (Aj fl (i+1) n) K (look L) σ' nx')) (hg:Bw ops ⟨none,op,ty,pos,af,g⟩ (look L)=some true) (hf:Nat.ble 10 (fl i)=true∧Nat.ble 1000 (fl i)=true):Bc P TB Γ ops ⟨none,op,ty,pos,af,g⟩ fl i n K L σ nx:=
 fun ho=>YL ho hg hf h
end Go.Am
namespace Go.Am
open Go
def LV(q:IntKind)(l:List Int):Value:=.agg (l.map (Value.int q)).toArray
abbrev mO(q:IntKind)(l:List Int):List C:=l.map fun x=>.d (.v (.int q x))
abbrev fh(q:IntKind)(l:List Int):E:=.a (mO q l)
theorem Yu{q:IntKind}{a b:List Int}:LV q a=LV q b↔a=b:=by
 unfold LV
 constructor
 ·intro h
  injection h with h
  have h:=congrArg Array.toList h
  simp only at h
  exact(List.map_inj_right (fun x y h=>by injection h)).1 h
 ·rintro rfl;rfl
theorem K1{V:View}{q:IntKind}{l:List Int}{v:Value}(h:Bd V (fh q l) v):v=LV q l:=by
 obtain⟨vs,rfl,h2,h3⟩:=h
 unfold LV
 congr 1
 apply Array.ext
 ·simpa using h2
 ·intro i h4 h5
  have h6:i < l.length:=by simpa using h5
  have:=AB.val (h3 i (.d (.v (.int q l[i]))) vs[i] (by simp [List.getElem?_eq_getElem h6]) (Array.getElem?_eq_getElem h4))
  rw [this];simp
class Gn (P:Program) (t:TypeId) (n:outParam Nat) (q:outParam IntKind):Prop where
 u:∃e,WideMaps.ArrKey P t e n∧P.underlying e=some (.int q)
 eg:P.eqGuardType P.depth t=false
 sz:P.types.size≠0
section
variable {P:Program}{t:TypeId}{n:Nat}{q:IntKind}
theorem mapM_some{α β:Type}{f:α→Option β}:∀ {l:List α},(∀x∈l,∃y,f x=some y)→∃ys,l.mapM f=some ys
 | [],_=>⟨[],rfl⟩
 | x::l,h=>by
  obtain⟨y,hy⟩:=h x (by simp)
  obtain⟨ys,hys⟩:=mapM_some (l:=l) (fun z hz=>h z (by simp [hz]))
  exact⟨y::ys,by rw [List.mapM_cons,hy,hys];rfl⟩
theorem Gn.key(h:Gn P t n q){l:List Int}(hl:l.length=n)(hw:∀x∈l,(Lit.int q x).wf=true):∃lx,keyOf P t (LV q l)=some lx:=by
 obtain⟨e,hA,he⟩:=h.u
 obtain⟨m,hm⟩:=Nat.exists_eq_succ_of_ne_zero h.sz
 have hm:P.types.size=m+1:=hm
 have h1:∀i∈List.range n,∃y,P.keyLits (m+1) e ((((l.map (Value.int q)).toArray.toList).drop (i*P.cellsOf e)).take (P.cellsOf e))=some y:=fun i hi=>by
  have hi:i < n:=List.mem_range.1 hi
  rw [hA.one,Nat.mul_one]
  obtain⟨x,hx⟩:∃x,l[i]? = some x:=⟨l[i],List.getElem?_eq_getElem (by omega)⟩
  have h2:(((l.map (Value.int q)).toArray.toList).drop i).take 1=[Value.int q x]:=by
   have h3:(l.map (Value.int q))[i]? = some (Value.int q x):=by simp [hx]
   obtain⟨h4,h5⟩:=List.getElem?_eq_some_iff.1 h3
   simp only
   rw [List.drop_eq_getElem_cons h4,h5]
   rfl
  rw [h2]
  refine⟨[.int q x],?_⟩
  unfold Program.keyLits
  simp [he,hw x (List.mem_of_getElem? hx)]
 obtain⟨ys,hys⟩:=mapM_some h1
 have h6:P.keyLits (P.types.size+1) t (LV q l).cells.toList=some ys.flatten:=by
  rw [hm]
  show P.keyLits (m+1+1) t (l.map (Value.int q)).toArray.toList=_
  unfold Program.keyLits
  simp only [hA.hu]
  rw [if_pos (by rw [hA.size];simp [hl])]
  rw [hys];rfl
 have hf:(LV q l).formed P t=true:=by simp [LV,Value.formed,hA.hu,hA.size,hl]
 unfold keyOf
 rw [hA.hu]
 simp only
 rw [if_pos (by rw [hA.keyType ⟨m,hm⟩,hf];rfl),h6]
 exact⟨_,rfl⟩
theorem Gn.law(h:Gn P t n q):WideMaps.KeyLaw P t:=by
 obtain⟨e,hA,he⟩:=h.u
 exact hA.law
theorem Gn.run_eq(h:Gn P t n q){a b:List Int}(ha:a.length=n)(hb:b.length=n)(hwa:∀x∈a,(Lit.int q x).wf=true)(hwb:∀x∈b,(Lit.int q x).wf=true)(w:World):(Op.equal t (LV q a) (LV q b)).run P w=.ok (decide (a=b)) w:=by
 obtain⟨lx,hx⟩:=h.key ha hwa
 obtain⟨ly,hy⟩:=h.key hb hwb
 obtain⟨e,hA,he⟩:=h.u
 obtain⟨r,h1,h2⟩:=run_equal_deep w (m:=2) (by omega) (hA.at 0) hA.wide hx hy
 rw [h1]
 congr 1
 rw [Bool.eq_iff_iff,h2,decide_eq_true_eq]
 refine⟨fun h3=>Yu.1 (h.law.inj hx (by rw [h3];exact hy)),fun h3=>?_⟩
 subst h3
 rw [hx] at hy
 injection hy
end
section
variable {P:Program}{TB:Bt}{Γ:Ctx}{d:Option Tmp}{ty:TypeId}{pos:String}{af:Array Edge}{g:Option (Nat×Bool)}{f:Env}{σ:Ab}{nx:Nat}
variable {K:E→Ab→Nat→Prop}{t:TypeId}{n:Nat}{q:IntKind}
theorem Ln{x y:Operand}{l:List Int}{k:IntKind}{i:Int}{v:Int}[h:Gn P t n q](hx:ev f x=some (fh q l))(hy:ev f y=some (eI k i))(hn:l.length=n)(h0:0≤i)(hv:l[i.toNat]? = some v) :
 AS P TB Γ ⟨d,.index t x y,ty,pos,af,g⟩ f σ nx (eI q v):=
 AJ fun V ρ h1 _=>by
  have h2:=K1 (h1.get (by simp [Op.operands]) hx)
  have h3:ρ y=.int k i:=AB.val (h1.get (by simp [Op.operands]) hy)
  obtain⟨e,hA,he⟩:=h.u
  obtain⟨inf,hi⟩:=info_of_underlying he
  have h4:inf.size=1:=by have:=hA.one;simpa [Program.cellsOf,hi] using this
  have hlt:=(List.getElem?_eq_some_iff.1 hv).1
  have h5:i < (n:Int):=by omega
  refine⟨.int q v,?_,.d (.v rfl)⟩
  have h6:(l.map (Value.int q)).toArray[i.toNat]? = some (.int q v):=by simp [hv]
  have h7:(isAgg e).run P V.w=.ok false V.w:=by simp [isAgg,run_underlying he,go_sem]
  simp [execOp,h2,h3,LV,Instr.index,asIntOf,run_underlying hA.hu,h0,h5,part,h7,sizeOf,typeInfo,hi,h4,hv,go_sem]
theorem kP{yt:TypeId}{x y:Operand}{a b:List Int}[h:Gn P t n q](hx:ev f x=some (fh q a))(hy:ev f y=some (fh q b))(ha:a.length=n)(hb:b.length=n)(hwa:∀x∈a,(Lit.int q x).wf=true)(hwb:∀x∈b,(Lit.int q x).wf=true) :
 AS P TB Γ ⟨d,.binOp .eql t x y yt,ty,pos,af,g⟩ f σ nx (eB (decide (a=b))):=
 AJ fun V ρ h1 _=>by
  have h2:=K1 (h1.get (x:=x) (by simp [Op.operands]) hx)
  have h3:=K1 (h1.get (x:=y) (by simp [Op.operands]) hy)
  refine⟨.bool (decide (a=b)),?_,.d (.v rfl)⟩
  have h6:binOp .eql t (LV q a) (LV q b)=(do pure (.bool (←Op.equal t (LV q a) (LV q b)))):=rfl
  have h7:(eqGuard .eql t x y (LV q a) (LV q b)).run P V.w=.ok () V.w:=by
   unfold eqGuard LV
   simp [h.eg,go_sem]
  simp [execOp,h2,h3,h6,h7,h.run_eq ha hb hwa hwb V.w,go_sem]
def mapA(q:IntKind)(l:List (List Int×Int)):List (Value×Value):=l.map fun p=>(LV q p.1,.int .i64 p.2)
def DM:List (List Int×Int)→List Int→Option Int
 | [],_=>none
 | p::l,s=>if p.1=s then some p.2 else DM l s
theorem Ii:∀ {l:List (List Int×Int)} {s:List Int},DM l s=none↔∀p∈l,p.1≠s
 | [],s=>by simp [DM]
 | p::l,s=>by
  unfold DM
  split
  ·rename_i h;simp [h]
  ·rename_i h;rw [Ii (l:=l)];simp [h]
theorem Mj:∀ {l:List (List Int×Int)} {p:List Int×Int},l.Pairwise (fun a b=>a.1≠b.1)→p∈l→DM l p.1=some p.2
 | [],p,_,h=>by cases h
 | x :: l,p,hd,h=>by
  unfold DM
  rcases List.mem_cons.1 h with rfl|h
  ·rw [if_pos rfl]
  ·rw [if_neg ((List.pairwise_cons.1 hd).1 p h)]
   exact Mj (List.pairwise_cons.1 hd).2 h
def QD(n:Nat)(q:IntKind)(l:List (List Int×Int)):Prop:=∀p∈l,p.1.length=n∧∀x∈p.1,(Lit.int q x).wf=true
theorem QO[h:Gn P t n q]{l:List (List Int×Int)}{es:List MapEntry}{s:List Int}(hl:QD n q l)(hes:es.map (fun e=>(e.key,e.val))=mapA q l)(hs:s.length=n)(hw:∀x∈s,(Lit.int q x).wf=true)(hd:l.Pairwise (fun a b=>a.1≠b.1))(w:World) :
 ∃r,(Instr.findKey t (LV q s) es).run P w=.ok r w∧r.map (·.2)=(DM l s).map (.int .i64):=by
 obtain⟨lx,hx⟩:=h.key hs hw
 have hmem:∀e∈es,∃p∈l,e.key=LV q p.1∧e.val=.int .i64 p.2:=fun e he=>by
  have:(e.key,e.val)∈mapA q l:=by rw [←hes];exact List.mem_map.2 ⟨e,he,rfl⟩
  obtain⟨p,h1,h2⟩:=List.mem_map.1 this
  injection h2 with h2 h3
  exact⟨p,h1,h2.symm,h3.symm⟩
 rcases h.law.find w hx es (fun e he=>by
  obtain⟨p,h1,h2,_⟩:=hmem e he
  rw [h2];exact h.key (hl p h1).1 (hl p h1).2) with ⟨h1,h2⟩|⟨j,e,h1,h2,h3⟩
 ·refine⟨none,h1,?_⟩
  have:DM l s=none:=Ii.2 fun p hp he=>by
   have h4:(LV q p.1,Value.int .i64 p.2)∈es.map (fun e=>(e.key,e.val)):=by rw [hes];exact List.mem_map.2 ⟨p,hp,rfl⟩
   obtain⟨e,h5,h6⟩:=List.mem_map.1 h4
   injection h6 with h6 h7
   exact h2 e h5 (by rw [h6,he])
  rw [this];rfl
 ·refine⟨_,h1,?_⟩
  obtain⟨p,h4,h5,h6⟩:=hmem e (List.mem_of_getElem? h2)
  have h7:p.1=s:=Yu.1 (by rw [←h5,h3])
  rw [←h7,Mj hd h4,h6];rfl
theorem OA[h:Gn P t n q]{s:List Int}(hs:s.length=n)(hw:∀x∈s,(Lit.int q x).wf=true)(b:Bool)(w:World):(Instr.checkKey b 10000 t (LV q s)).run P w=.ok () w:=by
 obtain⟨lx,hx⟩:=h.key hs hw
 exact h.law.check w b hx
theorem YP{m e:TypeId}{x y:Operand}{id:Nat}{l:List (List Int×Int)}{s:List Int}[hm:KB P m t e][h:Gn P t n q][hz:QB P e (.int .i64 0)](hx:ev f x=some (.o (.mp id)))(hy:ev f y=some (fh q s))(ho:look σ id=some (.mp (mapA q l)))
 (hl:QD n q l) (hd:l.Pairwise (fun a b=>a.1≠b.1)) (hs:s.length=n) (hw:∀x∈s,(Lit.int q x).wf=true) :
 AS P TB Γ ⟨d,.lookup m x y true,ty,pos,af,g⟩ f σ nx (.t [(false,[.d (.v (.int .i64 ((DM l s).getD 0)))]),(false,[.d (.v (.bool (DM l s).isSome))])]):=
 AJ fun V ρ hr hi=>by
  have e1:=hr.get (by simp [Op.operands]) hx
  have e2:ρ y=LV q s:=K1 (hr.get (by simp [Op.operands]) hy)
  generalize hv:ρ x=v at e1
  cases e1 with
  | mp hid =>
   obtain⟨hn,ents,clock,h1,h2⟩:=hi.st.obj id _ ho
   obtain⟨r,hfk,h4⟩:=QO (P:=P) (t:=t) (es:=ents.toList) hl h2 hs hw hd V.w
   have hzz:=hz.out
   simp only [Option.bind_eq_some_iff] at hzz
   obtain⟨i,hi1,hz1⟩:=hzz
   have hzv:(zeroValue e).run P V.w=.ok (.int .i64 0) V.w:=by simp [zeroValue,typeInfo,hi1,hz1,go_sem]
   have hck:=OA (P:=P) (t:=t) hs hw ents.isEmpty V.w
   refine⟨.tuple #[.int .i64 ((DM l s).getD 0),.bool (DM l s).isSome],?_,⟨_,rfl,rfl,fun j x v hj hv=>?_⟩⟩
   ·cases r with
    | none=>
     have h5:DM l s=none:=by simpa using h4.symm
     simp [execOp,hv,e2,Instr.lookup,run_underlying hm.out,MapKept.run_getObj_map h1,hck,hfk,hzv,h5,go_sem]
    | some p=>
     obtain⟨n,h5,h6⟩:∃n,DM l s=some n∧p.2=.int .i64 n:=by
      cases hf:DM l s with
      | none=>rw [hf] at h4;simp at h4
      | some n=>rw [hf] at h4;exact⟨n,rfl,by simpa using h4⟩
     obtain⟨q1,q2⟩:=p
     simp only at h6
     subst h6
     simp [execOp,hv,e2,Instr.lookup,run_underlying hm.out,MapKept.run_getObj_map h1,hck,hfk,h5,go_sem]
   ·match j with
    | 0=>simp at hj hv;subst hj;subst hv;exact⟨_,rfl,.d (.v rfl)⟩
    | 1=>simp at hj hv;subst hj;subst hv;exact⟨_,rfl,.d (.v rfl)⟩
    | j+2=>simp at hj
theorem iP{m e:TypeId}{x y z:Operand}{id:Nat}{l:List (List Int×Int)}{s:List Int}{v:Int}[hm:KB P m t e][h:Gn P t n q](hx:ev f x=some (.o (.mp id)))(hy:ev f y=some (fh q s))(hz:ev f z=some (eI .i64 v))(ho:look σ id=some (.mp (mapA q l)))
 (hl:QD n q l) (hd:l.Pairwise (fun a b=>a.1≠b.1)) (hs:s.length=n) (hw:∀x∈s,(Lit.int q x).wf=true) (hn:DM l s=none) (hK:K (.t []) ((id,.mp (mapA q (l++[(s,v)])))::σ) nx):BT P TB Γ ⟨d,.mapUpdate m x y z,ty,pos,af,g⟩ f σ nx K:=by
 intro V a h1 h2 h3
 have h1:=h1.HF
 unfold Oper.wp
 generalize a.eval=ρ at h1 ⊢
 have e1:=h1.get (x:=x) (by simp [Op.operands]) hx
 have e2:ρ y=LV q s:=K1 (h1.get (by simp [Op.operands]) hy)
 have e3:ρ z=.int .i64 v:=AB.val (h1.get (by simp [Op.operands]) hz)
 generalize hv:ρ x=vx at e1
 cases e1 with
 | mp hid=>
  obtain⟨hnl,ents,clock,h4,h5⟩:=h2.st.obj id _ ho
  obtain⟨r,hfk,h7⟩:=QO (P:=P) (t:=t) (es:=ents.toList) hl h5 hs hw hd V.w
  rw [hn] at h7
  have hr:r=none:=by cases r with
   | none=>rfl
   | some q=>simp at h7
  subst hr
  have hck:=OA (P:=P) (t:=t) hs hw false V.w
  let ob:Obj:=.map (ents.push { key:=LV q s,val:=.int .i64 v,born:=clock }) (clock+1)
  let w':World:={ V.w with heap:=V.w.heap.setIfInBounds (V.ρ id) ob }
  have hset:=MapKept.run_setObj_map (P:=P) ob h4
  have hlt:=(Array.getElem?_eq_some_iff.1 h4).1
  obtain⟨hi,he⟩:=h2.write ho hnl (w:=w') (ob':=.mp (mapA q (l++[(s,v)]))) rfl rfl rfl rfl rfl (by simp [w']) (fun b hb=>by simp [w',Array.getElem?_setIfInBounds,Ne.symm hb]) (by
   refine⟨hnl,ents.push { key:=LV q s,val:=.int .i64 v,born:=clock },clock+1,?_,?_⟩
   ·show w'.heap[V.ρ id]? = some ob
    simp [w',Array.getElem?_setIfInBounds,hlt]
   ·simp [mapA] at h5 ⊢
    exact h5)
  have hrun:(execOp ρ ⟨d,.mapUpdate m x y z,ty,pos,af,g⟩).run P V.w=.ok .skip w':=by
   simp [execOp,hv,e2,e3,Instr.mapUpdate,run_underlying hm.out,MapKept.run_getObj_map h4,hck,hfk,hset,ob,w',go_sem]
  rw [hrun]
  exact⟨{ V with w:=w' },.tuple #[],.t [],_,rfl,rfl,he,hi,⟨#[],rfl,rfl,fun j x v hj=>by simp at hj⟩,by rw [←h3] at hK;exact hK⟩
end
end Go.Am
namespace Go.Am
open Go Go.Proofs
set_option maxHeartbeats 1000000
attribute [local irreducible] AS BT Lex Bc Au Spec
variable {TB:Bt}
end Go.Am
