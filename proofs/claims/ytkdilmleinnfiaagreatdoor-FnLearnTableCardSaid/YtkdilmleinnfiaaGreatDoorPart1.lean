/-
  A machine of pure data over the kit's machine: values without addresses, their reading in a world, the walk of code over them, any order of a region that draws.
-/
import Derived.Still
import Derived.Laws.AppendOwn
set_option linter.constructorNameAsVariable false
set_option linter.unusedSectionVars false
set_option linter.unusedSimpArgs false
set_option linter.unusedVariables false
namespace Go.Am
open Go
inductive D where
 | v (x:Value)
 | l (rows:List (List D))
 | p (cells:List D)
inductive C where
 | d (x:D)
 | arr (id k off len:Nat)
 | ptr (id k i j:Nat)
 | fn (f:FuncId) (cap:List C)
 | mp (id:Nat)
 | mv (f:FuncId) (recv:List C)
abbrev C.ip(cells:List D):C:=.d (.p cells)
inductive E where
 | o (c:C)
 | a (cs:List C)
 | t (xs:List (Bool×List C))
 | e
def Lq:Value→Bool
 | .bool _|.int ..|.float ..|.complex ..|.string _|.pointer _|.map none|.chan none|.nilFunc|.nilIface|.slice .. => true
 | .func (.func _) ⟨[]⟩ ⟨[]⟩=>true
 | _=>false
structure View where
 I:Nat→Prop
 ρ:Nat→Nat
 cap:Nat→Nat
 nl:Nat→Prop
 nx:Nat
 w:World
inductive Cn (I:Nat→Prop) (w:World):D→Value→Prop
 | v {x:Value}:Lq x=true→Cn I w (.v x) x
 | nil:Cn I w (.l []) (.slice none 0 0)
 | e {a:Addr} {cap:Nat}:cap≤maxLen→Cn I w (.l []) (.slice (some a) 0 cap)
 | l {rows:List (List D)} {b o k cap:Nat} {vs:Nat→Nat→Value}:I b→rows.length≤cap→cap≤maxLen→
  (∀(i:Nat) (r:List D),rows[i]? = some r→r.length=k)→
  (∀(i:Nat) (r:List D) (j:Nat) (d:D),rows[i]? = some r→r[j]? = some d→w.cell? ⟨b,o+i*k+j,none⟩=some (vs i j))→
  (∀(i:Nat) (r:List D) (j:Nat) (d:D),rows[i]? = some r→r[j]? = some d→Cn I w d (vs i j))→
  Cn I w (.l rows) (.slice (some ⟨b,o,none⟩) rows.length cap)
 | p {cells:List D} {b o:Nat} {vs:Nat→Value}:I b→(∀(j:Nat) (d:D),cells[j]? = some d→w.cell? ⟨b,o+j,none⟩=some (vs j))→(∀(j:Nat) (d:D),cells[j]? = some d→Cn I w d (vs j))→
  Cn I w (.p cells) (.pointer (some ⟨b,o,none⟩))
theorem KE{w w':World}{b:Nat}(h:w'.heap[b]? = w.heap[b]?)(o:Nat):w'.cell? ⟨b,o,none⟩=w.cell? ⟨b,o,none⟩:=by
 simp [World.cell?,h]
theorem Cn.mono{I I':Nat→Prop}{w w':World}{d:D}{v:Value}(hI:∀b,I b→I' b)(hw:∀b,I b→w'.heap[b]? = w.heap[b]?)(h:Cn I w d v):Cn I' w' d v:=by
 induction h with
 | v h=>exact .v h
 | nil=>exact .nil
 | e h=>exact .e h
 | @l rows b o k cap vs hb h1 h2 h3 h4 _ ih=>
  exact .l (hI b hb) h1 h2 h3 (fun i r j d hi hj=>by rw [KE (hw b hb)];exact h4 i r j d hi hj) (fun i r j d hi hj=>ih i r j d hi hj)
 | @p cells b o vs hb h1 _ ih=>exact .p (hI b hb) (fun j d hj=>by rw [KE (hw b hb)];exact h1 j d hj) (fun j d hj=>ih j d hj)
inductive AI (V:View):C→Value→Prop
 | d {x:D} {v:Value}:Cn V.I V.w x v→AI V (.d x) v
 | nil {id k:Nat}:id < V.nx→V.nl id→AI V (.arr id k 0 0) (.slice none 0 0)
 | arr {id k off len:Nat}:id < V.nx→¬V.nl id→off+len≤V.cap id→AI V (.arr id k off len) (.slice (some ⟨V.ρ id,off*k,none⟩) len (V.cap id - off))
 | ptr {id k i j:Nat}:id < V.nx→¬V.nl id→AI V (.ptr id k i j) (.pointer (some ⟨V.ρ id,i*k+j,none⟩))
 | fn {f:FuncId} {cap:List C} {vs:Array Value}:vs.size=cap.length→(∀(j:Nat) (c:C) (v:Value),cap[j]? = some c→vs[j]? = some v→AI V c v)→AI V (.fn f cap) (.func (.func f) #[] vs)
 | mp {id:Nat}:id < V.nx→AI V (.mp id) (.map (some (V.ρ id)))
 | mv {f:FuncId} {recv:List C} {vs:Array Value}:vs.size=recv.length→(∀(j:Nat) (c:C) (v:Value),recv[j]? = some c→vs[j]? = some v→AI V c v)→AI V (.mv f recv) (.func (.func f) vs #[])
theorem AI.ip{V:View}{cells:List D}{b o:Nat}{vs:Nat→Value}(hb:V.I b)(h1:∀(j:Nat) (d:D),cells[j]? = some d→V.w.cell? ⟨b,o+j,none⟩=some (vs j))(h2:∀(j:Nat) (d:D),cells[j]? = some d→Cn V.I V.w d (vs j)) :
 AI V (.ip cells) (.pointer (some ⟨b,o,none⟩)):=.d (.p hb h1 h2)
theorem Cn.val{I:Nat→Prop}{w:World}{x v:Value}(h:Cn I w (.v x) v):v=x:=by cases h;rfl
theorem AI.val{V:View}{x v:Value}(h:AI V (.d (.v x)) v):v=x:=by cases h with|d h=>exact h.val
structure Ext (V V':View):Prop where
 i:∀b,V.I b→V'.I b
 heap:∀b,V.I b→V'.w.heap[b]? = V.w.heap[b]?
 size:V.w.heap.size≤V'.w.heap.size
 ρ:∀id,id < V.nx→V'.ρ id=V.ρ id
 cap:∀id,id < V.nx→V'.cap id=V.cap id
 nl:∀id,id < V.nx→(V'.nl id↔V.nl id)
 nx:V.nx≤V'.nx
theorem Ext.refl(V:View):Ext V V:=⟨fun _ h=>h,fun _ _=>rfl,Nat.le_refl _,fun _ _=>rfl,fun _ _=>rfl,fun _ _=>Iff.rfl,Nat.le_refl _⟩
theorem Ext.trans{A B C:View}(h:Ext A B)(k:Ext B C):Ext A C:=
 ⟨fun b hb=>k.i b (h.i b hb),fun b hb=>(k.heap b (h.i b hb)).trans (h.heap b hb),Nat.le_trans h.size k.size,
  fun i hi=>(k.ρ i (Nat.lt_of_lt_of_le hi h.nx)).trans (h.ρ i hi),fun i hi=>(k.cap i (Nat.lt_of_lt_of_le hi h.nx)).trans (h.cap i hi),fun i hi=>(k.nl i (Nat.lt_of_lt_of_le hi h.nx)).trans (h.nl i hi),Nat.le_trans h.nx k.nx⟩
theorem Cn.ext{V V':View}{d:D}{v:Value}(e:Ext V V')(h:Cn V.I V.w d v):Cn V'.I V'.w d v:=h.mono e.i e.heap
theorem AI.ext{V V':View}{c:C}{v:Value}(e:Ext V V')(h:AI V c v):AI V' c v:=by
 induction h with
 | d h=>exact .d (h.ext e)
 | @nil id k h1 h2=>exact .nil (Nat.lt_of_lt_of_le h1 e.nx) ((e.nl id h1).2 h2)
 | @arr id k off len h1 h0 h2=>rw [←e.ρ id h1,←e.cap id h1];exact .arr (Nat.lt_of_lt_of_le h1 e.nx) (fun h=>h0 ((e.nl id h1).1 h)) (by rw [e.cap id h1];exact h2)
 | @ptr id k i j h1 h0=>rw [←e.ρ id h1];exact .ptr (Nat.lt_of_lt_of_le h1 e.nx) (fun h=>h0 ((e.nl id h1).1 h))
 | fn h1 _ ih=>exact .fn h1 ih
 | @mp id h1=>rw [←e.ρ id h1];exact .mp (Nat.lt_of_lt_of_le h1 e.nx)
 | mv h1 _ ih=>exact .mv h1 ih
def Cp(V:View)(cs:List C)(vs:Array Value):Prop:=vs.size=cs.length∧∀(j:Nat) c v,cs[j]? = some c→vs[j]? = some v→AI V c v
theorem Cp.ext{V V':View}{cs:List C}{vs:Array Value}(e:Ext V V')(h:Cp V cs vs):Cp V' cs vs:=⟨h.1,fun j c v a b=>(h.2 j c v a b).ext e⟩
def JX(V:View):Bool×List C→Value→Prop
 | (true,cs),v=>∃vs,v=.agg vs∧Cp V cs vs
 | (false,cs),v=>∃c,cs=[c]∧AI V c v
theorem JX.ext{V V':View}{x:Bool×List C}{v:Value}(e:Ext V V')(h:JX V x v):JX V' x v:=by
 obtain⟨b,cs⟩:=x
 cases b
 ·obtain⟨c,h1,h2⟩:=h;exact⟨c,h1,h2.ext e⟩
 ·obtain⟨vs,h1,h2⟩:=h;exact⟨vs,h1,h2.ext e⟩
def Bc(V:View):E→Value→Prop
 | .o c,v=>AI V c v
 | .a cs,v=>∃vs,v=.agg vs∧Cp V cs vs
 | .t xs,v=>∃vs:Array Value,v=.tuple vs∧vs.size=xs.length∧∀(j:Nat) x v,xs[j]? = some x→vs[j]? = some v→JX V x v
 | .e,v=>∃b,v=.slice b 0 0
theorem Bc.ext{V V':View}{x:E}{v:Value}(e:Ext V V')(h:Bc V x v):Bc V' x v:=by
 cases x with
 | o c=>exact AI.ext e h
 | a cs=>obtain⟨vs,h1,h2⟩:=h;exact⟨vs,h1,h2.ext e⟩
 | t xs=>obtain⟨vs,h1,h2,h3⟩:=h;exact⟨vs,h1,h2,fun j x v a b=>(h3 j x v a b).ext e⟩
 | e=>exact h
inductive O where
 | cells (T k:Nat) (rows:List (List C))
 | mp (es:List (Value×Value))
 | sld (T:Nat) (l:List (Value×List Value))
abbrev Ab:=List (Nat×O)
def look{α:Type}:List (Nat×α)→Nat→Option α
 | [],_=>none
 | (k,x)::r,i=>bif Nat.beq k i then some x else look r i
theorem Ax{α:Type}(k:Nat)(x:α)(r:List (Nat×α))(i:Nat):look ((k,x)::r) i=if k=i then some x else look r i:=by
 simp only [look]
 by_cases h:k=i
 ·subst h;simp
 ·have:Nat.beq k i=false:=by
   cases hb:Nat.beq k i
   ·rfl
   ·exact absurd (Nat.eq_of_beq_eq_true hb) h
  simp [this,h]
def Hv(v:Value)(b:Nat):Prop:=∃o n c,v=.slice (some ⟨b,o,none⟩) n c
def DC(V:View)(id:Nat):O→Nat→Prop
 | .cells ..,b=>b=V.ρ id
 | .mp _,b=>b=V.ρ id
 | .sld _ l,b=>∃x∈l,Hv x.1 b
def HY(w:World)(T:Nat)(v:Value)(row:List Value):Prop:=(v=.slice none 0 0∧row=[])∨
 ∃b cap cur,v=.slice (some ⟨b,0,none⟩) row.length cap∧w.heap[b]? = some (.cells cur T (0,0))∧cur.size=cap∧row.length≤cap∧cap≤maxLen∧∀(j:Nat) (x:Value),row[j]? = some x→cur[j]? = some x∧Lq x=true
def Wp(w:World)(T:Nat)(l:List (Value×List Value)):Prop:=l.Pairwise (fun x y=>∀b,Hv x.1 b→¬Hv y.1 b)∧∀x∈l,HY w T x.1 x.2
theorem HY.Bb{w w':World}{T:Nat}{v:Value}{row:List Value}(hw:∀b,Hv v b→w'.heap[b]? = w.heap[b]?)(h:HY w T v row):HY w' T v row:=by
 rcases h with h|⟨b,cap,cur,rfl,h2,h3⟩
 ·exact .inl h
 ·exact .inr ⟨b,cap,cur,rfl,by rw [hw b ⟨_,_,_,rfl⟩];exact h2,h3⟩
theorem HY.blt{w:World}{T:Nat}{v:Value}{row:List Value}(h:HY w T v row){b:Nat}(hb:Hv v b):b < w.heap.size:=by
 obtain⟨o,n,c,hb⟩:=hb
 rcases h with ⟨h,_⟩|⟨b',cap,cur,rfl,h2,_⟩
 ·rw [h] at hb;cases hb
 ·injection hb with hb;injection hb with hb;injection hb with hb;subst hb;exact(Array.getElem?_eq_some_iff.1 h2).1
theorem Wp.Bb{w w':World}{T:Nat}{l:List (Value×List Value)}(hw:∀x∈l,∀b,Hv x.1 b→w'.heap[b]? = w.heap[b]?)(h:Wp w T l):Wp w' T l:=
 ⟨h.1,fun x hx=>(h.2 x hx).Bb (hw x hx)⟩
def B8(V:View)(id:Nat):O→Prop
 | .cells T k rows=>(V.nl id∧rows=[])∨¬V.nl id∧∃cur,V.w.heap[V.ρ id]? = some (.cells cur T (0,0))∧cur.size=V.cap id*k∧rows.length≤V.cap id∧V.cap id≤maxLen∧(∀r∈rows,r.length=k)∧
  ∀i r j c,rows[i]? = some r→r[j]? = some c→∃v,cur[i*k+j]? = some v∧AI V c v
 | .mp es=>¬V.nl id∧∃ents clock,V.w.heap[V.ρ id]? = some (.map ents clock)∧ents.toList.map (fun e=>(e.key,e.val))=es
 | .sld T l=>¬V.nl id∧Wp V.w T l
theorem AG{V V':View}(e:Ext V V'){id:Nat}(hid:id < V.nx){o:O}{b:Nat}:DC V' id o b↔DC V id o b:=by
 cases o<;>simp [DC,e.ρ id hid]
structure HZ (V:View) (σ:Ab):Prop where
 obj:∀id o,look σ id=some o→B8 V id o
 lt:∀id o,look σ id=some o→id < V.nx
 free:∀id o,look σ id=some o→¬V.nl id→∀b,DC V id o b→¬V.I b
 inj:∀id id' o o',look σ id=some o→look σ id'=some o'→id≠id'→¬V.nl id→¬V.nl id'→∀b,DC V id o b→¬DC V id' o' b
structure PD where
 B:Nat→Prop
 J:Nat→Prop
structure Ctx where
 V:View
 F:Nat→Prop
 J:Nat→Prop
def C5(V:View)(σ:Ab)(b:Nat):Prop:=∃id o,look σ id=some o∧¬V.nl id∧DC V id o b
theorem B8.Bb{V V':View}(e:Ext V V'){id:Nat}(hid:id < V.nx){o:O}(hb:¬V.nl id→∀b,DC V id o b→V'.w.heap[b]? = V.w.heap[b]?)(h:B8 V id o):B8 V' id o:=by
 cases o with
 | cells T k rows=>
  replace hb:=fun hn=>hb hn _ (show DC V id (.cells T k rows) (V.ρ id) from rfl)
  rcases h with ⟨h1,h2⟩|⟨h0,cur,h2,h3,h4,h5,h6,h7⟩
  ·exact .inl ⟨(e.nl id hid).2 h1,h2⟩
  ·refine .inr ⟨fun h=>h0 ((e.nl id hid).1 h),cur,by rw [e.ρ id hid,hb h0];exact h2,by rw [e.cap id hid];exact h3,by rw [e.cap id hid];exact h4,by rw [e.cap id hid];exact h5,h6,fun i r j c hi hj=>?_⟩
   obtain⟨v,h8,h9⟩:=h7 i r j c hi hj
   exact⟨v,h8,h9.ext e⟩
 | mp es=>
  replace hb:=fun hn=>hb hn _ (show DC V id (.mp es) (V.ρ id) from rfl)
  obtain⟨h0,ents,clock,h1,h2⟩:=h
  exact⟨fun h=>h0 ((e.nl id hid).1 h),ents,clock,by rw [e.ρ id hid,hb h0];exact h1,h2⟩
 | sld T l=>exact⟨fun h'=>h.1 ((e.nl id hid).1 h'),h.2.Bb fun x hx b hb'=>hb h.1 b ⟨x,hx,hb'⟩⟩
theorem B8.blt{V:View}{id:Nat}{o:O}(h:B8 V id o)(hn:¬V.nl id){b:Nat}(hb:DC V id o b):b < V.w.heap.size:=by
 cases o with
 | sld T l=>obtain⟨x,hx,hb⟩:=hb;exact(h.2.2 x hx).blt hb
 | cells T k rows=>
  subst hb
  rcases h with ⟨h1,_⟩|⟨_,cur,h2,_⟩
  ·exact absurd h1 hn
  ·exact(Array.getElem?_eq_some_iff.1 h2).1
 | mp=>
  subst hb
  obtain⟨_,ents,clock,h1,_⟩:=h
  exact(Array.getElem?_eq_some_iff.1 h1).1
theorem GB{V V':View}(e:Ext V V'){σ:Ab}(hlt:∀id o,look σ id=some o→id < V.nx){b:Nat}(h:C5 V' σ b):C5 V σ b:=by
 obtain⟨id,o,h1,h2,h3⟩:=h
 have h4:=hlt id o h1
 exact⟨id,o,h1,fun hx=>h2 ((e.nl id h4).2 hx),(AG e h4).1 h3⟩
structure Hid where
 S:Type
 st:S→Ab
 nx:Nat
structure Bw where
 tabs:List (Nat×Obj)
 hid:Option (Hid×Nat)
def cZ:Bw:=⟨[],none⟩
instance:Membership (Nat×Obj) Bw:=⟨fun a x=>x∈a.tabs⟩
def Na(TB:Bw)(S:PD)(w:World):Prop:=match TB.hid with
 | none=>∀b,¬S.B b
 | some (H,r)=>∃(s:H.S) (V:View),V.I=S.J∧V.w=w∧V.nx=H.nx∧HZ V (H.st s)∧(0 < V.nx∧V.ρ 0=r∧¬V.nl 0∧∀x∈TB,V.I x.1)∧∀b,S.B b↔C5 V (H.st s) b
theorem Na.blt{TB:Bw}{S:PD}{w:World}(h:Na TB S w){b:Nat}(hb:S.B b):b < w.heap.size:=by
 unfold Na at h
 split at h
 ·exact absurd hb (h b)
 ·obtain⟨s,V,h1,h2,h3,h4,h5,h6⟩:=h
  obtain⟨id,o,g1,g2,g3⟩:=(h6 b).1 hb
  rw [←h2]
  exact(h4.obj id o g1).blt g2 g3
theorem Na.Bb{TB:Bw}{S:PD}{w w':World}(h:Na TB S w)(hw:∀b,S.J b→w'.heap[b]? = w.heap[b]?)(hs:w.heap.size≤w'.heap.size)(hB:∀b,S.B b→w'.heap[b]? = w.heap[b]?):Na TB S w':=by
 unfold Na at *
 split at h
 ·exact h
 ·obtain⟨s,V,h1,h2,h3,h4,h5,h6⟩:=h
  have e:Ext V { V with w:=w' } := by
   subst h2
   exact⟨fun _ h=>h,fun b hb=>hw b (by rw [←h1];exact hb),hs,fun _ _=>rfl,fun _ _=>rfl,fun _ _=>Iff.rfl,Nat.le_refl _⟩
  have bw:∀ {i o b},DC { V with w:=w' } i o b↔DC V i o b:=fun {i o b} => by cases o<;>exact Iff.rfl
  refine⟨s,{ V with w:=w' },h1,rfl,h3,⟨fun id o ho=>?_,h4.lt,fun id o ho hn b hb=>h4.free id o ho hn b (bw.1 hb),fun id id' o o' ho ho' hne hn hn' b hb hb'=>h4.inj id id' o o' ho ho' hne hn hn' b (bw.1 hb) (bw.1 hb')⟩,h5,fun b=>?_⟩
  ·exact(h4.obj id o ho).Bb e (h4.lt id o ho) fun hn b hb=>by
    have:=hB b ((h6 b).2 ⟨id,o,ho,hn,hb⟩)
    rw [h2];exact this
  ·rw [h6 b]
   exact⟨fun ⟨id,o,g1,g2,g3⟩=>⟨id,o,g1,g2,bw.2 g3⟩,fun ⟨id,o,g1,g2,g3⟩=>⟨id,o,g1,g2,bw.1 g3⟩⟩
structure LK (TB:Bw) (V:View) (σ:Ab) (S:PD):Prop where
 r:Na TB S V.w
 ji:∀b,S.J b→V.I b
 bi:∀b,S.B b→¬V.I b
 ap:∀b,C5 V σ b→¬S.B b
def PB(TB:Bw)(Γ:Ctx)(V:View)(σ:Ab):Prop:=∃S,LK TB V σ S∧(∀b,S.J b→Γ.J b∨Γ.V.w.heap.size≤b∨Γ.F b)∧∀b,S.B b→Γ.V.w.heap.size≤b∨Γ.F b
theorem LK.step{TB:Bw}{S:PD}{V V':View}{σ σ':Ab}(h:LK TB V σ S)(hI:∀b,V.I b→V'.I b)(hIw:∀b,V.I b→V'.w.heap[b]? = V.w.heap[b]?)(hs:V.w.heap.size≤V'.w.heap.size)
 (hw:∀b,b < V.w.heap.size→¬V.I b→¬C5 V σ b→V'.w.heap[b]? = V.w.heap[b]?) (hN:∀b,V'.I b→V.I b∨C5 V σ b∨V.w.heap.size≤b) (hF:∀b,C5 V' σ' b→C5 V σ b∨V.w.heap.size≤b):LK TB V' σ' S:=by
 have hn:∀b,S.B b→¬C5 V σ b:=fun b hb hf=>h.ap b hf hb
 refine⟨h.r.Bb (fun b hb=>hIw b (h.ji b hb)) hs (fun b hb=>hw b (h.r.blt hb) (h.bi b hb) (hn b hb)),fun b hb=>hI b (h.ji b hb),fun b hb hi=>?_,fun b hf hb=>?_⟩
 ·rcases hN b hi with hx|hx|hx
  ·exact h.bi b hb hx
  ·exact h.ap b hx hb
  ·have:=h.r.blt hb;omega
 ·rcases hF b hf with hx|hx
  ·exact h.ap b hx hb
  ·have:=h.r.blt hb;omega
theorem PB.step{TB:Bw}{Γ:Ctx}{V V':View}{σ σ':Ab}(h:PB TB Γ V σ)(hI:∀b,V.I b→V'.I b)(hIw:∀b,V.I b→V'.w.heap[b]? = V.w.heap[b]?)(hs:V.w.heap.size≤V'.w.heap.size)
 (hw:∀b,b < V.w.heap.size→¬V.I b→¬C5 V σ b→V'.w.heap[b]? = V.w.heap[b]?) (hN:∀b,V'.I b→V.I b∨C5 V σ b∨V.w.heap.size≤b) (hF:∀b,C5 V' σ' b→C5 V σ b∨V.w.heap.size≤b):PB TB Γ V' σ':=by
 obtain⟨S,h1,h2⟩:=h
 exact⟨S,h1.step hI hIw hs hw hN hF,h2⟩
theorem PB.same{TB:Bw}{Γ:Ctx}{V V':View}{σ σ':Ab}(h:PB TB Γ V σ)(hw:V'.w=V.w)(hI:∀b,V.I b→V'.I b)(hN:∀b,V'.I b→V.I b∨C5 V σ b)(hF:∀b,C5 V' σ' b→C5 V σ b):PB TB Γ V' σ':=
 h.step hI (fun b _=>by rw [hw]) (by rw [hw];exact Nat.le_refl _) (fun b _ _ _=>by rw [hw]) (fun b hb=>(hN b hb).elim .inl fun h=>.inr (.inl h)) (fun b hb=>.inl (hF b hb))
structure Inv (TB:Bw) (Γ:Ctx) (V:View) (σ:Ab):Prop where
 os:V.w.os=Γ.V.w.os
 tape:V.w.tape=Γ.V.w.tape
 output:V.w.output=Γ.V.w.output
 old:∀b,b < Γ.V.w.heap.size→¬Γ.F b→V.w.heap[b]? = Γ.V.w.heap[b]?
 iLt:∀b,V.I b→b < V.w.heap.size
 iNew:∀b,V.I b→Γ.V.I b∨Γ.V.w.heap.size≤b∨Γ.F b
 ext:Ext Γ.V V
 st:HZ V σ
 live:∀id o,look σ id=some o→¬V.nl id→∀b,DC V id o b→Γ.V.w.heap.size≤b∨Γ.F b
 tabs:∀x∈TB,V.I x.1∧V.w.heap[x.1]? = some x.2
 hid:PB TB Γ V σ
abbrev Env:=Nat→Option E
def Bs(f:Env)(d:Option Tmp)(x:E):Env:=match d with
 | some d=>fun t=>if t=d then some x else f t
 | none=>f
def C7(V:View)(f:Env)(tmps:Array Value):Prop:=∀t e,f t=some e→Bc V e (tmps.getD t undef)
def HX(V:View)(o:Oper)(f:Env)(a:Act):Prop:=∀t e,.tmp t∈o.op.operands→f t=some e→Bc V e (a.tmps.getD t undef)
theorem C7.op{V:View}{f:Env}{a:Act}(h:C7 V f a.tmps)(o:Oper):HX V o f a:=fun t e _ he=>h t e he
theorem C7.ext{V V':View}{f:Env}{tmps:Array Value}(e:Ext V V')(h:C7 V f tmps):C7 V' f tmps:=fun t x hx=>(h t x hx).ext e
def bE:Exit→Act→World→Prop:=fun _ _ _=>False
section
variable (P:Program)(TB:Bw)(Γ:Ctx)
def AY(o:Oper)(f:Env)(σ:Ab)(nx:Nat)(x:E):Prop:=
 ∀V a,HX V o f a→Inv TB Γ V σ→V.nx=nx→o.wp P a V.w (fun a' w'=>∃V' v,V'.w=w'∧a'=a.put o.dst v∧Ext V V'∧Inv TB Γ V' σ∧V'.nx=nx∧Bc V' x v) bE
def B2(o:Oper)(f:Env)(σ:Ab)(nx:Nat)(K:E→Ab→Nat→Prop):Prop:=
 ∀V a,HX V o f a→Inv TB Γ V σ→V.nx=nx→o.wp P a V.w (fun a' w'=>∃V' v x σ',V'.w=w'∧a'=a.put o.dst v∧Ext V V'∧Inv TB Γ V' σ'∧Bc V' x v∧K x σ' V'.nx) bE
theorem QG{o:Oper}{a:Act}{w:World}{K:Act→World→Prop}{Q:Exit→Act→World→Prop}(h:o.wp P a w K bE):o.wp P a w K Q:=by
 unfold Oper.wp at *
 generalize (execOp a.eval o).run P w=r at *
 cases r with
 | ok n w'=>
  cases n<;>simp only [Oper.upon] at h ⊢
  case value=>exact h
  case skip=>exact h
  case defer=>exact h
  case enter f args=>
   refine h.mono fun e w'' he=>?_
   cases e with
   | returned v=>exact he
   | panicked c=>exact he.elim
   | outgrown=>obtain⟨_,_,h⟩:=he;exact h.elim
  case row=>exact h
 | halt x w'=>
  cases x<;>simp only [Oper.upon] at h ⊢
  case panic v=>exact h.elim
theorem AY.bL{o:Oper}{f:Env}{σ:Ab}{nx:Nat}{x:E}{K:E→Ab→Nat→Prop}(h:AY P TB Γ o f σ nx x)(hK:K x σ nx):B2 P TB Γ o f σ nx K:=by
 intro V a h1 h2 h3
 refine Oper.wp_mono ?_ (h V a h1 h2 h3)
 rintro a' w' ⟨V',v,e1,e2,e3,e4,e5,e6⟩
 exact⟨V',v,x,σ,e1,e2,e3,e4,e6,e5 ▸ hK⟩
def Be(ops:Array Oper)(o:Oper)(f:Env):Option Bool:=
 match o.guard with
 | none=>some true
 | some (g,want)=>
  match ((ops[g]?).bind (·.dst)).bind f with
  | some (.o (.d (.v (.bool b))))=>some (b == want)
  | some (.t _)=>some false
  | _=>none
theorem Fo{V:View}{ops:Array Oper}{o:Oper}{f:Env}{a:Act}{b:Bool}(hE:C7 V f a.tmps)(hlt:∀t e,f t=some e→t < a.tmps.size)(h:Be ops o f=some b) :
 Region.wanted o (yielded ops a.tmps)=b:=by
 unfold Be at h
 unfold Region.wanted
 split at h
 ·rename_i hg;simp only [hg];exact Option.some.inj h
 ·rename_i g want hg
  simp only [hg]
  split at h
  ·rename_i b' hb
   have hx:∃t,((ops[g]?).bind (·.dst))=some t∧f t=some (.o (.d (.v (.bool b')))):=by
    cases ht:((ops[g]?).bind (·.dst)) with
    | none=>rw [ht] at hb;cases hb
    | some t=>exact⟨t,rfl,by rw [ht] at hb;exact hb⟩
   obtain⟨t,h1,h2⟩:=hx
   have h3:=hE t _ h2
   have h4:=hlt t _ h2
   have h5:a.tmps.getD t undef=.bool b':=AI.val h3
   have h6:a.tmps[t]? = some (.bool b'):=by
    rw [Array.getElem?_eq_getElem h4];rw [Array.getD,dif_pos h4] at h5;exact congrArg some h5
   have h7:yielded ops a.tmps g=some b':=by
    unfold yielded
    rw [h1]
    simp [h6]
   rw [h7]
   cases b'<;>cases want<;>simp_all
  ·rename_i xs hb
   have hx:∃t,((ops[g]?).bind (·.dst))=some t∧f t=some (.t xs):=by
    cases ht:((ops[g]?).bind (·.dst)) with
    | none=>rw [ht] at hb;cases hb
    | some t=>exact⟨t,rfl,by rw [ht] at hb;exact hb⟩
   obtain⟨t,h1,h2⟩:=hx
   obtain⟨vs,h3,_⟩:=hE t _ h2
   have h4:=hlt t _ h2
   have h6:a.tmps[t]? = some (.tuple vs):=by
    rw [Array.getElem?_eq_getElem h4];rw [Array.getD,dif_pos h4] at h3;exact congrArg some h3
   have h7:yielded ops a.tmps g=none:=by
    unfold yielded
    rw [h1]
    simp [h6]
   rw [h7]
   exact Option.some.inj h
  ·cases h
end
theorem Jg{f:Env}{d d':Option Tmp}{x y:E}(h:∀t,d=some t→d'≠some t):Bs (Bs f d x) d' y=Bs (Bs f d' y) d x:=by
 cases d with
 | none=>rfl
 | some t=>
  cases d' with
  | none=>rfl
  | some t'=>
   have hne:t≠t':=fun e=>h t rfl (by rw [e])
   funext s
   simp only [Bs]
   by_cases h1:s=t<;>by_cases h2:s=t'<;>simp_all
theorem Cu{f:Env}{d:Option Tmp}{x:E}{t:Tmp}(h:d≠some t):Bs f d x t=f t:=by
 cases d with
 | none=>rfl
 | some d=>
  have:t≠d:=fun e=>h (by rw [e])
  simp [Bs,this]
section
variable (P:Program)(TB:Bw)(Γ:Ctx)(ops:Array Oper)
def QR(n:Bool)(o:Oper)(K:Env→Ab→Nat→Prop)(f:Env)(σ:Ab)(nx:Nat):Prop:=
 (Be ops o f=some false∧K (Bs f o.dst (.t [])) σ nx)∨
 (Be ops o f=some true∧bif n then B2 P TB Γ o f σ nx (fun x σ' nx'=>K (Bs f o.dst x) σ' nx') else ∃x,AY P TB Γ o f σ nx x∧K (Bs f o.dst x) σ nx)
def Kept(m:Nat)(σ σ':Ab):Prop:=∀id,Nat.testBit m id=true→look σ' id=look σ id
def bt(c:Nat)(o:Oper)(K:Env→Ab→Nat→Prop)(f:Env)(σ:Ab)(nx:Nat):Prop:=
 (Be ops o f=some false∧K (Bs f o.dst (.t [])) σ nx)∨
 (Be ops o f=some true∧bif Nat.ble 1000 c then B2 P TB Γ o f σ nx (fun x σ' nx'=>Kept (c - 1000) σ σ'∧K (Bs f o.dst x) σ' nx')
  else ∃x,(∀σ' nx',look σ' (c - 10)=look σ (c - 10)→AY P TB Γ o f σ' nx' x)∧K (Bs f o.dst x) σ nx)
def Lex : List (Nat×Nat)→(Env→Ab→Nat→Prop)→Env→Ab→Nat→Prop
 | [],K,f,σ,nx=>K f σ nx
 | (i, c)::r,K,f,σ,nx=>∃o,ops[i]? = some o∧
  bif Nat.ble 10 c then bt P TB Γ ops c o (Lex r K) f σ nx else bif Nat.beq c 2 then
   (Be ops o f=some false∧Lex r K (Bs f o.dst (.t [])) σ nx)∨
   (Be ops o f=some true∧∃x,(∀σ nx,AY P TB Γ o f σ nx x)∧Lex r K (Bs f o.dst x) σ nx)
  else QR P TB Γ ops (Nat.beq c 1) o (Lex r K) f σ nx
end
def Nd(c:Nat):Bool:=Nat.beq c 0 || Nat.beq c 1
def Db(c:Nat):Bool:=Nat.beq c 1 || Nat.ble 1000 c
def KH(c cj:Nat):Bool:=Nat.beq c 2 || (!Db cj || (Nat.ble 10 c && (Nat.ble 1000 cj && Nat.testBit (cj - 1000) (c - 10))))
section
variable {P:Program}{TB:Bw}{Γ:Ctx}{ops:Array Oper}
theorem HX.congr{V:View}{o:Oper}{f f':Env}{a:Act}(h:∀t,.tmp t∈o.op.operands→f t=f' t)(hh:HX V o f a):HX V o f' a:=
 fun t e ht he=>hh t e ht (by rw [h t ht];exact he)
theorem AY.congr{o:Oper}{f f':Env}{σ:Ab}{nx:Nat}{x:E}(h:∀t,.tmp t∈o.op.operands→f t=f' t)(hh:AY P TB Γ o f σ nx x):AY P TB Γ o f' σ nx x:=
 fun V a h1=>hh V a (h1.congr fun t ht=>(h t ht).symm)
theorem B2.congr{o:Oper}{f f':Env}{σ:Ab}{nx:Nat}{K:E→Ab→Nat→Prop}(h:∀t,.tmp t∈o.op.operands→f t=f' t)(hh:B2 P TB Γ o f σ nx K):B2 P TB Γ o f' σ nx K:=
 fun V a h1=>hh V a (h1.congr fun t ht=>(h t ht).symm)
theorem B2.mono{o:Oper}{f:Env}{σ:Ab}{nx:Nat}{K K':E→Ab→Nat→Prop}(hh:B2 P TB Γ o f σ nx K)(h:∀x σ nx,K x σ nx→K' x σ nx):B2 P TB Γ o f σ nx K':=by
 intro V a h1 h2 h3
 refine Oper.wp_mono ?_ (hh V a h1 h2 h3)
 rintro a' w' ⟨V',v,x,σ',e1,e2,e3,e4,e5,e6⟩
 exact⟨V',v,x,σ',e1,e2,e3,e4,e5,h _ _ _ e6⟩
theorem Ff{o:Oper}{t:Tmp}(h:.tmp t∈o.op.operands):t∈o.looksAt ops:=
 List.mem_append_left _ (List.mem_filterMap.2 ⟨.tmp t,by simpa using h,rfl⟩)
theorem Fa{o:Oper}{f:Env}{d:Option Tmp}{x:E}(h:∀t,d=some t→t∉o.looksAt ops):Be ops o (Bs f d x)=Be ops o f:=by
 unfold Be
 cases hg:o.guard with
 | none=>rfl
 | some gw=>
  obtain⟨g,want⟩:=gw
  cases ht:(ops[g]?).bind (·.dst) with
  | none=>simp only [ht];rfl
  | some t=>
   have hne:d≠some t:=fun e=>h t e (by simp [Oper.looksAt,hg,ht])
   simp only [ht,Option.bind_some,Cu hne]
theorem Eh{o:Oper}{f:Env}{d:Option Tmp}{x:E}(h:∀t,d=some t→t∉o.looksAt ops):∀t,.tmp t∈o.op.operands→Bs f d x t=f t:=
 fun t ht=>Cu fun e=>h t e (Ff ht)
def waits(ops:Array Oper)(i:Nat):Nat→Nat→Bool
 | 0,_=>false
 | n+1,j=>((ops[j]?).map (·.after.any fun e=>Region.binds .any e && (Nat.beq e.on i || waits ops i n e.on))).getD false
def DQ(ops:Array Oper)(listed:Array Bool):Prop:=
 ∀j,listed.getD j false=true→∀o,ops[j]? = some o→∀e∈o.after,Region.binds .any e=true→listed.getD e.on false=true
theorem IV{listed:Array Bool}(hc:DQ ops listed){i:Nat}:∀(n j:Nat),waits ops i n j=true→listed.getD j false=true→listed.getD i false=true
 | 0,_,h,_=>by cases h
 | n + 1,j,h,hl=>by
  unfold waits at h
  cases ho:ops[j]? with
  | none=>rw [ho] at h;cases h
  | some o=>
   rw [ho] at h
   simp only [Option.map_some,Option.getD_some] at h
   rw [Array.any_eq_true] at h
   obtain⟨k,hk,h⟩:=h
   simp only [Bool.and_eq_true,Bool.or_eq_true] at h
   have h1:=hc j hl o ho _ (Array.getElem_mem hk) h.1
   rcases h.2 with h2|h2
   ·have:=Nat.eq_of_beq_eq_true h2;rw [←this];exact h1
   ·exact IV hc n _ h2 h1
theorem JV{listed:Array Bool}(hc:DQ ops listed){i:Nat}(hi:listed.getD i false=false){n j:Nat}(h:waits ops i n j=true):j∉Region.ready .any ops listed:=by
 intro hr
 obtain⟨_,o,ho,hall⟩:=mem_ready.1 hr
 cases n with
 | zero=>cases h
 | succ n=>
  unfold waits at h
  rw [ho] at h
  simp only [Option.map_some,Option.getD_some] at h
  rw [Array.any_eq_true] at h
  obtain⟨k,hk,h⟩:=h
  simp only [Bool.and_eq_true,Bool.or_eq_true] at h
  have h1:=hall _ (Array.getElem_mem hk) h.1
  rcases h.2 with h2|h2
  ·have:=Nat.eq_of_beq_eq_true h2;rw [this,hi] at h1;cases h1
  ·have:=IV hc n _ h2 h1;rw [hi] at this;cases this
def NC(ops:Array Oper)(i c:Nat)(r:List (Nat×Nat)):Bool:=
 (r.all fun (j,cj)=>waits ops i ops.size j || (!Db c && (match ops[i]?,ops[j]? with|some x,some y=>x.apart ops y|_,_=>false) && KH c cj))
def CS(ops:Array Oper):List (Nat×Nat)→Bool
 | []=>true
 | (i,c)::r=>NC ops i c r && CS ops r
def A3(ops:Array Oper):List (Nat×Nat)→Array Bool→Bool
 | [],listed=>(Region.ready .any ops listed).isEmpty
 | (i,_)::r,listed=>(Region.ready .any ops listed).contains i && A3 ops r (listed.setIfInBounds i true)
end
section
variable {P:Program}{TB:Bw}{Γ:Ctx}{ops:Array Oper}
theorem LW(listed:Array Bool)(i:Nat):(listed.setIfInBounds i true).getD i true=true:=by
 by_cases h:i < listed.size
 ·simp [h]
 ·simp [h]
theorem Lh{listed:Array Bool}{j:Nat}(h:j∈Region.ready .any ops listed):listed.getD j true=false:=(mem_ready.1 h).1
theorem Pr{listed:Array Bool}{j:Nat}(h:listed.getD j true=false):listed.getD j false=false:=by
 rcases Nat.lt_or_ge j listed.size with h'|h'
 ·simpa [h'] using h
 ·simp [Array.getElem?_eq_none h']
theorem Fu{listed:Array Bool}{j:Nat}(hc:DQ ops listed)(hr:j∈Region.ready .any ops listed):DQ ops (listed.setIfInBounds j true):=by
 intro i hi o ho e he hb
 by_cases hij:j=i
 ·subst hij
  obtain⟨_,o',ho',hall⟩:=mem_ready.1 hr
  rw [ho] at ho'
  injection ho' with ho'
  subst ho'
  exact getD_set_true (hall e he hb)
 ·rw [getD_set_ne false hij] at hi
  exact getD_set_true (hc i hi o ho e he hb)
theorem IB:∀(r:List (Nat×Nat)) (listed:Array Bool),A3 ops r listed=true→∀j,j∈Region.ready .any ops listed→j∈r.map (·.1)
 | [],listed,h,j,hj=>by
  simp only [A3,List.isEmpty_iff] at h
  rw [h] at hj;cases hj
 | (i,c)::r,listed,h,j,hj=>by
  simp only [A3,Bool.and_eq_true] at h
  by_cases hij:j=i
  ·subst hij;simp
  ·have:=IB r _ h.2 j (ready_mono hj hij)
   simp only [List.map_cons,List.mem_cons]
   exact .inr this
theorem RF:∀(r:List (Nat×Nat)) (listed:Array Bool),A3 ops r listed=true→∀j,listed.getD j true=true→j∉r.map (·.1)
 | [],_,_,_,_=>by simp
 | (i,c)::r,listed,h,j,hj=>by
  simp only [A3,Bool.and_eq_true] at h
  have hi:i∈Region.ready .any ops listed:=by simpa using h.1
  have hne:i≠j:=fun e=>by subst e;rw [Lh hi] at hj;cases hj
  have:=RF r _ h.2 j (by rw [getD_set_ne true hne];exact hj)
  simp only [List.map_cons,List.mem_cons,not_or]
  exact⟨fun e=>hne e.symm,this⟩
theorem Lc:∀(r1 r2:List (Nat×Nat)) (j c:Nat) (listed:Array Bool),A3 ops (r1++(j,c)::r2) listed=true→j∈Region.ready .any ops listed→
 A3 ops (r1++r2) (listed.setIfInBounds j true)=true
 | [],r2,j,c,listed,h,_=>by
  simp only [List.nil_append,A3,Bool.and_eq_true] at h
  exact h.2
 | (i,d)::r1,r2,j,c,listed,h,hj=>by
  simp only [List.cons_append,A3,Bool.and_eq_true] at h ⊢
  have hi:i∈Region.ready .any ops listed:=by simpa using h.1
  have hne:j≠i:=by
   intro e
   subst e
   have:=RF _ _ h.2 j (LW _ _)
   exact this (by simp)
  refine⟨by simpa using ready_mono hi (Ne.symm hne),?_⟩
  rw [Array.setIfInBounds_comm _ _ hne]
  exact Lc r1 r2 j c _ h.2 (ready_mono hj hne)
theorem Iz:∀(r1 r2:List (Nat×Nat)) (x:Nat×Nat),CS ops (r1++x::r2)=true→CS ops (r1++r2)=true
 | [],r2,(j,c),h=>by
  simp only [List.nil_append,CS,Bool.and_eq_true] at h
  exact h.2
 | (i,d)::r1,r2,x,h=>by
  simp only [List.cons_append,CS,Bool.and_eq_true] at h ⊢
  refine⟨?_,Iz r1 r2 x h.2⟩
  have h1:=h.1
  unfold NC at h1 ⊢
  rw [List.all_eq_true] at h1 ⊢
  intro y hy
  refine h1 y ?_
  rcases List.mem_append.1 hy with hy|hy
  ·exact List.mem_append_left _ hy
  ·exact List.mem_append_right _ (List.mem_cons_of_mem _ hy)
def QC(P:Program)(TB:Bw)(Γ:Ctx)(c:Nat)(o:Oper)(x:E)(f:Env)(σ:Ab)(nx:Nat):Prop:=
 bif Nat.ble 10 c then ∀σ' nx',look σ' (c - 10)=look σ (c - 10)→AY P TB Γ o f σ' nx' x else bif Nat.beq c 2 then ∀σ nx,AY P TB Γ o f σ nx x else AY P TB Γ o f σ nx x
def Yl(P:Program)(TB:Bw)(Γ:Ctx)(ops:Array Oper)(c:Nat)(o:Oper)(x:E)(f:Env)(σ:Ab)(nx:Nat):Prop:=
 (Be ops o f=some false∧x=.t [])∨(Be ops o f=some true∧QC P TB Γ c o x f σ nx)
theorem QC.congr{c:Nat}{o:Oper}{x:E}{f f':Env}{σ:Ab}{nx:Nat}(h:∀t,.tmp t∈o.op.operands→f t=f' t)(q:QC P TB Γ c o x f σ nx):QC P TB Γ c o x f' σ nx:=by
 unfold QC at q ⊢
 cases h1:Nat.ble 10 c
 ·rw [h1] at q
  cases h2:Nat.beq c 2
  ·rw [h2] at q;exact AY.congr h q
  ·rw [h2] at q;exact fun σ nx=>AY.congr h (q σ nx)
 ·rw [h1] at q;exact fun σ' nx' hs=>AY.congr h (q σ' nx' hs)
theorem QC.move{c:Nat}{o:Oper}{x:E}{f:Env}{σ σ':Ab}{nx nx':Nat}(q:QC P TB Γ c o x f σ nx)(hs:(Nat.ble 10 c=false∧Nat.beq c 2=true)∨(σ'=σ∧nx'=nx)∨(Nat.ble 10 c=true∧look σ' (c - 10)=look σ (c - 10))):QC P TB Γ c o x f σ' nx':=by
 rcases hs with ⟨h1,h2⟩|⟨rfl,rfl⟩|⟨h1,h2⟩
 ·unfold QC at q ⊢;rw [h1,h2] at q ⊢;exact q
 ·exact q
 ·unfold QC at q ⊢;rw [h1] at q ⊢;exact fun σ2 nx2 h3=>q σ2 nx2 (h3.trans h2)
def E4(P:Program)(TB:Bw)(Γ:Ctx)(ops:Array Oper)(c:Nat)(o:Oper)(K:Env→Ab→Nat→Prop)(f:Env)(σ:Ab)(nx:Nat):Prop:=
 bif Nat.ble 10 c then bt P TB Γ ops c o K f σ nx else bif Nat.beq c 2 then
  (Be ops o f=some false∧K (Bs f o.dst (.t [])) σ nx)∨
  (Be ops o f=some true∧∃x,(∀σ nx,AY P TB Γ o f σ nx x)∧K (Bs f o.dst x) σ nx)
 else QR P TB Γ ops (Nat.beq c 1) o K f σ nx
theorem C0{c:Nat}{o:Oper}{K:Env→Ab→Nat→Prop}{f:Env}{σ:Ab}{nx:Nat}(hc:Db c=false) :
 E4 P TB Γ ops c o K f σ nx↔∃x,Yl P TB Γ ops c o x f σ nx∧K (Bs f o.dst x) σ nx:=by
 unfold Db at hc
 rw [Bool.or_eq_false_iff] at hc
 unfold E4 Yl QR bt QC
 rw [hc.1,hc.2]
 have key:∀ {q:E→Prop},((Be ops o f=some false∧K (Bs f o.dst (.t [])) σ nx)∨(Be ops o f=some true∧∃x,q x∧K (Bs f o.dst x) σ nx))↔
  ∃x,((Be ops o f=some false∧x=.t [])∨(Be ops o f=some true∧q x))∧K (Bs f o.dst x) σ nx:=by
  intro q
  constructor
  ·rintro(⟨h,k⟩|⟨h,x,q,k⟩)
   ·exact⟨_,.inl ⟨h,rfl⟩,k⟩
   ·exact⟨x,.inr ⟨h,q⟩,k⟩
  ·rintro⟨x,⟨h,rfl⟩|⟨h,q⟩,k⟩
   ·exact .inl ⟨h,k⟩
   ·exact .inr ⟨h,x,q,k⟩
 cases h1:Nat.ble 10 c
 ·cases h2:Nat.beq c 2
  ·exact key
  ·exact key
 ·exact key
theorem El{c:Nat}{o:Oper}{K:Env→Ab→Nat→Prop}{f:Env}{σ:Ab}{nx:Nat}(hc:Db c=true) :
 E4 P TB Γ ops c o K f σ nx↔(Be ops o f=some false∧K (Bs f o.dst (.t [])) σ nx)∨(Be ops o f=some true∧B2 P TB Γ o f σ nx (fun x σ' nx'=>(Nat.ble 1000 c=true→Kept (c - 1000) σ σ')∧K (Bs f o.dst x) σ' nx')):=by
 unfold Db at hc
 unfold E4 QR bt
 cases h3:Nat.ble 1000 c
 ·rw [h3,Bool.or_false] at hc
  have hc1:=Nat.eq_of_beq_eq_true hc
  subst hc1
  constructor
  ·rintro(h|⟨h,q⟩)
   ·exact .inl h
   ·exact .inr ⟨h,B2.mono q fun x σ' nx' k=>⟨fun e=>by simp at e,k⟩⟩
  ·rintro(h|⟨h,q⟩)
   ·exact .inl h
   ·exact .inr ⟨h,B2.mono q fun x σ' nx' k=>k.2⟩
 ·have h10:Nat.ble 10 c=true:=Nat.ble_eq_true_of_le (by have:=Nat.le_of_ble_eq_true h3;omega)
  rw [h10]
  simp only [cond_true]
  constructor
  ·rintro(h|⟨h,q⟩)
   ·exact .inl h
   ·exact .inr ⟨h,B2.mono q fun x σ' nx' k=>⟨fun _=>k.1,k.2⟩⟩
  ·rintro(h|⟨h,q⟩)
   ·exact .inl h
   ·exact .inr ⟨h,B2.mono q fun x σ' nx' k=>⟨k.1 trivial,k.2⟩⟩
theorem E4.mono{c:Nat}{o:Oper}{K K':Env→Ab→Nat→Prop}{f:Env}{σ:Ab}{nx:Nat}(hk:∀f σ nx,K f σ nx→K' f σ nx)(h:E4 P TB Γ ops c o K f σ nx):E4 P TB Γ ops c o K' f σ nx:=by
 cases hn:Db c
 ·rw [C0 hn] at h ⊢
  obtain⟨x,h1,h2⟩:=h
  exact⟨x,h1,hk _ _ _ h2⟩
 ·rw [El hn] at h ⊢
  rcases h with ⟨h1,h2⟩|⟨h1,h2⟩
  ·exact .inl ⟨h1,hk _ _ _ h2⟩
  ·exact .inr ⟨h1,B2.mono h2 fun x σ' nx' k=>⟨k.1,hk _ _ _ k.2⟩⟩
theorem SS{ci cj:Nat}{oi oj:Oper}{x:E}{f:Env}{σ:Ab}{nx:Nat}{K:Env→Ab→Nat→Prop}
 (hi1:Db ci=false) (hap:oi.apart ops oj=true) (hcc:KH ci cj=true) (hy:Yl P TB Γ ops ci oi x f σ nx)
 (h:E4 P TB Γ ops cj oj K (Bs f oi.dst x) σ nx):E4 P TB Γ ops cj oj (E4 P TB Γ ops ci oi K) f σ nx:=by
 obtain⟨h1,h2,h3⟩:=Oper.apart_spec hap
 have hg:Be ops oj (Bs f oi.dst x)=Be ops oj f:=Fa h1
 have ag:∀t,.tmp t∈oj.op.operands→Bs f oi.dst x t=f t:=Eh h1
 have back:∀(y:E) (σ':Ab) (nx':Nat),((Nat.ble 10 ci=false∧Nat.beq ci 2=true)∨(σ'=σ∧nx'=nx)∨(Nat.ble 10 ci=true∧look σ' (ci - 10)=look σ (ci - 10)))→K (Bs (Bs f oi.dst x) oj.dst y) σ' nx'→E4 P TB Γ ops ci oi K (Bs f oj.dst y) σ' nx':=by
  intro y σ' nx' hs hk
  rw [C0 hi1]
  refine⟨x,?_,by rw [Jg h2] at hk;exact hk⟩
  unfold Yl at hy ⊢
  rw [Fa h3]
  rcases hy with hy|⟨hy,q⟩
  ·exact .inl hy
  ·exact .inr ⟨hy,(q.move hs).congr fun t ht=>(Eh h3 t ht).symm⟩
 cases hj1:Db cj
 ·rw [C0 hj1] at h ⊢
  obtain⟨y,hy',hk⟩:=h
  refine⟨y,?_,back y σ nx (.inr (.inl ⟨rfl,rfl⟩)) hk⟩
  unfold Yl at hy' ⊢
  rw [hg] at hy'
  rcases hy' with hy'|⟨hy',q⟩
  ·exact .inl hy'
  ·exact .inr ⟨hy',q.congr ag⟩
 ·rw [El hj1] at h ⊢
  rw [hg] at h
  have hs:∀σ' nx',(Nat.ble 1000 cj=true→Kept (cj - 1000) σ σ')→(Nat.ble 10 ci=false∧Nat.beq ci 2=true)∨(σ'=σ∧nx'=nx)∨(Nat.ble 10 ci=true∧look σ' (ci - 10)=look σ (ci - 10)):=fun σ' nx' hk=>by
   unfold KH at hcc
   rw [hj1] at hcc
   simp only [Bool.not_true,Bool.false_or,Bool.or_eq_true,Bool.and_eq_true] at hcc
   rcases hcc with hcc|⟨c1,c2,c3⟩
   ·have:=Nat.eq_of_beq_eq_true hcc
    subst this
    exact .inl ⟨rfl,rfl⟩
   ·exact .inr (.inr ⟨c1,hk c2 _ c3⟩)
  rcases h with ⟨h4,hk⟩|⟨h4,hk⟩
  ·exact .inl ⟨h4,back _ σ nx (.inr (.inl ⟨rfl,rfl⟩)) hk⟩
  ·exact .inr ⟨h4,(B2.congr ag hk).mono fun y σ' nx' hk=>⟨hk.1,back y σ' nx' (hs σ' nx' hk.1) hk.2⟩⟩
theorem DF(K:Env→Ab→Nat→Prop):∀(r:List (Nat×Nat)) (listed:Array Bool) (f:Env) (σ:Ab) (nx:Nat),DQ ops listed→A3 ops r listed=true→CS ops r=true→
 Lex P TB Γ ops r K f σ nx→∀j,j∈Region.ready .any ops listed→∃r1 c r2 o,r=r1++(j,c)::r2∧ops[j]? = some o∧E4 P TB Γ ops c o (Lex P TB Γ ops (r1++r2) K) f σ nx
 | [],listed,_,_,_,_,ho,_,_,j,hj=>by have:=IB _ _ ho j hj;simp at this
 | (i, ci)::r,listed,f,σ,nx,hc,ho,hk,h,j,hj=>by
  obtain⟨oi,hoi,h⟩:=h
  by_cases hij:j=i
  ·subst hij
   exact⟨[],ci,r,oi,rfl,hoi,h⟩
  ·simp only [A3,Bool.and_eq_true] at ho
   simp only [CS,Bool.and_eq_true] at hk
   have hi:i∈Region.ready .any ops listed:=by simpa using ho.1
   have hjm:j∈r.map (·.1):=IB r _ ho.2 j (ready_mono hj hij)
   obtain⟨⟨j',cj⟩,hmem,rfl⟩:=List.mem_map.1 hjm
   have hat:=hk.1
   unfold NC at hat
   rw [List.all_eq_true] at hat
   have hnow:∀c',(j',c')∈r→Db ci=false∧(∃oj,ops[j']? = some oj∧oi.apart ops oj=true)∧KH ci c'=true:=by
    intro c' hm'
    have hj0:=hat _ hm'
    simp only [Bool.or_eq_true,Bool.and_eq_true] at hj0
    rcases hj0 with hj0|⟨⟨h1,h2⟩,h3⟩
    ·exact absurd hj (JV hc (Pr (Lh hi)) hj0)
    ·refine⟨by simpa using h1,?_,h3⟩
     rw [hoi] at h2
     cases hoj:ops[j']? with
     | none=>rw [hoj] at h2;cases h2
     | some oj=>rw [hoj] at h2;exact⟨oj,rfl,h2⟩
   have hci:=(hnow cj hmem).1
   have h':E4 P TB Γ ops ci oi (Lex P TB Γ ops r K) f σ nx:=h
   rw [C0 hci] at h'
   obtain⟨x,hy,hl⟩:=h'
   obtain⟨r1,c,r2,oj,hr,hoj,h5⟩:=DF K r (listed.setIfInBounds i true) _ σ nx (Fu hc hi) ho.2 hk.2 hl j' (ready_mono hj hij)
   obtain⟨_,⟨oj',hoj',hap⟩,hcc⟩:=hnow c (by rw [hr];simp)
   rw [hoj] at hoj'
   injection hoj' with hoj'
   subst hoj'
   refine⟨(i,ci)::r1,c,r2,oj,by rw [hr];rfl,hoj,?_⟩
   have h6:=SS hci hap hcc hy h5
   have e:Lex P TB Γ ops ((i,ci)::r1++r2) K=fun f σ nx=>∃o,ops[i]? = some o∧E4 P TB Γ ops ci o (Lex P TB Γ ops (r1++r2) K) f σ nx:=rfl
   rw [e]
   have h7:∀f σ nx,E4 P TB Γ ops ci oi (Lex P TB Γ ops (r1++r2) K) f σ nx→∃o,ops[i]? = some o∧E4 P TB Γ ops ci o (Lex P TB Γ ops (r1++r2) K) f σ nx:=fun f σ nx h=>⟨oi,hoi,h⟩
   exact E4.mono h7 h6
end
structure BM (TB:Bw) (Γ:Ctx) (N:Nat) (V:View) (f:Env) (σ:Ab) (nx:Nat) (a:Act):Prop where
 env:C7 V f a.tmps
 lt:∀t e,f t=some e→t < N
 size:a.tmps.size=N
 inv:Inv TB Γ V σ
 nx:V.nx=nx
 defers:a.defers=[]
def EC(N:Nat)(ops:Array Oper):Bool:=ops.all fun o=>match o.dst with|some d=>Nat.blt d N|none=>true
section
variable {P:Program}{TB:Bw}{Γ:Ctx}{N:Nat}{ops:Array Oper}
theorem PL(h:EC N ops=true){i:Nat}{o:Oper}(ho:ops[i]? = some o){d:Tmp}(hd:o.dst=some d):d < N:=by
 unfold EC at h
 rw [Array.all_eq_true] at h
 obtain⟨hi,rfl⟩:=Array.getElem?_eq_some_iff.1 ho
 have:=h i hi
 rw [hd] at this
 exact Nat.le_of_ble_eq_true this
theorem BM.put{V V':View}{f:Env}{σ σ':Ab}{nx nx':Nat}{a:Act}{d:Option Tmp}{x:E}{v:Value}(h:BM TB Γ N V f σ nx a)(hd:∀t,d=some t→t < N)
 (e:Ext V V') (hi:Inv TB Γ V' σ') (hn:V'.nx=nx') (hx:Bc V' x v):BM TB Γ N V' (Bs f d x) σ' nx' (a.put d v):=by
 cases d with
 | none=>exact⟨h.env.ext e,h.lt,h.size,hi,hn,h.defers⟩
 | some d=>
  refine⟨?_,?_,by simp [Act.put,h.size],hi,hn,h.defers⟩
  ·intro t y hy
   simp only [Bs] at hy
   by_cases ht:t=d
   ·subst ht
    simp only [if_true] at hy
    injection hy with hy
    subst hy
    have:t < a.tmps.size:=by rw [h.size];exact hd t rfl
    simpa [Act.put,this] using hx
   ·rw [if_neg ht] at hy
    have:=(h.env t y hy).ext e
    simpa [Act.put,Array.getElem?_setIfInBounds_ne (Ne.symm ht)] using this
  ·intro t y hy
   simp only [Bs] at hy
   by_cases ht:t=d
   ·subst ht;exact hd t rfl
   ·rw [if_neg ht] at hy;exact h.lt t y hy
theorem Jz(V:View):Bc V (.t []) undef:=⟨#[],rfl,rfl,fun j x v h=>by simp at h⟩
def QQ(TB:Bw)(Γ:Ctx)(N:Nat)(K:Env→Ab→Nat→Prop)(Q:Exit→Act→World→Prop):Prop:=
 ∀V f σ a,BM TB Γ N V f σ V.nx a→K f σ V.nx→Q .normal a V.w
theorem Kw{c:Nat}{i:Nat}{o:Oper}(ho:ops[i]? = some o)(hd:∀t,o.dst=some t→t < N){K:Env→Ab→Nat→Prop}{K':Act→World→Prop}{Q:Exit→Act→World→Prop}
 (hK:∀V f σ a,BM TB Γ N V f σ V.nx a→K f σ V.nx→K' a V.w)
 {V:View} {f:Env} {σ:Ab} {nx:Nat} {a:Act} (hr:BM TB Γ N V f σ nx a) (h:E4 P TB Γ ops c o K f σ nx):wpOp P ops Q i K' a V.w:=by
 have hlt:∀t e,f t=some e→t < a.tmps.size:=fun t e he=>by rw [hr.size];exact hr.lt t e he
 unfold wpOp
 simp only [ho]
 have no:Be ops o f=some false→K (Bs f o.dst (.t [])) σ nx→(if Region.wanted o (yielded ops a.tmps) then o.wp P a V.w K' Q∨(o.asks P a V.w∧LetsOut Q) else K' (a.put o.dst undef) V.w):=by
  intro hg hk
  rw [Fo hr.env hlt hg]
  have h1:BM TB Γ N V (Bs f o.dst (.t [])) σ V.nx (a.put o.dst undef):=hr.put hd (Ext.refl _) hr.inv rfl (Jz V)
  simpa using hK _ _ _ _ h1 (by rw [hr.nx];exact hk)
 have yes:Be ops o f=some true→(∃x,AY P TB Γ o f σ nx x∧K (Bs f o.dst x) σ nx)→(if Region.wanted o (yielded ops a.tmps) then o.wp P a V.w K' Q∨(o.asks P a V.w∧LetsOut Q) else K' (a.put o.dst undef) V.w):=by
  rintro hg ⟨x,hq,hk⟩
  rw [Fo hr.env hlt hg]
  simp only [if_true]
  refine .inl (QG P (Oper.wp_mono ?_ (hq V a (hr.env.op o) hr.inv hr.nx)))
  rintro a' w' ⟨V',v,rfl,rfl,e3,e4,e5,e6⟩
  exact hK V' _ σ _ (hr.put hd e3 e4 rfl e6) (by rw [e5];exact hk)
 cases hn:Db c
 ·rw [C0 hn] at h
  obtain⟨x,hy,hk⟩:=h
  rcases hy with ⟨hg,rfl⟩|⟨hg,q⟩
  ·exact no hg hk
  ·refine yes hg ⟨x,?_,hk⟩
   unfold QC at q
   cases h1:Nat.ble 10 c
   ·rw [h1] at q
    cases h2:Nat.beq c 2
    ·rw [h2] at q;exact q
    ·rw [h2] at q;exact q σ nx
   ·rw [h1] at q;exact q σ nx rfl
 ·rw [El hn] at h
  rcases h with ⟨hg,hk⟩|⟨hg,hk⟩
  ·exact no hg hk
  ·rw [Fo hr.env hlt hg]
   simp only [if_true]
   refine .inl (QG P (Oper.wp_mono ?_ (hk V a (hr.env.op o) hr.inv hr.nx)))
   rintro a' w' ⟨V',v,x,σ',rfl,rfl,e3,e4,e5,e6⟩
   exact hK V' _ σ' _ (hr.put hd e3 e4 rfl e5) e6.2
theorem IX(hd:EC N ops=true){K:Env→Ab→Nat→Prop}{Q:Exit→Act→World→Prop}(hK:QQ TB Γ N K Q):∀(r:List (Nat×Nat)) (V:View) (f:Env) (σ:Ab) (a:Act),
 BM TB Γ N V f σ V.nx a→Lex P TB Γ ops r K f σ V.nx→wpOps P ops Q (r.map (·.1)) a V.w
 | [],V,f,σ,a,hr,h=>hK V f σ a hr h
 | (i,c)::r,V,f,σ,a,hr,h=>by
  obtain⟨o,ho,h⟩:=h
  rw [List.map_cons,wpOps_cons]
  exact Kw ho (fun t ht=>PL hd ho ht) (fun V' f' σ' a' hr' hk=>IX hd hK r V' f' σ' a' hr' hk) hr h
theorem IW(hd:EC N ops=true){K:Env→Ab→Nat→Prop}{Q:Exit→Act→World→Prop}(hK:QQ TB Γ N K Q):∀(n:Nat) (r:List (Nat×Nat)) (listed:Array Bool) (V:View) (f:Env) (σ:Ab) (a:Act),
 r.length=n→DQ ops listed→A3 ops r listed=true→CS ops r=true→BM TB Γ N V f σ V.nx a→Lex P TB Γ ops r K f σ V.nx→wpAny P .any ops Q n listed a V.w
 | 0,r,listed,V,f,σ,a,hn,hc,ho,hk,hr,h=>by
  have:r=[]:=List.length_eq_zero_iff.1 hn
  subst this
  refine⟨?_,hK V f σ a hr h⟩
  simpa [A3] using ho
 | n + 1,r,listed,V,f,σ,a,hn,hc,ho,hk,hr,h=>by
  refine⟨fun hnil=>?_,fun j hj=>?_⟩
  ·cases r with
   | nil=>simp at hn
   | cons x r=>
    obtain⟨i,c⟩:=x
    simp only [A3,Bool.and_eq_true] at ho
    have:=ho.1
    rw [hnil] at this
    simp at this
  ·obtain⟨r1,c,r2,o,rfl,hoj,h1⟩:=DF K r listed f σ V.nx hc ho hk h j hj
   refine Kw hoj (fun t ht=>PL hd hoj ht) (fun V' f' σ' a' hr' hk'=>?_) hr h1
   exact IW hd hK n (r1++r2) _ V' f' σ' a' (by simp at hn ⊢;omega) (Fu hc hj) (Lc r1 r2 j c listed ho hj) (Iz r1 r2 _ hk) hr' hk'
def Ak(P:Program)(TB:Bw)(Γ:Ctx)(N:Nat)(c:Code)(Q:Exit→Env→Ab→Nat→Prop)(f:Env)(σ:Ab)(nx:Nat):Prop:=
 ∀V a,BM TB Γ N V f σ nx a→c.wp P (fun e a' w'=>∃V' f' σ',V'.w=w'∧Q e f' σ' V'.nx∧BM TB Γ N V' f' σ' V'.nx a') a V.w
variable {Q:Exit→Env→Ab→Nat→Prop}{f:Env}{σ:Ab}{nx:Nat}
theorem Ak.skip(h:Q .normal f σ nx):Ak P TB Γ N .skip Q f σ nx:=fun V _ hr=>wp_skip ⟨V,f,σ,rfl,by rw [hr.nx];exact h,by rw [hr.nx];exact hr⟩
theorem Ak.exit{id:Nat}(h:Q (.exit id) f σ nx):Ak P TB Γ N (.exit id) Q f σ nx:=fun V _ hr=>wp_exit ⟨V,f,σ,rfl,by rw [hr.nx];exact h,by rw [hr.nx];exact hr⟩
theorem Ak.ret(h:Q .ret f σ nx):Ak P TB Γ N .ret Q f σ nx:=fun V _ hr=>wp_ret ⟨V,f,σ,rfl,by rw [hr.nx];exact h,by rw [hr.nx];exact hr⟩
def IS(K:Env→Ab→Nat→Prop)(Q:Exit→Env→Ab→Nat→Prop):Exit→Env→Ab→Nat→Prop
 | .normal=>K
 | e=>Q e
theorem Ak.seq{x y:Code}(h:Ak P TB Γ N x (IS (Ak P TB Γ N y Q) Q) f σ nx):Ak P TB Γ N (.seq x y) Q f σ nx:=by
 intro V a hr
 refine wp_seq (wp_mono (h V a hr) ?_)
 rintro e a' w' ⟨V',f',σ',rfl,h2,h3⟩
 cases e with
 | normal=>exact h2 V' a' h3
 | exit id=>exact⟨V',f',σ',rfl,h2,h3⟩
 | goto l=>exact⟨V',f',σ',rfl,h2,h3⟩
 | ret=>exact⟨V',f',σ',rfl,h2,h3⟩
 | panic ch=>exact⟨V',f',σ',rfl,h2,h3⟩
 | outgrown=>exact⟨V',f',σ',rfl,h2,h3⟩
def bA(id:Nat)(Q:Exit→Env→Ab→Nat→Prop):Exit→Env→Ab→Nat→Prop
 | .exit id'=>bif Nat.beq id' id then Q .normal else Q (.exit id')
 | e=>Q e
theorem Ak.block{id:Nat}{c:Code}(h:Ak P TB Γ N c (bA id Q) f σ nx):Ak P TB Γ N (.block id c) Q f σ nx:=by
 intro V a hr
 refine wp_block (wp_mono (h V a hr) ?_)
 rintro e a' w' ⟨V',f',σ',rfl,h2,h3⟩
 cases e with
 | exit id'=>
  simp only [Exit.inBlock]
  by_cases hid:id'=id
  ·subst hid
   simp only [bA,Nat.beq_refl,cond_true] at h2
   rw [if_pos rfl]
   exact⟨V',f',σ',rfl,h2,h3⟩
  ·have:Nat.beq id' id=false:=by
    cases hb:Nat.beq id' id
    ·rfl
    ·exact absurd (Nat.eq_of_beq_eq_true hb) hid
   simp only [bA,this,cond_false] at h2
   rw [if_neg hid]
   exact⟨V',f',σ',rfl,h2,h3⟩
 | normal=>exact⟨V',f',σ',rfl,h2,h3⟩
 | goto l=>exact⟨V',f',σ',rfl,h2,h3⟩
 | ret=>exact⟨V',f',σ',rfl,h2,h3⟩
 | panic ch=>exact⟨V',f',σ',rfl,h2,h3⟩
 | outgrown=>exact⟨V',f',σ',rfl,h2,h3⟩
def cE:Value→Option E
 | .slice none 0 0=>some (.o (.d (.l [])))
 | v=>bif Lq v then some (.o (.d (.v v))) else none
def ev(f:Env):Operand→Option E
 | .tmp t=>f t
 | .const v=>cE v
 | .global _=>none
 | .func f=>some (.o (.fn f []))
theorem T8{V:View}{v:Value}{e:E}(h:cE v=some e):Bc V e v:=by
 unfold cE at h
 split at h
 ·injection h with h;subst h;exact .d .nil
 ·cases hs:Lq v
  ·rw [hs] at h;cases h
  ·rw [hs] at h;injection h with h;subst h;exact .d (.v hs)
theorem Ys{V:View}{o:Oper}{f:Env}{a:Act}(h:HX V o f a){x:Operand}(hx:x∈o.op.operands){e:E}(he:ev f x=some e):Bc V e (a.eval x):=by
 cases x with
 | tmp t=>exact h t e hx he
 | const v=>exact T8 he
 | global g=>cases he
 | func g=>
  injection he with he;subst he
  exact .fn rfl (fun j c v hj=>by simp at hj)
theorem Yr{V:View}{f:Env}{a:Act}(h:C7 V f a.tmps){x:Operand}{e:E}(he:ev f x=some e):Bc V e (a.eval x):=by
 cases x with
 | tmp t=>exact h t e he
 | const v=>exact T8 he
 | global g=>cases he
 | func g=>
  injection he with he;subst he
  exact .fn rfl (fun j c v hj=>by simp at hj)
theorem Ak.cond{c:Operand}{x y:Code}{b:Bool}(hc:ev f c=some (.o (.d (.v (.bool b)))))(ht:b=true→Ak P TB Γ N x Q f σ nx)(hf:b=false→Ak P TB Γ N y Q f σ nx) :
 Ak P TB Γ N (.cond c x y) Q f σ nx:=by
 intro V a hr
 have h1:a.eval c=.bool b:=AI.val (Yr hr.env hc)
 exact wp_cond_split h1 (fun h=>ht h V a hr) (fun h=>hf h V a hr)
theorem Ak.region{id:Nat}(r:List (Nat×Nat))(hd:EC N ops=true)(hr:r.map (·.1)=List.range ops.size)(h:Lex P TB Γ ops r (fun f σ nx=>Q .normal f σ nx) f σ nx) :
 Ak P TB Γ N (.region id ops false) Q f σ nx:=by
 intro V a hs
 refine wp_region ?_
 rw [←hr]
 have hnx:=hs.nx
 subst hnx
 exact IX hd (fun V f σ a hs hk=>⟨V,f,σ,rfl,hk,hs⟩) r V f σ a hs h
theorem JF(ops:Array Oper):DQ ops (Array.replicate ops.size false):=by
 intro j hj
 have:(Array.replicate ops.size false).getD j false=false:=by
  rcases Nat.lt_or_ge j ops.size with h|h
  ·simp [h]
  ·simp [h]
 rw [this] at hj;cases hj
theorem Inv.drew{V:View}(h:Inv TB Γ V σ):Inv TB Γ { V with w:={ V.w with drawn:=V.w.drawn+1 } } σ∧Ext V { V with w:={ V.w with drawn:=V.w.drawn+1 } } := by
 have e:Ext V { V with w:={ V.w with drawn:=V.w.drawn+1 } } := ⟨fun _ h=>h,fun _ _=>rfl,Nat.le_refl _,fun _ _=>rfl,fun _ _=>rfl,fun _ _=>Iff.rfl,Nat.le_refl _⟩
 refine⟨⟨h.os,h.tape,h.output,h.old,h.iLt,h.iNew,h.ext.trans e,⟨fun id o ho=>?_,h.st.lt,h.st.free,h.st.inj⟩,h.live,h.tabs,h.hid.step (fun _ h=>h) (fun _ _=>rfl) (Nat.le_refl _) (fun _ _ _ _=>rfl) (fun _ h=>.inl h) (fun b hb=>.inl (GB e h.st.lt hb))⟩,e⟩
 have h1:=h.st.obj id o ho
 cases o with
 | cells T k rows=>
  rcases h1 with h1|⟨h0,cur,h2,h3,h4,h5,h6,h7⟩
  ·exact .inl h1
  ·exact .inr ⟨h0,cur,h2,h3,h4,h5,h6,fun i r j c hi hj=>let ⟨v,h8,h9⟩:=h7 i r j c hi hj;⟨v,h8,h9.ext e⟩⟩
 | mp=>exact h1
 | sld=>exact h1
theorem Ak.Xi{id:Nat}(r:List (Nat×Nat))(hm:P.follows .mixedOrders=true)(hd:EC N ops=true)(hn:r.length=ops.size)(ho:(A3 ops r (Array.replicate ops.size false) && CS ops r)=true)
 (h:Lex P TB Γ ops r (fun f σ nx=>Q .normal f σ nx) f σ nx):Ak P TB Γ N (.region id ops true) Q f σ nx:=by
 intro V a hs
 rw [Bool.and_eq_true] at ho
 refine wp_region_any hm ?_
 obtain⟨h1,h2⟩:=hs.inv.drew
 have hs':BM TB Γ N { V with w:={ V.w with drawn:=V.w.drawn+1 } } f σ V.nx a:=⟨hs.env.ext h2,hs.lt,hs.size,h1,rfl,hs.defers⟩
 have hnx:=hs.nx
 subst hnx
 exact IW hd (fun V f σ a hs hk=>⟨V,f,σ,rfl,hk,hs⟩) ops.size r _ { V with w:={ V.w with drawn:=V.w.drawn+1 } } f σ a hn (JF ops) ho.1 ho.2 hs' h
theorem Ak.loop{α:Type}{c:Code}(S:α→Env×Ab×Nat)(μ:α→Nat)(back:α→Env→Ab→Nat→Prop)
 (hback:∀y f σ nx V a,back y f σ nx→BM TB Γ N V f σ nx a→∃V',V'.w=V.w∧BM TB Γ N V' (S y).1 (S y).2.1 (S y).2.2 a)
 (x:α) (h0:back x f σ nx) (round:∀x,Ak P TB Γ N c (IS (fun f σ nx=>∃y,μ y < μ x∧back y f σ nx) Q) (S x).1 (S x).2.1 (S x).2.2) :
 Ak P TB Γ N (.loop c) Q f σ nx:=by
 intro V a hr b k cs
 have key:∀n y,μ y=n→∀V a,BM TB Γ N V (S y).1 (S y).2.1 (S y).2.2 a→
  ∃e a' w',(∃V' f' σ',V'.w=w'∧Q e f' σ' V'.nx∧BM TB Γ N V' f' σ' V'.nx a')∧Arrives P (lone (b.at a (.code c::.inLoop c::k)) cs V.w) b k cs e a' w':=by
  intro n
  induction n using Nat.strongRecOn with
  | _ n ih=>
   intro y hy V a hr
   obtain⟨e,a₁,w₁,hq,harr⟩:=round y V a hr b (.inLoop c::k) cs
   obtain⟨V',f',σ',rfl,h2,h3⟩:=hq
   cases e with
   | normal=>
    obtain⟨z,hz,hb⟩:=h2
    obtain⟨V'',e1,hr''⟩:=hback z f' σ' V'.nx V' a₁ hb h3
    obtain⟨e₂,a₂,w₂,hq₂,harr₂⟩:=ih (μ z) (hy ▸ hz) z rfl V'' a₁ hr''
    rw [e1] at harr₂
    exact⟨e₂,a₂,w₂,hq₂,.of_steps (Steps.trans harr (.one step_inLoop)) harr₂⟩
   | exit id=>exact⟨_,a₁,_,⟨V',f',σ',rfl,h2,h3⟩,.pass (x:=.inLoop c) rfl (fun _ _=>.inl (by simp)) harr⟩
   | goto l=>exact⟨_,a₁,_,⟨V',f',σ',rfl,h2,h3⟩,.pass (x:=.inLoop c) rfl (fun _ _=>.inl (by simp)) harr⟩
   | ret=>exact⟨_,a₁,_,⟨V',f',σ',rfl,h2,h3⟩,.pass (x:=.inLoop c) rfl (fun _ _=>.inl (by simp)) harr⟩
   | panic ch=>exact⟨_,a₁,_,⟨V',f',σ',rfl,h2,h3⟩,.pass (x:=.inLoop c) rfl (fun _ _=>.inl (by simp)) harr⟩
   | outgrown=>exact⟨_,a₁,_,⟨V',f',σ',rfl,h2,h3⟩,.pass (x:=.inLoop c) rfl (fun _ _=>.inl (by simp)) harr⟩
 obtain⟨V',e1,hr'⟩:=hback x f σ nx V a h0 hr
 obtain⟨e,a',w',hq,harr⟩:=key _ x rfl V' a hr'
 rw [e1] at harr
 exact⟨e,a',w',hq,.of_steps (.one step_loop) harr⟩
end
end Go.Am
