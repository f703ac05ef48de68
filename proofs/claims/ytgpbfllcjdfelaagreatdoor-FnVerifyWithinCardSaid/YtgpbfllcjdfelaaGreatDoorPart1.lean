/-
  A machine of pure data over the kit's machine: values without addresses, their reading in a world, the walk of code over them, any order of a region that draws.
-/
import Derived.Still
import Derived.Laws.AppendOwn
import Derived.Test.YtgpbfllcjdfelaaGreatDoorRows
import Derived.JoinedCond
import Derived.KernelRfl
set_option linter.all false
namespace Go.Am
abbrev am:=@Nat.le_of_ble_eq_true
abbrev ce:=@List.getElem?_eq_some_iff
abbrev co:=@List.mem_of_getElem?
abbrev d4:=@Bool.and_eq_true
abbrev d5:=@List.getElem?_eq_getElem
abbrev d6:=@Function.comp_def
abbrev d7:=@Option.map_eq_some_iff
abbrev d8:=@List.mem_map
abbrev d9:=@List.getElem?_append_left
abbrev em:=@List.getElem?_append_right
abbrev f6:=@List.mem_append
abbrev f7:=@Nat.eq_of_beq_eq_true
abbrev f9:=@List.length_map
abbrev gc:=@List.all_eq_true
abbrev ge:=@List.getElem?_map
abbrev gt:=@List.take_add_one
abbrev i7:=@List.take_length
abbrev i8:=@Nat.not_lt_zero
abbrev i9:=@Int.toNat_natCast
abbrev io:=@Nat.le_refl
abbrev jp:=@Nat.le_trans
abbrev kw:=@List.nodup_nil
abbrev l3:=@Int.mul_le_mul
abbrev l4:=@Int.mul_nonneg
abbrev l5:=@Nat.mul_le_mul_right
abbrev l6:=@List.getElem_mem
abbrev l7:=@List.length_cons
abbrev l8:=@List.append_nil
abbrev l9:=@Nat.lt_or_ge
abbrev lC:=@Nat.lt_of_lt_of_le
abbrev lD:=@Array.getElem?_eq_getElem
abbrev lE:=@Nat.zero_add
abbrev lF:=@List.mem_cons
abbrev lG:=@Sem.run_bind
abbrev lH:=@Option.bind_eq_some_iff
abbrev lI:=@List.pairwise_iff_getElem
abbrev lJ:=@List.mem_filter
abbrev lK:=@Bool.or_eq_true
abbrev lL:=@Array.getElem?_eq_some_iff
abbrev lM:=@Array.getElem?_append_left
abbrev lN:=@List.mem_range
abbrev lO:=@List.mem_append_left
abbrev lP:=@List.mem_cons_of_mem
abbrev lQ:=@List.getElem?_eq_none
abbrev lR:=@List.getElem?_take
abbrev lS:=@List.getElem?_drop
abbrev lT:=@List.getElem_of_mem
abbrev lU:=@List.mem_of_mem_take
abbrev lV:=@List.mem_append_right
abbrev lW:=@Nat.mod_eq_of_lt
abbrev lX:=@Nat.add_assoc
abbrev lY:=@List.length_set
abbrev lZ:=@Nat.add_mul
abbrev lc:=@Result.andThen_ok
abbrev lm:=@List.take_of_length_le
abbrev lw:=@List.length_eq_zero_iff
abbrev m7:=@Int.mul_assoc
abbrev m8:=@Nat.testBit_two_pow
abbrev m9:=@List.map_congr_left
abbrev mA:=@Array.getElem?_append_right
abbrev mB:=@List.filter_append
abbrev mC:=@List.filter_cons_of_pos
abbrev mD:=@List.cons_append
abbrev mE:=@Nat.pow_le_pow_right
abbrev mF:=@Bool.true_and
abbrev mH:=@List.drop_of_length_le
abbrev mI:=@List.length_append
abbrev mJ:=@List.mem_flatMap
abbrev mK:=@List.mem_of_mem_drop
abbrev mL:=@Nat.le_mul_of_pos_right
abbrev mM:=@List.foldl_cons
abbrev mN:=@Nat.zero_mul
abbrev mO:=@Array.getElem?_setIfInBounds_ne
abbrev mP:=@Int.add_mul
abbrev mQ:=@Array.eq_empty_of_size_eq_zero
abbrev mR:=@Int.ediv_nonneg
abbrev mS:=@List.pairwise_append
abbrev mU:=@Nat.eq_of_testBit_eq
abbrev mV:=@Nat.lt_succ_of_lt
abbrev mW:=@Bool.not_eq_true'
abbrev mY:=@List.pairwise_map
abbrev mZ:=@List.ext_getElem?
abbrev ma:=@List.pairwise_cons
abbrev mc:=@Int.emod_lt_of_pos
abbrev me:=@Nat.zero_le
abbrev mf:=@List.getElem?_set_self
abbrev mg:=@List.getElem?_set_ne
abbrev mh:=@Nat.eq_zero_or_pos
abbrev mj:=@Int.mul_le_mul_of_nonneg_right
abbrev ml:=@Int.mul_le_mul_of_nonneg_left
abbrev mn:=@List.map_append
abbrev mq:=@Int.emod_nonneg
abbrev mr:=@List.map_map
abbrev ms:=@Array.getElem?_toList
abbrev mt:=@List.map_cons
abbrev mu:=@List.getElem?_toArray
abbrev mw:=@List.drop_zero
abbrev mx:=@List.map_set
abbrev mz:=@List.take_append_drop
abbrev n7:=@List.take_succ_cons
abbrev n8:=@Array.mapM_eq_mapM_toList
abbrev n9:=@List.drop_eq_getElem_cons
abbrev nA:=@List.getElem?_range
abbrev nB:=@Int.ediv_ediv_of_nonneg
abbrev nC:=@List.filter_cons_of_neg
abbrev nD:=@Nat.lt_or_gt_of_ne
abbrev nE:=@List.range_succ
abbrev nF:=@List.find?_eq_none
abbrev nG:=@Bool.false_eq_true
abbrev nH:=@List.mem_cons_self
abbrev nI:=@Sem.run_map
abbrev nJ:=@List.nodup_append
abbrev nK:=@Nat.or_lt_two_pow
abbrev nL:=@Int.emod_eq_of_lt
abbrev nM:=@List.filter_congr
abbrev nN:=@Nat.ble_eq_true_of_le
abbrev nO:=@Nat.add_zero
abbrev nP:=@List.map_nil
abbrev nQ:=@Int.mul_comm
abbrev nR:=@List.set_append_right
abbrev nS:=@List.dropLast_concat_getLast
abbrev nT:=@Nat.testBit_or
abbrev nU:=@Int.zero_add
abbrev nV:=@Int.add_mul_emod_self_right
abbrev nW:=@List.length_take
abbrev nX:=@List.filter_cons
abbrev nY:=@List.getD_eq_getElem?_getD
abbrev nZ:=@List.replicate_succ
abbrev nc:=@Int.ediv_le_self
abbrev nf:=@Array.getElem?_setIfInBounds
abbrev ng:=@Nat.testBit_succ
abbrev nh:=@Option.map_some
abbrev nj:=@List.nil_append
abbrev nk:=@Bool.eq_iff_iff
abbrev nn:=@List.length_filter_le
abbrev nq:=@Int.natCast_mul
abbrev nr:=@List.flatMap_cons
abbrev nt:=@List.getElem?_of_mem
abbrev nu:=@List.mapM_cons
abbrev nv:=@Option.bind_some
abbrev nw:=@Nat.lt_succ_self
abbrev ny:=@Array.toList_map
abbrev nz:=@Nat.lt_succ_iff_lt_or_eq
abbrev o3:=@Int.zero_mul
abbrev o4:=@List.length_flatten
abbrev o5:=@Option.bind_eq_bind
abbrev o6:=@List.length_pos_iff
abbrev o7:=@Int.toNat_of_nonneg
abbrev o8:=@List.filter_eq_self
abbrev o9:=@Int.mul_one
abbrev oH:=@Int.add_mul_ediv_right
abbrev oI:=@Int.ediv_eq_zero_of_lt
abbrev oJ:=@List.filter_eq_nil_iff
abbrev oK:=@Option.getD_some
abbrev oL:=@List.any_eq_true
abbrev oM:=@List.prefix_refl
abbrev oN:=@List.not_mem_nil
abbrev oO:=@List.drop_length
abbrev oP:=@Nat.testBit_eq_decide_div_mod_eq
abbrev oQ:=@List.getElem?_zipWith
abbrev oR:=@List.zipWith_nil_left
abbrev oS:=@List.eraseIdx_eq_take_drop_succ
abbrev oT:=@List.mk_mem_zipIdx_iff_getElem?
abbrev oU:=@Nat.beq_refl
abbrev oV:=@List.length_nil
abbrev oW:=@Nat.two_pow_pos
abbrev oX:=@Nat.testBit_and
abbrev oY:=@Nat.and_le_left
abbrev oa:=@Nat.add_comm
abbrev oc:=@Nat.mul_comm
abbrev oe:=@List.mem_singleton
abbrev og:=@Nat.pow_succ
abbrev oh:=@Int.add_comm
abbrev ol:=@Bool.or_true
abbrev oo:=@Bool.false_ne_true
abbrev oq:=@List.getElem?_cons_succ
abbrev ot:=@Array.any_eq_true
abbrev ou:=@Nat.lt_trichotomy
abbrev ow:=@List.foldl_append
abbrev ox:=@List.append_assoc
abbrev oy:=@Array.getElem?_extract
abbrev oz:=@List.zipWith_cons_cons
abbrev pA:=@Nat.zero_testBit
abbrev pB:=@List.any_append
abbrev pC:=@Nat.zero_lt_one
abbrev pD:=@Int.one_mul
abbrev pE:=@Nat.mul_one
abbrev pb:=@List.prefix_append
abbrev pc:=@List.filter_filter
abbrev pe:=@Bool.false_or
abbrev pf:=@Bool.and_self
abbrev pg:=@Array.getElem_mem
abbrev ph:=@List.size_toArray
abbrev pi:=@List.flatten_cons
abbrev pj:=@List.length_range
abbrev pk:=@List.map_inj_left
abbrev pm:=@List.find?_append
abbrev po:=@Nat.le_of_lt
abbrev pp:=@List.map_toArray
abbrev pu:=@Nat.sub_zero
abbrev pv:=@List.length_drop
abbrev px:=@Int.add_zero
abbrev pz:=@List.flatMap_nil
open Go
inductive D where
 | v (x:Value)
 | l (rows:List (List D))
 | p (cells:List D)
inductive C where
 | d (x:D)
 | arr (id k off len:Nat)
 | ptr (id k i j:Nat)
 | fn (f:FuncId) (cap:List C)
 | mp (id:Nat)
 | mv (f:FuncId) (recv:List C)
abbrev C.ip(cells:List D):C:=.d (.p cells)
inductive E where
 | o (c:C)
 | a (cs:List C)
 | t (xs:List (Bool×List C))
 | e
def Oz:Value->Bool
 | .bool _|.int ..|.float ..|.complex ..|.string _|.pointer _|.map none|.chan none|.nilFunc|.nilIface|.slice .. => true
 | .func (.func _) ⟨[]⟩ ⟨[]⟩=>true
 | _=>false
structure View where
 I:Nat->Prop
 ρ:Nat->Nat
 cap:Nat->Nat
 nl:Nat->Prop
 nx:Nat
 w:World
inductive Di (I:Nat->Prop) (w:World):D->Value->Prop
 | v {x:Value}:Oz x=true->Di I w (.v x) x
 | nil:Di I w (.l []) (.slice none 0 0)
 | e {a:Addr} {cap:Nat}:cap<=maxLen->Di I w (.l []) (.slice (some a) 0 cap)
 | l {rows:List (List D)} {b o k cap:Nat} {vs:Nat->Nat->Value}:I b->rows.length<=cap->cap<=maxLen->
  (∀(i:Nat) (r:List D),rows[i]? = some r->r.length=k)->
  (∀(i:Nat) (r:List D) (j:Nat) (d:D),rows[i]? = some r->r[j]? = some d->w.cell? ⟨b,o+i*k+j,none⟩=some (vs i j))->
  (∀(i:Nat) (r:List D) (j:Nat) (d:D),rows[i]? = some r->r[j]? = some d->Di I w d (vs i j))->
  Di I w (.l rows) (.slice (some ⟨b,o,none⟩) rows.length cap)
 | p {cells:List D} {b o:Nat} {vs:Nat->Value}:I b->(∀(j:Nat) (d:D),cells[j]? = some d->w.cell? ⟨b,o+j,none⟩=some (vs j))->(∀(j:Nat) (d:D),cells[j]? = some d->Di I w d (vs j))->
  Di I w (.p cells) (.pointer (some ⟨b,o,none⟩))
theorem NB{w w':World}{b:Nat}(h:w'.heap[b]? = w.heap[b]?)(o:Nat):w'.cell? ⟨b,o,none⟩=w.cell? ⟨b,o,none⟩:=by
 simp [World.cell?,h]
theorem Di.mono{I I':Nat->Prop}{w w':World}{d:D}{v:Value}(hI:∀b,I b->I' b)(g:∀b,I b->w'.heap[b]? = w.heap[b]?)(h:Di I w d v):Di I' w' d v:=by
 induction h with
 | v h=>exact .v h
 | nil=>exact .nil
 | e h=>exact .e h
 | @l rows b o k cap vs hb f q n m _ c=>
  exact .l (hI b hb) f q n (λi r j d hi a=>by rw [NB (g b hb)];exact m i r j d hi a) (λi r j d hi a=>c i r j d hi a)
 | @p cells b o vs hb f _ c=>exact .p (hI b hb) (λj d a=>by rw [NB (g b hb)];exact f j d a) (λj d a=>c j d a)
inductive AF (V:View):C->Value->Prop
 | d {x:D} {v:Value}:Di V.I V.w x v->AF V (.d x) v
 | nil {id k:Nat}:id < V.nx->V.nl id->AF V (.arr id k 0 0) (.slice none 0 0)
 | arr {id k off len:Nat}:id < V.nx->¬V.nl id->off+len<=V.cap id->AF V (.arr id k off len) (.slice (some ⟨V.ρ id,off*k,none⟩) len (V.cap id - off))
 | ptr {id k i j:Nat}:id < V.nx->¬V.nl id->AF V (.ptr id k i j) (.pointer (some ⟨V.ρ id,i*k+j,none⟩))
 | fn {f:FuncId} {cap:List C} {vs:Array Value}:vs.size=cap.length->(∀(j:Nat) (c:C) (v:Value),cap[j]? = some c->vs[j]? = some v->AF V c v)->AF V (.fn f cap) (.func (.func f) #[] vs)
 | mp {id:Nat}:id < V.nx->AF V (.mp id) (.map (some (V.ρ id)))
 | mv {f:FuncId} {recv:List C} {vs:Array Value}:vs.size=recv.length->(∀(j:Nat) (c:C) (v:Value),recv[j]? = some c->vs[j]? = some v->AF V c v)->AF V (.mv f recv) (.func (.func f) vs #[])
theorem AF.ip{V:View}{cells:List D}{b o:Nat}{vs:Nat->Value}(hb:V.I b)(c:∀(j:Nat) (d:D),cells[j]? = some d->V.w.cell? ⟨b,o+j,none⟩=some (vs j))(a:∀(j:Nat) (d:D),cells[j]? = some d->Di V.I V.w d (vs j)) :
 AF V (.ip cells) (.pointer (some ⟨b,o,none⟩)):=.d (.p hb c a)
theorem Di.val{I:Nat->Prop}{w:World}{x v:Value}(h:Di I w (.v x) v):v=x:=by cases h;rfl
theorem AF.val{V:View}{x v:Value}(h:AF V (.d (.v x)) v):v=x:=by cases h with|d h=>exact h.val
structure Ext (V V':View):Prop where
 i:∀b,V.I b->V'.I b
 heap:∀b,V.I b->V'.w.heap[b]? = V.w.heap[b]?
 size:V.w.heap.size<=V'.w.heap.size
 ρ:∀id,id < V.nx->V'.ρ id=V.ρ id
 cap:∀id,id < V.nx->V'.cap id=V.cap id
 nl:∀id,id < V.nx->(V'.nl id↔V.nl id)
 nx:V.nx<=V'.nx
theorem Ext.refl(V:View):Ext V V:=⟨λ_ h=>h,λ_ _=>rfl,io _,λ_ _=>rfl,λ_ _=>rfl,λ_ _=>Iff.rfl,io _⟩
theorem Ext.trans{A B C:View}(h:Ext A B)(k:Ext B C):Ext A C:=
 ⟨λb hb=>k.i b (h.i b hb),λb hb=>(k.heap b (h.i b hb)).trans (h.heap b hb),jp h.size k.size,
  λi hi=>(k.ρ i (lC hi h.nx)).trans (h.ρ i hi),λi hi=>(k.cap i (lC hi h.nx)).trans (h.cap i hi),λi hi=>(k.nl i (lC hi h.nx)).trans (h.nl i hi),jp h.nx k.nx⟩
theorem Di.ext{V V':View}{d:D}{v:Value}(e:Ext V V')(h:Di V.I V.w d v):Di V'.I V'.w d v:=h.mono e.i e.heap
theorem AF.ext{V V':View}{c:C}{v:Value}(e:Ext V V')(h:AF V c v):AF V' c v:=by
 induction h with
 | d h=>exact .d (h.ext e)
 | @nil id k a f=>exact .nil (lC a e.nx) ((e.nl id a).2 f)
 | @arr id k off len a g f=>rw [<-e.ρ id a,<-e.cap id a];exact .arr (lC a e.nx) (λh=>g ((e.nl id a).1 h)) (by rw [e.cap id a];exact f)
 | @ptr id k i j a g=>rw [<-e.ρ id a];exact .ptr (lC a e.nx) (λh=>g ((e.nl id a).1 h))
 | fn a _ b=>exact .fn a b
 | @mp id a=>rw [<-e.ρ id a];exact .mp (lC a e.nx)
 | mv a _ b=>exact .mv a b
def CY(V:View)(cs:List C)(vs:Array Value):Prop:=vs.size=cs.length/\∀(j:Nat) c v,cs[j]? = some c->vs[j]? = some v->AF V c v
theorem CY.ext{V V':View}{cs:List C}{vs:Array Value}(e:Ext V V')(h:CY V cs vs):CY V' cs vs:=⟨h.1,λj c v a b=>(h.2 j c v a b).ext e⟩
def Lj(V:View):Bool×List C->Value->Prop
 | (true,cs),v=>∃vs,v=.agg vs/\CY V cs vs
 | (false,cs),v=>∃c,cs=[c]/\AF V c v
theorem Lj.ext{V V':View}{x:Bool×List C}{v:Value}(e:Ext V V')(h:Lj V x v):Lj V' x v:=by
 obtain⟨b,cs⟩:=x;cases b
 ·obtain⟨c,d,a⟩:=h;exact⟨c,d,a.ext e⟩
 ·obtain⟨vs,d,a⟩:=h;exact⟨vs,d,a.ext e⟩
def Bg(V:View):E->Value->Prop
 | .o c,v=>AF V c v
 | .a cs,v=>∃vs,v=.agg vs/\CY V cs vs
 | .t xs,v=>∃vs:Array Value,v=.tuple vs/\vs.size=xs.length/\∀(j:Nat) x v,xs[j]? = some x->vs[j]? = some v->Lj V x v
 | .e,v=>∃b,v=.slice b 0 0
theorem Bg.ext{V V':View}{x:E}{v:Value}(e:Ext V V')(h:Bg V x v):Bg V' x v:=by
 cases x with
 | o c=>exact AF.ext e h
 | a cs=>obtain⟨vs,f,d⟩:=h;exact⟨vs,f,d.ext e⟩
 | t xs=>obtain⟨vs,f,d,g⟩:=h;exact⟨vs,f,d,λj x v a b=>(g j x v a b).ext e⟩
 | e=>exact h
inductive O where
 | cells (T k:Nat) (rows:List (List C))
 | mp (es:List (Value×Value))
 | sld (T:Nat) (l:List (Value×List Value))
abbrev Ab:=List (Nat×O)
def look{α:Type}:List (Nat×α)->Nat->Option α
 | [],_=>none
 | (k,x)::r,i=>bif Nat.beq k i then some x else look r i
theorem Az{α:Type}(k:Nat)(x:α)(r:List (Nat×α))(i:Nat):look ((k,x)::r) i=if k=i then some x else look r i:=by
 simp only [look];by_cases h:k=i
 ·subst h;simp
 ·have:Nat.beq k i=false:=by
   cases hb:Nat.beq k i
   ·rfl
   ·exact absurd (f7 hb) h
  simp [this,h]
def Ju(v:Value)(b:Nat):Prop:=∃o n c,v=.slice (some ⟨b,o,none⟩) n c
def Eh(V:View)(id:Nat):O->Nat->Prop
 | .cells ..,b=>b=V.ρ id
 | .mp _,b=>b=V.ρ id
 | .sld _ l,b=>∃x∈l,Ju x.1 b
def JW(w:World)(T:Nat)(v:Value)(row:List Value):Prop:=(v=.slice none 0 0/\row=[])\/
 ∃b cap cur,v=.slice (some ⟨b,0,none⟩) row.length cap/\w.heap[b]? = some (.cells cur T (0,0))/\cur.size=cap/\row.length<=cap/\cap<=maxLen/\∀(j:Nat) (x:Value),row[j]? = some x->cur[j]? = some x/\Oz x=true
def bP(w:World)(T:Nat)(l:List (Value×List Value)):Prop:=l.Pairwise (λx y=>∀b,Ju x.1 b->¬Ju y.1 b)/\∀x∈l,JW w T x.1 x.2
theorem JW.AL{w w':World}{T:Nat}{v:Value}{row:List Value}(a:∀b,Ju v b->w'.heap[b]? = w.heap[b]?)(h:JW w T v row):JW w' T v row:=by
 rcases h with h|⟨b,cap,cur,rfl,d,c⟩
 ·exact .inl h
 ·exact .inr ⟨b,cap,cur,rfl,by rw [a b ⟨_,_,_,rfl⟩];exact d,c⟩
theorem JW.blt{w:World}{T:Nat}{v:Value}{row:List Value}(h:JW w T v row){b:Nat}(hb:Ju v b):b < w.heap.size:=by
 obtain⟨o,n,c,hb⟩:=hb
 rcases h with ⟨h,_⟩|⟨b',cap,cur,rfl,a,_⟩
 ·rw [h] at hb;cases hb
 ·injection hb with hb;injection hb with hb;injection hb with hb;subst hb;exact(lL.1 a).1
theorem bP.AL{w w':World}{T:Nat}{l:List (Value×List Value)}(c:∀x∈l,∀b,Ju x.1 b->w'.heap[b]? = w.heap[b]?)(h:bP w T l):bP w' T l:=
 ⟨h.1,λx a=>(h.2 x a).AL (c x a)⟩
def Cs(V:View)(id:Nat):O->Prop
 | .cells T k rows=>(V.nl id/\rows=[])\/¬V.nl id/\∃cur,V.w.heap[V.ρ id]? = some (.cells cur T (0,0))/\cur.size=V.cap id*k/\rows.length<=V.cap id/\V.cap id<=maxLen/\(∀r∈rows,r.length=k)/\
  ∀i r j c,rows[i]? = some r->r[j]? = some c->∃v,cur[i*k+j]? = some v/\AF V c v
 | .mp es=>¬V.nl id/\∃ents clock,V.w.heap[V.ρ id]? = some (.map ents clock)/\ents.toList.map (λe=>(e.key,e.val))=es
 | .sld T l=>¬V.nl id/\bP V.w T l
theorem AD{V V':View}(e:Ext V V'){id:Nat}(a:id < V.nx){o:O}{b:Nat}:Eh V' id o b↔Eh V id o b:=by
 cases o<;>simp [Eh,e.ρ id a]
structure GN (V:View) (σ:Ab):Prop where
 obj:∀id o,look σ id=some o->Cs V id o
 lt:∀id o,look σ id=some o->id < V.nx
 free:∀id o,look σ id=some o->¬V.nl id->∀b,Eh V id o b->¬V.I b
 inj:∀id id' o o',look σ id=some o->look σ id'=some o'->id≠id'->¬V.nl id->¬V.nl id'->∀b,Eh V id o b->¬Eh V id' o' b
structure RO where
 B:Nat->Prop
 J:Nat->Prop
structure Ctx where
 V:View
 F:Nat->Prop
 J:Nat->Prop
def Dw(V:View)(σ:Ab)(b:Nat):Prop:=∃id o,look σ id=some o/\¬V.nl id/\Eh V id o b
theorem Cs.AL{V V':View}(e:Ext V V'){id:Nat}(a:id < V.nx){o:O}(hb:¬V.nl id->∀b,Eh V id o b->V'.w.heap[b]? = V.w.heap[b]?)(h:Cs V id o):Cs V' id o:=by
 cases o with
 | cells T k rows=>
  replace hb:=λg=>hb g _ (show Eh V id (.cells T k rows) (V.ρ id) from rfl)
  rcases h with ⟨n,d⟩|⟨f,cur,d,B,A,z,y,u⟩
  ·exact .inl ⟨(e.nl id a).2 n,d⟩
  ·refine .inr ⟨λh=>f ((e.nl id a).1 h),cur,by rw [e.ρ id a,hb f];exact d,by rw [e.cap id a];exact B,by rw [e.cap id a];exact A,by rw [e.cap id a];exact z,y,λi r j c hi q=>?_⟩
   obtain⟨v,t,s⟩:=u i r j c hi q;exact⟨v,t,s.ext e⟩
 | mp es=>
  replace hb:=λg=>hb g _ (show Eh V id (.mp es) (V.ρ id) from rfl);obtain⟨f,ents,clock,n,d⟩:=h;exact⟨λh=>f ((e.nl id a).1 h),ents,clock,by rw [e.ρ id a,hb f];exact n,d⟩
 | sld T l=>exact⟨λF=>h.1 ((e.nl id a).1 F),h.2.AL λx p b m=>hb h.1 b ⟨x,p,m⟩⟩
theorem Cs.blt{V:View}{id:Nat}{o:O}(h:Cs V id o)(d:¬V.nl id){b:Nat}(hb:Eh V id o b):b < V.w.heap.size:=by
 cases o with
 | sld T l=>obtain⟨x,c,hb⟩:=hb;exact(h.2.2 x c).blt hb
 | cells T k rows=>
  subst hb
  rcases h with ⟨a,_⟩|⟨_,cur,e,_⟩
  ·exact absurd a d
  ·exact(lL.1 e).1
 | mp=>
  subst hb;obtain⟨_,ents,clock,a,_⟩:=h;exact(lL.1 a).1
theorem Iw{V V':View}(e:Ext V V'){σ:Ab}(a:∀id o,look σ id=some o->id < V.nx){b:Nat}(h:Dw V' σ b):Dw V σ b:=by
 obtain⟨id,o,d,i,g⟩:=h;have c:=a id o d;exact⟨id,o,d,λf=>i ((e.nl id c).2 f),(AD e c).1 g⟩
structure Hid where
 S:Type
 st:S->Ab
 nx:Nat
structure Bp where
 tabs:List (Nat×Obj)
 hid:Option (Hid×Nat)
instance:Membership (Nat×Obj) Bp:=⟨λa x=>x∈a.tabs⟩
def Qk(TB:Bp)(S:RO)(w:World):Prop:=match TB.hid with
 | none=>∀b,¬S.B b
 | some (H,r)=>∃(s:H.S) (V:View),V.I=S.J/\V.w=w/\V.nx=H.nx/\GN V (H.st s)/\(0 < V.nx/\V.ρ 0=r/\¬V.nl 0/\∀x∈TB,V.I x.1)/\∀b,S.B b↔Dw V (H.st s) b
theorem Qk.blt{TB:Bp}{S:RO}{w:World}(h:Qk TB S w){b:Nat}(hb:S.B b):b < w.heap.size:=by
 unfold Qk at h;split at h
 ·exact absurd hb (h b)
 ·obtain⟨s,V,k,d,j,c,i,a⟩:=h
  obtain⟨id,o,g,f,e⟩:=(a b).1 hb;rw [<-d];exact(c.obj id o g).blt f e
theorem Qk.AL{TB:Bp}{S:RO}{w w':World}(h:Qk TB S w)(t:∀b,S.J b->w'.heap[b]? = w.heap[b]?)(u:w.heap.size<=w'.heap.size)(v:∀b,S.B b->w'.heap[b]? = w.heap[b]?):Qk TB S w':=by
 unfold Qk at *;split at h
 ·exact h
 ·obtain⟨s,V,r,q,y,d,x,p⟩:=h
  have e:Ext V { V with w:=w' } := by
   subst q;exact⟨λ_ h=>h,λb hb=>t b (by rw [<-r];exact hb),u,λ_ _=>rfl,λ_ _=>rfl,λ_ _=>Iff.rfl,io _⟩
  have bw:∀ {i o b},Eh { V with w:=w' } i o b↔Eh V i o b:=λ{i o b} => by cases o<;>exact Iff.rfl
  refine⟨s,{ V with w:=w' },r,rfl,y,⟨λid o a=>?_,d.lt,λid o a c b hb=>d.free id o a c b (bw.1 hb),λid id' o o' a f g c j b hb k=>d.inj id id' o o' a f g c j b (bw.1 hb) (bw.1 k)⟩,x,λb=>?_⟩
  ·exact(d.obj id o a).AL e (d.lt id o a) λc b hb=>by
    have:=v b ((p b).2 ⟨id,o,a,c,hb⟩);rw [q];exact this
  ·rw [p b]
   exact⟨λ⟨id,o,n,m,l⟩=>⟨id,o,n,m,bw.2 l⟩,λ⟨id,o,n,m,l⟩=>⟨id,o,n,m,bw.1 l⟩⟩
structure MO (TB:Bp) (V:View) (σ:Ab) (S:RO):Prop where
 r:Qk TB S V.w
 ji:∀b,S.J b->V.I b
 bi:∀b,S.B b->¬V.I b
 ap:∀b,Dw V σ b->¬S.B b
def TM(TB:Bp)(Z:Ctx)(V:View)(σ:Ab):Prop:=∃S,MO TB V σ S/\(∀b,S.J b->Z.J b\/Z.V.w.heap.size<=b\/Z.F b)/\∀b,S.B b->Z.V.w.heap.size<=b\/Z.F b
theorem MO.step{TB:Bp}{S:RO}{V V':View}{σ σ':Ab}(h:MO TB V σ S)(hI:∀b,V.I b->V'.I b)(d:∀b,V.I b->V'.w.heap[b]? = V.w.heap[b]?)(f:V.w.heap.size<=V'.w.heap.size)
 (e:∀b,b < V.w.heap.size->¬V.I b->¬Dw V σ b->V'.w.heap[b]? = V.w.heap[b]?) (i:∀b,V'.I b->V.I b\/Dw V σ b\/V.w.heap.size<=b) (j:∀b,Dw V' σ' b->Dw V σ b\/V.w.heap.size<=b):MO TB V' σ' S:=by
 have g:∀b,S.B b->¬Dw V σ b:=λb hb c=>h.ap b c hb;refine⟨h.r.AL (λb hb=>d b (h.ji b hb)) f (λb hb=>e b (h.r.blt hb) (h.bi b hb) (g b hb)),λb hb=>hI b (h.ji b hb),λb hb hi=>?_,λb c hb=>?_⟩
 ·rcases i b hi with a|a|a
  ·exact h.bi b hb a
  ·exact h.ap b a hb
  ·have:=h.r.blt hb;omega
 ·rcases j b c with a|a
  ·exact h.ap b a hb
  ·have:=h.r.blt hb;omega
theorem TM.step{TB:Bp}{Z:Ctx}{V V':View}{σ σ':Ab}(h:TM TB Z V σ)(hI:∀b,V.I b->V'.I b)(a:∀b,V.I b->V'.w.heap[b]? = V.w.heap[b]?)(d:V.w.heap.size<=V'.w.heap.size)
 (c:∀b,b < V.w.heap.size->¬V.I b->¬Dw V σ b->V'.w.heap[b]? = V.w.heap[b]?) (e:∀b,V'.I b->V.I b\/Dw V σ b\/V.w.heap.size<=b) (f:∀b,Dw V' σ' b->Dw V σ b\/V.w.heap.size<=b):TM TB Z V' σ':=by
 obtain⟨S,i,g⟩:=h;exact⟨S,i.step hI a d c e f,g⟩
theorem TM.same{TB:Bp}{Z:Ctx}{V V':View}{σ σ':Ab}(h:TM TB Z V σ)(a:V'.w=V.w)(hI:∀b,V.I b->V'.I b)(c:∀b,V'.I b->V.I b\/Dw V σ b)(d:∀b,Dw V' σ' b->Dw V σ b):TM TB Z V' σ':=
 h.step hI (λb _=>by rw [a]) (by rw [a];exact io _) (λb _ _ _=>by rw [a]) (λb hb=>(c b hb).elim .inl λh=>.inr (.inl h)) (λb hb=>.inl (d b hb))
structure Inv (TB:Bp) (Z:Ctx) (V:View) (σ:Ab):Prop where
 os:V.w.os=Z.V.w.os
 tape:V.w.tape=Z.V.w.tape
 output:V.w.output=Z.V.w.output
 old:∀b,b < Z.V.w.heap.size->¬Z.F b->V.w.heap[b]? = Z.V.w.heap[b]?
 iLt:∀b,V.I b->b < V.w.heap.size
 iNew:∀b,V.I b->Z.V.I b\/Z.V.w.heap.size<=b\/Z.F b
 ext:Ext Z.V V
 st:GN V σ
 live:∀id o,look σ id=some o->¬V.nl id->∀b,Eh V id o b->Z.V.w.heap.size<=b\/Z.F b
 tabs:∀x∈TB,V.I x.1/\V.w.heap[x.1]? = some x.2
 hid:TM TB Z V σ
abbrev Env:=Nat->Option E
def BK(f:Env)(d:Option Tmp)(x:E):Env:=match d with
 | some d=>λt=>if t=d then some x else f t
 | none=>f
def DT(V:View)(f:Env)(tmps:Array Value):Prop:=∀t e,f t=some e->Bg V e (tmps.getD t undef)
def Ih(V:View)(o:Oper)(f:Env)(a:Act):Prop:=∀t e,.tmp t∈o.op.operands->f t=some e->Bg V e (a.tmps.getD t undef)
theorem DT.op{V:View}{f:Env}{a:Act}(h:DT V f a.tmps)(o:Oper):Ih V o f a:=λt e _ b=>h t e b
theorem DT.ext{V V':View}{f:Env}{tmps:Array Value}(e:Ext V V')(h:DT V f tmps):DT V' f tmps:=λt x a=>(h t x a).ext e
def jB:Exit->Act->World->Prop:=λ_ _ _=>False
section
variable (P:Program)(TB:Bp)(Z:Ctx)
def AW(o:Oper)(f:Env)(σ:Ab)(nx:Nat)(x:E):Prop:=
 ∀V a,Ih V o f a->Inv TB Z V σ->V.nx=nx->o.wp P a V.w (λa' w'=>∃V' v,V'.w=w'/\a'=a.put o.dst v/\Ext V V'/\Inv TB Z V' σ/\V'.nx=nx/\Bg V' x v) jB
def BQ(o:Oper)(f:Env)(σ:Ab)(nx:Nat)(K:E->Ab->Nat->Prop):Prop:=
 ∀V a,Ih V o f a->Inv TB Z V σ->V.nx=nx->o.wp P a V.w (λa' w'=>∃V' v x σ',V'.w=w'/\a'=a.put o.dst v/\Ext V V'/\Inv TB Z V' σ'/\Bg V' x v/\K x σ' V'.nx) jB
theorem UZ{o:Oper}{a:Act}{w:World}{K:Act->World->Prop}{Q:Exit->Act->World->Prop}(h:o.wp P a w K jB):o.wp P a w K Q:=by
 unfold Oper.wp at *;generalize (execOp a.eval o).run P w=r at *
 cases r with
 | ok n w'=>
  cases n<;>simp only [Oper.upon] at h |-
  case value=>exact h
  case skip=>exact h
  case defer=>exact h
  case enter f args=>
   refine h.mono λe w'' b=>?_
   cases e with
   | returned v=>exact b
   | panicked c=>exact b.elim
   | outgrown=>obtain⟨_,_,h⟩:=b;exact h.elim
  case row=>exact h
 | halt x w'=>
  cases x<;>simp only [Oper.upon] at h |-
  case panic v=>exact h.elim
theorem AW.jI{o:Oper}{f:Env}{σ:Ab}{nx:Nat}{x:E}{K:E->Ab->Nat->Prop}(h:AW P TB Z o f σ nx x)(b:K x σ nx):BQ P TB Z o f σ nx K:=by
 intro V a e d c;refine Oper.wp_mono ?_ (h V a e d c);rintro a' w' ⟨V',v,m,l,k,j,i,g⟩;exact⟨V',v,x,σ,m,l,k,j,g,i ▸ b⟩
def Br(ops:Array Oper)(o:Oper)(f:Env):Option Bool:=
 match o.guard with
 | none=>some true
 | some (g,want)=>
  match ((ops[g]?).bind (·.dst)).bind f with
  | some (.o (.d (.v (.bool b))))=>some (b == want)
  | some (.t _)=>some false
  | _=>none
theorem Hn{V:View}{ops:Array Oper}{o:Oper}{f:Env}{a:Act}{b:Bool}(r:DT V f a.tmps)(c:∀t e,f t=some e->t < a.tmps.size)(h:Br ops o f=some b) :
 Region.wanted o (yielded ops a.tmps)=b:=by
 unfold Br at h;unfold Region.wanted;split at h
 ·rename_i m;simp only [m];exact Option.some.inj h
 ·rename_i g want m
  simp only [m];split at h
  ·rename_i b' hb
   have l:∃t,((ops[g]?).bind (·.dst))=some t/\f t=some (.o (.d (.v (.bool b')))):=by
    cases ht:((ops[g]?).bind (·.dst)) with
    | none=>rw [ht] at hb;cases hb
    | some t=>exact⟨t,rfl,by rw [ht] at hb;exact hb⟩
   obtain⟨t,q,j⟩:=l;have k:=r t _ j;have i:=c t _ j;have s:a.tmps.getD t undef=.bool b':=AF.val k
   have p:a.tmps[t]? = some (.bool b'):=by
    rw [lD i];rw [Array.getD,dif_pos i] at s;exact congrArg some s
   have n:yielded ops a.tmps g=some b':=by
    unfold yielded;rw [q];simp [p]
   rw [n];cases b'<;>cases want<;>simp_all
  ·rename_i xs hb
   have l:∃t,((ops[g]?).bind (·.dst))=some t/\f t=some (.t xs):=by
    cases ht:((ops[g]?).bind (·.dst)) with
    | none=>rw [ht] at hb;cases hb
    | some t=>exact⟨t,rfl,by rw [ht] at hb;exact hb⟩
   obtain⟨t,q,j⟩:=l;obtain⟨vs,k,_⟩:=r t _ j;have i:=c t _ j
   have p:a.tmps[t]? = some (.tuple vs):=by
    rw [lD i];rw [Array.getD,dif_pos i] at k;exact congrArg some k
   have n:yielded ops a.tmps g=none:=by
    unfold yielded;rw [q];simp [p]
   rw [n];exact Option.some.inj h
  ·cases h
end
theorem Lw{f:Env}{d d':Option Tmp}{x y:E}(h:∀t,d=some t->d'≠some t):BK (BK f d x) d' y=BK (BK f d' y) d x:=by
 cases d with
 | none=>rfl
 | some t=>
  cases d' with
  | none=>rfl
  | some t'=>
   have a:t≠t':=λe=>h t rfl (by rw [e]);funext s;simp only [BK];by_cases c:s=t<;>by_cases b:s=t'<;>simp_all
theorem Dn{f:Env}{d:Option Tmp}{x:E}{t:Tmp}(h:d≠some t):BK f d x t=f t:=by
 cases d with
 | none=>rfl
 | some d=>
  have:t≠d:=λe=>h (by rw [e]);simp [BK,this]
section
variable (P:Program)(TB:Bp)(Z:Ctx)(ops:Array Oper)
def Vq(n:Bool)(o:Oper)(K:Env->Ab->Nat->Prop)(f:Env)(σ:Ab)(nx:Nat):Prop:=
 (Br ops o f=some false/\K (BK f o.dst (.t [])) σ nx)\/
 (Br ops o f=some true/\bif n then BQ P TB Z o f σ nx (λx σ' nx'=>K (BK f o.dst x) σ' nx') else ∃x,AW P TB Z o f σ nx x/\K (BK f o.dst x) σ nx)
def Kept(m:Nat)(σ σ':Ab):Prop:=∀id,Nat.testBit m id=true->look σ' id=look σ id
def jt(c:Nat)(o:Oper)(K:Env->Ab->Nat->Prop)(f:Env)(σ:Ab)(nx:Nat):Prop:=
 (Br ops o f=some false/\K (BK f o.dst (.t [])) σ nx)\/
 (Br ops o f=some true/\bif Nat.ble 1000 c then BQ P TB Z o f σ nx (λx σ' nx'=>Kept (c - 1000) σ σ'/\K (BK f o.dst x) σ' nx')
  else ∃x,(∀σ' nx',look σ' (c - 10)=look σ (c - 10)->AW P TB Z o f σ' nx' x)/\K (BK f o.dst x) σ nx)
def Lex : List (Nat×Nat)->(Env->Ab->Nat->Prop)->Env->Ab->Nat->Prop
 | [],K,f,σ,nx=>K f σ nx
 | (i, c)::r,K,f,σ,nx=>∃o,ops[i]? = some o/\
  bif Nat.ble 10 c then jt P TB Z ops c o (Lex r K) f σ nx else bif Nat.beq c 2 then
   (Br ops o f=some false/\Lex r K (BK f o.dst (.t [])) σ nx)\/
   (Br ops o f=some true/\∃x,(∀σ nx,AW P TB Z o f σ nx x)/\Lex r K (BK f o.dst x) σ nx)
  else Vq P TB Z ops (Nat.beq c 1) o (Lex r K) f σ nx
end
def Qr(c:Nat):Bool:=Nat.beq c 0 || Nat.beq c 1
def Ep(c:Nat):Bool:=Nat.beq c 1 || Nat.ble 1000 c
def NG(c cj:Nat):Bool:=Nat.beq c 2 || (!Ep cj || (Nat.ble 10 c && (Nat.ble 1000 cj && Nat.testBit (cj - 1000) (c - 10))))
section
variable {P:Program}{TB:Bp}{Z:Ctx}{ops:Array Oper}
theorem Ih.congr{V:View}{o:Oper}{f f':Env}{a:Act}(h:∀t,.tmp t∈o.op.operands->f t=f' t)(b:Ih V o f a):Ih V o f' a:=
 λt e ht c=>b t e ht (by rw [h t ht];exact c)
theorem AW.congr{o:Oper}{f f':Env}{σ:Ab}{nx:Nat}{x:E}(h:∀t,.tmp t∈o.op.operands->f t=f' t)(b:AW P TB Z o f σ nx x):AW P TB Z o f' σ nx x:=
 λV a c=>b V a (c.congr λt ht=>(h t ht).symm)
theorem BQ.congr{o:Oper}{f f':Env}{σ:Ab}{nx:Nat}{K:E->Ab->Nat->Prop}(h:∀t,.tmp t∈o.op.operands->f t=f' t)(b:BQ P TB Z o f σ nx K):BQ P TB Z o f' σ nx K:=
 λV a c=>b V a (c.congr λt ht=>(h t ht).symm)
theorem BQ.mono{o:Oper}{f:Env}{σ:Ab}{nx:Nat}{K K':E->Ab->Nat->Prop}(b:BQ P TB Z o f σ nx K)(h:∀x σ nx,K x σ nx->K' x σ nx):BQ P TB Z o f σ nx K':=by
 intro V a e d c;refine Oper.wp_mono ?_ (b V a e d c);rintro a' w' ⟨V',v,x,σ',m,l,k,j,i,g⟩;exact⟨V',v,x,σ',m,l,k,j,i,h _ _ _ g⟩
theorem Hb{o:Oper}{t:Tmp}(h:.tmp t∈o.op.operands):t∈o.looksAt ops:=
 lO _ (List.mem_filterMap.2 ⟨.tmp t,by simpa using h,rfl⟩)
theorem GX{o:Oper}{f:Env}{d:Option Tmp}{x:E}(h:∀t,d=some t->t∉o.looksAt ops):Br ops o (BK f d x)=Br ops o f:=by
 unfold Br
 cases b:o.guard with
 | none=>rfl
 | some gw=>
  obtain⟨g,want⟩:=gw
  cases ht:(ops[g]?).bind (·.dst) with
  | none=>simp only [ht];rfl
  | some t=>
   have a:d≠some t:=λe=>h t e (by simp [Oper.looksAt,b,ht]);simp only [ht,nv,Dn a]
theorem FN{o:Oper}{f:Env}{d:Option Tmp}{x:E}(h:∀t,d=some t->t∉o.looksAt ops):∀t,.tmp t∈o.op.operands->BK f d x t=f t:=
 λt ht=>Dn λe=>h t e (Hb ht)
def waits(ops:Array Oper)(i:Nat):Nat->Nat->Bool
 | 0,_=>false
 | n+1,j=>((ops[j]?).map (·.after.any λe=>Region.binds .any e && (Nat.beq e.on i || waits ops i n e.on))).getD false
def Fu(ops:Array Oper)(listed:Array Bool):Prop:=
 ∀j,listed.getD j false=true->∀o,ops[j]? = some o->∀e∈o.after,Region.binds .any e=true->listed.getD e.on false=true
theorem Lb{listed:Array Bool}(c:Fu ops listed){i:Nat}:∀(n j:Nat),waits ops i n j=true->listed.getD j false=true->listed.getD i false=true
 | 0,_,h,_=>by cases h
 | n + 1,j,h,e=>by
  unfold waits at h
  cases a:ops[j]? with
  | none=>rw [a] at h;cases h
  | some o=>
   rw [a] at h;simp only [nh,oK] at h;rw [ot] at h;obtain⟨k,hk,h⟩:=h;simp only [d4,lK] at h;have d:=c j e o a _ (pg hk) h.1
   rcases h.2 with b|b
   ·have:=f7 b;rw [<-this];exact d
   ·exact Lb c n _ b d
theorem MJ{listed:Array Bool}(f:Fu ops listed){i:Nat}(hi:listed.getD i false=false){n j:Nat}(h:waits ops i n j=true):j∉Region.ready .any ops listed:=by
 intro d;obtain⟨_,o,e,a⟩:=mem_ready.1 d
 cases n with
 | zero=>cases h
 | succ n=>
  unfold waits at h;rw [e] at h;simp only [nh,oK] at h;rw [ot] at h;obtain⟨k,hk,h⟩:=h;simp only [d4,lK] at h;have c:=a _ (pg hk) h.1
  rcases h.2 with b|b
  ·have:=f7 b;rw [this,hi] at c;cases c
  ·have:=Lb f n _ b c;rw [hi] at this;cases this
def QW(ops:Array Oper)(i c:Nat)(r:List (Nat×Nat)):Bool:=
 (r.all λ(j,cj)=>waits ops i ops.size j || (!Ep c && (match ops[i]?,ops[j]? with|some x,some y=>x.apart ops y|_,_=>false) && NG c cj))
def DQ(ops:Array Oper):List (Nat×Nat)->Bool
 | []=>true
 | (i,c)::r=>QW ops i c r && DQ ops r
def Bk(ops:Array Oper):List (Nat×Nat)->Array Bool->Bool
 | [],listed=>(Region.ready .any ops listed).isEmpty
 | (i,_)::r,listed=>(Region.ready .any ops listed).contains i && Bk ops r (listed.setIfInBounds i true)
end
section
variable {P:Program}{TB:Bp}{Z:Ctx}{ops:Array Oper}
theorem O6(listed:Array Bool)(i:Nat):(listed.setIfInBounds i true).getD i true=true:=by
 by_cases h:i < listed.size
 ·simp [h]
 ·simp [h]
theorem Oj{listed:Array Bool}{j:Nat}(h:j∈Region.ready .any ops listed):listed.getD j true=false:=(mem_ready.1 h).1
theorem Tz{listed:Array Bool}{j:Nat}(h:listed.getD j true=false):listed.getD j false=false:=by
 rcases l9 j listed.size with a|a
 ·simpa [a] using h
 ·simp [Array.getElem?_eq_none a]
theorem Ht{listed:Array Bool}{j:Nat}(h:Fu ops listed)(g:j∈Region.ready .any ops listed):Fu ops (listed.setIfInBounds j true):=by
 intro i hi o d e f hb;by_cases b:j=i
 ·subst b
  obtain⟨_,o',a,c⟩:=mem_ready.1 g;rw [d] at a
  injection a with a
  subst a;exact getD_set_true (c e f hb)
 ·rw [getD_set_ne false b] at hi
  exact getD_set_true (h i hi o d e f hb)
theorem KD:∀(r:List (Nat×Nat)) (listed:Array Bool),Bk ops r listed=true->∀j,j∈Region.ready .any ops listed->j∈r.map (·.1)
 | [],listed,h,j,b=>by
  simp only [Bk,List.isEmpty_iff] at h;rw [h] at b;cases b
 | (i,c)::r,listed,h,j,b=>by
  simp only [Bk,d4] at h;by_cases a:j=i
  ·subst a;simp
  ·have:=KD r _ h.2 j (ready_mono b a)
   simp only [mt,lF];exact .inr this
theorem Ww:∀(r:List (Nat×Nat)) (listed:Array Bool),Bk ops r listed=true->∀j,listed.getD j true=true->j∉r.map (·.1)
 | [],_,_,_,_=>by simp
 | (i,c)::r,listed,h,j,b=>by
  simp only [Bk,d4] at h
  have hi:i∈Region.ready .any ops listed:=by simpa using h.1
  have a:i≠j:=λe=>by subst e;rw [Oj hi] at b;cases b
  have:=Ww r _ h.2 j (by rw [getD_set_ne true a];exact b);simp only [mt,lF,not_or];exact⟨λe=>a e.symm,this⟩
theorem Of:∀(f b:List (Nat×Nat)) (j c:Nat) (listed:Array Bool),Bk ops (f++(j,c)::b) listed=true->j∈Region.ready .any ops listed->
 Bk ops (f++b) (listed.setIfInBounds j true)=true
 | [],b,j,c,listed,h,_=>by
  simp only [nj,Bk,d4] at h;exact h.2
 | (i,d)::f,b,j,c,listed,h,g=>by
  simp only [mD,Bk,d4] at h |-
  have hi:i∈Region.ready .any ops listed:=by simpa using h.1
  have a:j≠i:=by
   intro e;subst e;have:=Ww _ _ h.2 j (O6 _ _);exact this (by simp)
  refine⟨by simpa using ready_mono hi (Ne.symm a),?_⟩;rw [Array.setIfInBounds_comm _ _ a];exact Of f b j c _ h.2 (ready_mono g a)
theorem KB:∀(e a:List (Nat×Nat)) (x:Nat×Nat),DQ ops (e++x::a)=true->DQ ops (e++a)=true
 | [],a,(j,c),h=>by
  simp only [nj,DQ,d4] at h;exact h.2
 | (i,d)::e,a,x,h=>by
  simp only [mD,DQ,d4] at h |-;refine⟨?_,KB e a x h.2⟩;have f:=h.1;unfold QW at f |-;rw [gc] at f |-;intro y b;refine f y ?_
  rcases f6.1 b with b|b
  ·exact lO _ b
  ·exact lV _ (lP _ b)
def QC(P:Program)(TB:Bp)(Z:Ctx)(c:Nat)(o:Oper)(x:E)(f:Env)(σ:Ab)(nx:Nat):Prop:=
 bif Nat.ble 10 c then ∀σ' nx',look σ' (c - 10)=look σ (c - 10)->AW P TB Z o f σ' nx' x else bif Nat.beq c 2 then ∀σ nx,AW P TB Z o f σ nx x else AW P TB Z o f σ nx x
def Yl(P:Program)(TB:Bp)(Z:Ctx)(ops:Array Oper)(c:Nat)(o:Oper)(x:E)(f:Env)(σ:Ab)(nx:Nat):Prop:=
 (Br ops o f=some false/\x=.t [])\/(Br ops o f=some true/\QC P TB Z c o x f σ nx)
theorem QC.congr{c:Nat}{o:Oper}{x:E}{f f':Env}{σ:Ab}{nx:Nat}(h:∀t,.tmp t∈o.op.operands->f t=f' t)(q:QC P TB Z c o x f σ nx):QC P TB Z c o x f' σ nx:=by
 unfold QC at q |-;cases b:Nat.ble 10 c
 ·rw [b] at q
  cases a:Nat.beq c 2
  ·rw [a] at q;exact AW.congr h q
  ·rw [a] at q;exact λσ nx=>AW.congr h (q σ nx)
 ·rw [b] at q;exact λσ' nx' d=>AW.congr h (q σ' nx' d)
theorem QC.move{c:Nat}{o:Oper}{x:E}{f:Env}{σ σ':Ab}{nx nx':Nat}(q:QC P TB Z c o x f σ nx)(g:(Nat.ble 10 c=false/\Nat.beq c 2=true)\/(σ'=σ/\nx'=nx)\/(Nat.ble 10 c=true/\look σ' (c - 10)=look σ (c - 10))):QC P TB Z c o x f σ' nx':=by
 rcases g with ⟨e,d⟩|⟨rfl,rfl⟩|⟨e,d⟩
 ·unfold QC at q |-;rw [e,d] at q |-;exact q
 ·exact q
 ·unfold QC at q |-;rw [e] at q |-;exact λa b h=>q a b (h.trans d)
def GL(P:Program)(TB:Bp)(Z:Ctx)(ops:Array Oper)(c:Nat)(o:Oper)(K:Env->Ab->Nat->Prop)(f:Env)(σ:Ab)(nx:Nat):Prop:=
 bif Nat.ble 10 c then jt P TB Z ops c o K f σ nx else bif Nat.beq c 2 then
  (Br ops o f=some false/\K (BK f o.dst (.t [])) σ nx)\/
  (Br ops o f=some true/\∃x,(∀σ nx,AW P TB Z o f σ nx x)/\K (BK f o.dst x) σ nx)
 else Vq P TB Z ops (Nat.beq c 1) o K f σ nx
theorem DV{c:Nat}{o:Oper}{K:Env->Ab->Nat->Prop}{f:Env}{σ:Ab}{nx:Nat}(a:Ep c=false) :
 GL P TB Z ops c o K f σ nx↔∃x,Yl P TB Z ops c o x f σ nx/\K (BK f o.dst x) σ nx:=by
 unfold Ep at a;rw [Bool.or_eq_false_iff] at a;unfold GL Yl Vq jt QC;rw [a.1,a.2];have key:∀ {q:E->Prop},((Br ops o f=some false/\K (BK f o.dst (.t [])) σ nx)\/(Br ops o f=some true/\∃x,q x/\K (BK f o.dst x) σ nx))↔
  ∃x,((Br ops o f=some false/\x=.t [])\/(Br ops o f=some true/\q x))/\K (BK f o.dst x) σ nx:=by
  intro q;constructor
  ·rintro(⟨h,k⟩|⟨h,x,q,k⟩)
   ·exact⟨_,.inl ⟨h,rfl⟩,k⟩
   ·exact⟨x,.inr ⟨h,q⟩,k⟩
  ·rintro⟨x,⟨h,rfl⟩|⟨h,q⟩,k⟩
   ·exact .inl ⟨h,k⟩
   ·exact .inr ⟨h,x,q,k⟩
 cases d:Nat.ble 10 c
 ·cases b:Nat.beq c 2
  ·exact key
  ·exact key
 ·exact key
theorem FY{c:Nat}{o:Oper}{K:Env->Ab->Nat->Prop}{f:Env}{σ:Ab}{nx:Nat}(b:Ep c=true) :
 GL P TB Z ops c o K f σ nx↔(Br ops o f=some false/\K (BK f o.dst (.t [])) σ nx)\/(Br ops o f=some true/\BQ P TB Z o f σ nx (λx σ' nx'=>(Nat.ble 1000 c=true->Kept (c - 1000) σ σ')/\K (BK f o.dst x) σ' nx')):=by
 unfold Ep at b;unfold GL Vq jt;cases g:Nat.ble 1000 c
 ·rw [g,Bool.or_false] at b
  have a:=f7 b;subst a;constructor
  ·rintro(h|⟨h,q⟩)
   ·exact .inl h
   ·exact .inr ⟨h,BQ.mono q λx σ' nx' k=>⟨λe=>by simp at e,k⟩⟩
  ·rintro(h|⟨h,q⟩)
   ·exact .inl h
   ·exact .inr ⟨h,BQ.mono q λx σ' nx' k=>k.2⟩
 ·have d:Nat.ble 10 c=true:=nN (by have:=am g;omega)
  rw [d];simp only [cond_true];constructor
  ·rintro(h|⟨h,q⟩)
   ·exact .inl h
   ·exact .inr ⟨h,BQ.mono q λx σ' nx' k=>⟨λ_=>k.1,k.2⟩⟩
  ·rintro(h|⟨h,q⟩)
   ·exact .inl h
   ·exact .inr ⟨h,BQ.mono q λx σ' nx' k=>⟨k.1 trivial,k.2⟩⟩
theorem GL.mono{c:Nat}{o:Oper}{K K':Env->Ab->Nat->Prop}{f:Env}{σ:Ab}{nx:Nat}(hk:∀f σ nx,K f σ nx->K' f σ nx)(h:GL P TB Z ops c o K f σ nx):GL P TB Z ops c o K' f σ nx:=by
 cases d:Ep c
 ·rw [DV d] at h |-
  obtain⟨x,b,a⟩:=h;exact⟨x,b,hk _ _ _ a⟩
 ·rw [FY d] at h |-
  rcases h with ⟨b,a⟩|⟨b,a⟩
  ·exact .inl ⟨b,hk _ _ _ a⟩
  ·exact .inr ⟨b,BQ.mono a λx σ' nx' k=>⟨k.1,hk _ _ _ k.2⟩⟩
theorem XJ{ci cj:Nat}{oi oj:Oper}{x:E}{f:Env}{σ:Ab}{nx:Nat}{K:Env->Ab->Nat->Prop}
 (g:Ep ci=false) (i:oi.apart ops oj=true) (b:NG ci cj=true) (d:Yl P TB Z ops ci oi x f σ nx)
 (h:GL P TB Z ops cj oj K (BK f oi.dst x) σ nx):GL P TB Z ops cj oj (GL P TB Z ops ci oi K) f σ nx:=by
 obtain⟨m,n,l⟩:=Oper.apart_spec i;have k:Br ops oj (BK f oi.dst x)=Br ops oj f:=GX m;have ag:∀t,.tmp t∈oj.op.operands->BK f oi.dst x t=f t:=FN m
 have back:∀(y:E) (σ':Ab) (nx':Nat),((Nat.ble 10 ci=false/\Nat.beq ci 2=true)\/(σ'=σ/\nx'=nx)\/(Nat.ble 10 ci=true/\look σ' (ci - 10)=look σ (ci - 10)))->K (BK (BK f oi.dst x) oj.dst y) σ' nx'->GL P TB Z ops ci oi K (BK f oj.dst y) σ' nx':=by
  intro y σ' nx' e hk;rw [DV g];refine⟨x,?_,by rw [Lw n] at hk;exact hk⟩;unfold Yl at d |-;rw [GX l]
  rcases d with d|⟨d,q⟩
  ·exact .inl d
  ·exact .inr ⟨d,(q.move e).congr λt ht=>(FN l t ht).symm⟩
 cases c:Ep cj
 ·rw [DV c] at h |-
  obtain⟨y,a,hk⟩:=h;refine⟨y,?_,back y σ nx (.inr (.inl ⟨rfl,rfl⟩)) hk⟩;unfold Yl at a |-;rw [k] at a
  rcases a with a|⟨a,q⟩
  ·exact .inl a
  ·exact .inr ⟨a,q.congr ag⟩
 ·rw [FY c] at h |-
  rw [k] at h
  have e:∀σ' nx',(Nat.ble 1000 cj=true->Kept (cj - 1000) σ σ')->(Nat.ble 10 ci=false/\Nat.beq ci 2=true)\/(σ'=σ/\nx'=nx)\/(Nat.ble 10 ci=true/\look σ' (ci - 10)=look σ (ci - 10)):=λσ' nx' hk=>by
   unfold NG at b;rw [c] at b;simp only [Bool.not_true,pe,lK,d4] at b
   rcases b with b|⟨r,p,o⟩
   ·have:=f7 b
    subst this;exact .inl ⟨rfl,rfl⟩
   ·exact .inr (.inr ⟨r,hk p _ o⟩)
  rcases h with ⟨j,hk⟩|⟨j,hk⟩
  ·exact .inl ⟨j,back _ σ nx (.inr (.inl ⟨rfl,rfl⟩)) hk⟩
  ·exact .inr ⟨j,(BQ.congr ag hk).mono λy σ' nx' hk=>⟨hk.1,back y σ' nx' (e σ' nx' hk.1) hk.2⟩⟩
theorem E5(K:Env->Ab->Nat->Prop):∀(r:List (Nat×Nat)) (listed:Array Bool) (f:Env) (σ:Ab) (nx:Nat),Fu ops listed->Bk ops r listed=true->DQ ops r=true->
 Lex P TB Z ops r K f σ nx->∀j,j∈Region.ready .any ops listed->∃k c g o,r=k++(j,c)::g/\ops[j]? = some o/\GL P TB Z ops c o (Lex P TB Z ops (k++g) K) f σ nx
 | [],listed,_,_,_,_,q,_,_,j,t=>by have:=KD _ _ q j t;simp at this
 | (i, ci)::r,listed,f,σ,nx,F,q,hk,h,j,t=>by
  obtain⟨oi,m,h⟩:=h;by_cases n:j=i
  ·subst n
   exact⟨[],ci,r,oi,rfl,m,h⟩
  ·simp only [Bk,d4] at q
   simp only [DQ,d4] at hk
   have hi:i∈Region.ready .any ops listed:=by simpa using q.1
   have y:j∈r.map (·.1):=KD r _ q.2 j (ready_mono t n);obtain⟨⟨j',cj⟩,s,rfl⟩:=d8.1 y;have p:=hk.1;unfold QW at p;rw [gc] at p
   have l:∀c',(j',c')∈r->Ep ci=false/\(∃oj,ops[j']? = some oj/\oi.apart ops oj=true)/\NG ci c'=true:=by
    intro c' w;have d:=p _ w;simp only [lK,d4] at d
    rcases d with d|⟨⟨Q,v⟩,N⟩
    ·exact absurd t (MJ F (Tz (Oj hi)) d)
    ·refine⟨by simpa using Q,?_,N⟩
     rw [m] at v
     cases b:ops[j']? with
     | none=>rw [b] at v;cases v
     | some oj=>rw [b] at v;exact⟨oj,rfl,v⟩
   have u:=(l cj s).1;have G:GL P TB Z ops ci oi (Lex P TB Z ops r K) f σ nx:=h;rw [DV u] at G;obtain⟨x,H,I⟩:=G;obtain⟨k,c,g,oj,B,b,M⟩:=E5 K r (listed.setIfInBounds i true) _ σ nx (Ht F hi) q.2 hk.2 I j' (ready_mono t n);obtain⟨_,⟨oj',a,A⟩,z⟩:=l c (by rw [B];simp);rw [b] at a
   injection a with a
   subst a;refine⟨(i,ci)::k,c,g,oj,by rw [B];rfl,b,?_⟩;have L:=XJ u A z H M;have e:Lex P TB Z ops ((i,ci)::k++g) K=λf σ nx=>∃o,ops[i]? = some o/\GL P TB Z ops ci o (Lex P TB Z ops (k++g) K) f σ nx:=rfl;rw [e]
   have J:∀f σ nx,GL P TB Z ops ci oi (Lex P TB Z ops (k++g) K) f σ nx->∃o,ops[i]? = some o/\GL P TB Z ops ci o (Lex P TB Z ops (k++g) K) f σ nx:=λf σ nx h=>⟨oi,m,h⟩
   exact GL.mono J L
end
structure Cb (TB:Bp) (Z:Ctx) (N:Nat) (V:View) (f:Env) (σ:Ab) (nx:Nat) (a:Act):Prop where
 env:DT V f a.tmps
 lt:∀t e,f t=some e->t < N
 size:a.tmps.size=N
 inv:Inv TB Z V σ
 nx:V.nx=nx
 defers:a.defers=[]
def Gs(N:Nat)(ops:Array Oper):Bool:=ops.all λo=>match o.dst with|some d=>Nat.blt d N|none=>true
section
variable {P:Program}{TB:Bp}{Z:Ctx}{N:Nat}{ops:Array Oper}
theorem T8(h:Gs N ops=true){i:Nat}{o:Oper}(a:ops[i]? = some o){d:Tmp}(b:o.dst=some d):d < N:=by
 unfold Gs at h;rw [Array.all_eq_true] at h;obtain⟨hi,rfl⟩:=lL.1 a;have:=h i hi;rw [b] at this;exact am this
theorem Cb.put{V V':View}{f:Env}{σ σ':Ab}{nx nx':Nat}{a:Act}{d:Option Tmp}{x:E}{v:Value}(h:Cb TB Z N V f σ nx a)(g:∀t,d=some t->t < N)
 (e:Ext V V') (hi:Inv TB Z V' σ') (c:V'.nx=nx') (i:Bg V' x v):Cb TB Z N V' (BK f d x) σ' nx' (a.put d v):=by
 cases d with
 | none=>exact⟨h.env.ext e,h.lt,h.size,hi,c,h.defers⟩
 | some d=>
  refine⟨?_,?_,by simp [Act.put,h.size],hi,c,h.defers⟩
  ·intro t y b
   simp only [BK] at b;by_cases ht:t=d
   ·subst ht
    simp only [if_true] at b
    injection b with b
    subst b
    have:t < a.tmps.size:=by rw [h.size];exact g t rfl
    simpa [Act.put,this] using i
   ·rw [if_neg ht] at b
    have:=(h.env t y b).ext e
    simpa [Act.put,mO (Ne.symm ht)] using this
  ·intro t y b
   simp only [BK] at b;by_cases ht:t=d
   ·subst ht;exact g t rfl
   ·rw [if_neg ht] at b;exact h.lt t y b
theorem Mf(V:View):Bg V (.t []) undef:=⟨#[],rfl,rfl,λj x v h=>by simp at h⟩
def Vo(TB:Bp)(Z:Ctx)(N:Nat)(K:Env->Ab->Nat->Prop)(Q:Exit->Act->World->Prop):Prop:=
 ∀V f σ a,Cb TB Z N V f σ V.nx a->K f σ V.nx->Q .normal a V.w
theorem Ns{c:Nat}{i:Nat}{o:Oper}(A:ops[i]? = some o)(k:∀t,o.dst=some t->t < N){K:Env->Ab->Nat->Prop}{K':Act->World->Prop}{Q:Exit->Act->World->Prop}
 (l:∀V f σ a,Cb TB Z N V f σ V.nx a->K f σ V.nx->K' a V.w)
 {V:View} {f:Env} {σ:Ab} {nx:Nat} {a:Act} (b:Cb TB Z N V f σ nx a) (h:GL P TB Z ops c o K f σ nx):wpOp P ops Q i K' a V.w:=by
 have g:∀t e,f t=some e->t < a.tmps.size:=λt e B=>by rw [b.size];exact b.lt t e B
 unfold wpOp;simp only [A]
 have no:Br ops o f=some false->K (BK f o.dst (.t [])) σ nx->(if Region.wanted o (yielded ops a.tmps) then o.wp P a V.w K' Q\/(o.asks P a V.w/\LetsOut Q) else K' (a.put o.dst undef) V.w):=by
  intro d hk;rw [Hn b.env g d];have j:Cb TB Z N V (BK f o.dst (.t [])) σ V.nx (a.put o.dst undef):=b.put k (Ext.refl _) b.inv rfl (Mf V)
  simpa using l _ _ _ _ j (by rw [b.nx];exact hk)
 have yes:Br ops o f=some true->(∃x,AW P TB Z o f σ nx x/\K (BK f o.dst x) σ nx)->(if Region.wanted o (yielded ops a.tmps) then o.wp P a V.w K' Q\/(o.asks P a V.w/\LetsOut Q) else K' (a.put o.dst undef) V.w):=by
  rintro d ⟨x,z,hk⟩;rw [Hn b.env g d];simp only [if_true];refine .inl (UZ P (Oper.wp_mono ?_ (z V a (b.env.op o) b.inv b.nx)));rintro a' w' ⟨V',v,rfl,rfl,r,p,n,m⟩;exact l V' _ σ _ (b.put k r p rfl m) (by rw [n];exact hk)
 cases s:Ep c
 ·rw [DV s] at h
  obtain⟨x,y,hk⟩:=h
  rcases y with ⟨d,rfl⟩|⟨d,q⟩
  ·exact no d hk
  ·refine yes d ⟨x,?_,hk⟩
   unfold QC at q;cases j:Nat.ble 10 c
   ·rw [j] at q
    cases u:Nat.beq c 2
    ·rw [u] at q;exact q
    ·rw [u] at q;exact q σ nx
   ·rw [j] at q;exact q σ nx rfl
 ·rw [FY s] at h
  rcases h with ⟨d,hk⟩|⟨d,hk⟩
  ·exact no d hk
  ·rw [Hn b.env g d]
   simp only [if_true];refine .inl (UZ P (Oper.wp_mono ?_ (hk V a (b.env.op o) b.inv b.nx)));rintro a' w' ⟨V',v,x,σ',rfl,rfl,r,p,n,m⟩;exact l V' _ σ' _ (b.put k r p rfl n) m.2
theorem Ld(g:Gs N ops=true){K:Env->Ab->Nat->Prop}{Q:Exit->Act->World->Prop}(j:Vo TB Z N K Q):∀(r:List (Nat×Nat)) (V:View) (f:Env) (σ:Ab) (a:Act),
 Cb TB Z N V f σ V.nx a->Lex P TB Z ops r K f σ V.nx->wpOps P ops Q (r.map (·.1)) a V.w
 | [],V,f,σ,a,d,h=>j V f σ a d h
 | (i,c)::r,V,f,σ,a,d,h=>by
  obtain⟨o,e,h⟩:=h;rw [mt,wpOps_cons];exact Ns e (λt ht=>T8 g e ht) (λV' f' σ' a' b hk=>Ld g j r V' f' σ' a' b hk) d h
theorem Lc(v:Gs N ops=true){K:Env->Ab->Nat->Prop}{Q:Exit->Act->World->Prop}(y:Vo TB Z N K Q):∀(n:Nat) (r:List (Nat×Nat)) (listed:Array Bool) (V:View) (f:Env) (σ:Ab) (a:Act),
 r.length=n->Fu ops listed->Bk ops r listed=true->DQ ops r=true->Cb TB Z N V f σ V.nx a->Lex P TB Z ops r K f σ V.nx->wpAny P .any ops Q n listed a V.w
 | 0,r,listed,V,f,σ,a,g,u,b,hk,p,h=>by
  have:r=[]:=lw.1 g;subst this;refine⟨?_,y V f σ a p h⟩
  simpa [Bk] using b
 | n + 1,r,listed,V,f,σ,a,g,u,b,hk,p,h=>by
  refine⟨λe=>?_,λj s=>?_⟩
  ·cases r with
   | nil=>simp at g
   | cons x r=>
    obtain⟨i,c⟩:=x;simp only [Bk,d4] at b;have:=b.1;rw [e] at this;simp at this
  ·obtain⟨l,c,k,o,rfl,d,z⟩:=E5 K r listed f σ V.nx u b hk h j s
   refine Ns d (λt ht=>T8 v d ht) (λV' f' σ' a' m q=>?_) p z;exact Lc v y n (l++k) _ V' f' σ' a' (by simp at g |-;omega) (Ht u s) (Of l k j c listed b s) (KB l k _ hk) m q
def Aj(P:Program)(TB:Bp)(Z:Ctx)(N:Nat)(c:Code)(Q:Exit->Env->Ab->Nat->Prop)(f:Env)(σ:Ab)(nx:Nat):Prop:=
 ∀V a,Cb TB Z N V f σ nx a->c.wp P (λe a' w'=>∃V' f' σ',V'.w=w'/\Q e f' σ' V'.nx/\Cb TB Z N V' f' σ' V'.nx a') a V.w
variable {Q:Exit->Env->Ab->Nat->Prop}{f:Env}{σ:Ab}{nx:Nat}
theorem Aj.skip(h:Q .normal f σ nx):Aj P TB Z N .skip Q f σ nx:=λV _ a=>wp_skip ⟨V,f,σ,rfl,by rw [a.nx];exact h,by rw [a.nx];exact a⟩
theorem Aj.exit{id:Nat}(h:Q (.exit id) f σ nx):Aj P TB Z N (.exit id) Q f σ nx:=λV _ a=>wp_exit ⟨V,f,σ,rfl,by rw [a.nx];exact h,by rw [a.nx];exact a⟩
theorem Aj.ret(h:Q .ret f σ nx):Aj P TB Z N .ret Q f σ nx:=λV _ a=>wp_ret ⟨V,f,σ,rfl,by rw [a.nx];exact h,by rw [a.nx];exact a⟩
def KU(K:Env->Ab->Nat->Prop)(Q:Exit->Env->Ab->Nat->Prop):Exit->Env->Ab->Nat->Prop
 | .normal=>K
 | e=>Q e
theorem Aj.seq{x y:Code}(h:Aj P TB Z N x (KU (Aj P TB Z N y Q) Q) f σ nx):Aj P TB Z N (.seq x y) Q f σ nx:=by
 intro V a d;refine wp_seq (wp_mono (h V a d) ?_);rintro e a' w' ⟨V',f',σ',rfl,c,b⟩
 cases e with
 | normal=>exact c V' a' b
 | exit id=>exact⟨V',f',σ',rfl,c,b⟩
 | goto l=>exact⟨V',f',σ',rfl,c,b⟩
 | ret=>exact⟨V',f',σ',rfl,c,b⟩
 | panic ch=>exact⟨V',f',σ',rfl,c,b⟩
 | outgrown=>exact⟨V',f',σ',rfl,c,b⟩
def jy(id:Nat)(Q:Exit->Env->Ab->Nat->Prop):Exit->Env->Ab->Nat->Prop
 | .exit id'=>bif Nat.beq id' id then Q .normal else Q (.exit id')
 | e=>Q e
theorem Aj.block{id:Nat}{c:Code}(h:Aj P TB Z N c (jy id Q) f σ nx):Aj P TB Z N (.block id c) Q f σ nx:=by
 intro V a i;refine wp_block (wp_mono (h V a i) ?_);rintro e a' w' ⟨V',f',σ',rfl,b,g⟩
 cases e with
 | exit id'=>
  simp only [Exit.inBlock];by_cases d:id'=id
  ·subst d
   simp only [jy,oU,cond_true] at b;rw [if_pos rfl];exact⟨V',f',σ',rfl,b,g⟩
  ·have:Nat.beq id' id=false:=by
    cases hb:Nat.beq id' id
    ·rfl
    ·exact absurd (f7 hb) d
   simp only [jy,this,cond_false] at b;rw [if_neg d];exact⟨V',f',σ',rfl,b,g⟩
 | normal=>exact⟨V',f',σ',rfl,b,g⟩
 | goto l=>exact⟨V',f',σ',rfl,b,g⟩
 | ret=>exact⟨V',f',σ',rfl,b,g⟩
 | panic ch=>exact⟨V',f',σ',rfl,b,g⟩
 | outgrown=>exact⟨V',f',σ',rfl,b,g⟩
def cE:Value->Option E
 | .slice none 0 0=>some (.o (.d (.l [])))
 | v=>bif Oz v then some (.o (.d (.v v))) else none
def ev(f:Env):Operand->Option E
 | .tmp t=>f t
 | .const v=>cE v
 | .global _=>none
 | .func f=>some (.o (.fn f []))
theorem Zd{V:View}{v:Value}{e:E}(h:cE v=some e):Bg V e v:=by
 unfold cE at h;split at h
 ·injection h with h;subst h;exact .d .nil
 ·cases a:Oz v
  ·rw [a] at h;cases h
  ·rw [a] at h;injection h with h;subst h;exact .d (.v a)
theorem fi{V:View}{o:Oper}{f:Env}{a:Act}(h:Ih V o f a){x:Operand}(d:x∈o.op.operands){e:E}(b:ev f x=some e):Bg V e (a.eval x):=by
 cases x with
 | tmp t=>exact h t e d b
 | const v=>exact Zd b
 | global g=>cases b
 | func g=>
  injection b with b;subst b
  exact .fn rfl (λj c v i=>by simp at i)
theorem fh{V:View}{f:Env}{a:Act}(h:DT V f a.tmps){x:Operand}{e:E}(b:ev f x=some e):Bg V e (a.eval x):=by
 cases x with
 | tmp t=>exact h t e b
 | const v=>exact Zd b
 | global g=>cases b
 | func g=>
  injection b with b;subst b
  exact .fn rfl (λj c v d=>by simp at d)
theorem Aj.cond{c:Operand}{x y:Code}{b:Bool}(i:ev f c=some (.o (.d (.v (.bool b)))))(ht:b=true->Aj P TB Z N x Q f σ nx)(g:b=false->Aj P TB Z N y Q f σ nx) :
 Aj P TB Z N (.cond c x y) Q f σ nx:=by
 intro V a e;have j:a.eval c=.bool b:=AF.val (fh e.env i);exact wp_cond_split j (λh=>ht h V a e) (λh=>g h V a e)
theorem Aj.region{id:Nat}(r:List (Nat×Nat))(e:Gs N ops=true)(d:r.map (·.1)=List.range ops.size)(h:Lex P TB Z ops r (λf σ nx=>Q .normal f σ nx) f σ nx) :
 Aj P TB Z N (.region id ops false) Q f σ nx:=by
 intro V a b;refine wp_region ?_;rw [<-d];have c:=b.nx;subst c;exact Ld e (λV f σ a b hk=>⟨V,f,σ,rfl,hk,b⟩) r V f σ a b h
theorem Mn(ops:Array Oper):Fu ops (Array.replicate ops.size false):=by
 intro j a
 have:(Array.replicate ops.size false).getD j false=false:=by
  rcases l9 j ops.size with h|h
  ·simp [h]
  ·simp [h]
 rw [this] at a;cases a
theorem Inv.drew{V:View}(h:Inv TB Z V σ):Inv TB Z { V with w:={ V.w with drawn:=V.w.drawn+1 } } σ/\Ext V { V with w:={ V.w with drawn:=V.w.drawn+1 } } := by
 have e:Ext V { V with w:={ V.w with drawn:=V.w.drawn+1 } } := ⟨λ_ h=>h,λ_ _=>rfl,io _,λ_ _=>rfl,λ_ _=>rfl,λ_ _=>Iff.rfl,io _⟩
 refine⟨⟨h.os,h.tape,h.output,h.old,h.iLt,h.iNew,h.ext.trans e,⟨λid o d=>?_,h.st.lt,h.st.free,h.st.inj⟩,h.live,h.tabs,h.hid.step (λ_ h=>h) (λ_ _=>rfl) (io _) (λ_ _ _ _=>rfl) (λ_ h=>.inl h) (λb hb=>.inl (Iw e h.st.lt hb))⟩,e⟩;have a:=h.st.obj id o d
 cases o with
 | cells T k rows=>
  rcases a with a|⟨u,cur,t,s,q,p,n,m⟩
  ·exact .inl a
  ·exact .inr ⟨u,cur,t,s,q,p,n,λi r j c hi f=>let ⟨v,l,g⟩:=m i r j c hi f;⟨v,l,g.ext e⟩⟩
 | mp=>exact a
 | sld=>exact a
theorem Aj.dw{id:Nat}(r:List (Nat×Nat))(i:P.follows .mixedOrders=true)(j:Gs N ops=true)(g:r.length=ops.size)(d:(Bk ops r (Array.replicate ops.size false) && DQ ops r)=true)
 (h:Lex P TB Z ops r (λf σ nx=>Q .normal f σ nx) f σ nx):Aj P TB Z N (.region id ops true) Q f σ nx:=by
 intro V a b;rw [d4] at d;refine wp_region_any i ?_;obtain⟨l,k⟩:=b.inv.drew
 have c:Cb TB Z N { V with w:={ V.w with drawn:=V.w.drawn+1 } } f σ V.nx a:=⟨b.env.ext k,b.lt,b.size,l,rfl,b.defers⟩
 have e:=b.nx;subst e;exact Lc j (λV f σ a b hk=>⟨V,f,σ,rfl,hk,b⟩) ops.size r _ { V with w:={ V.w with drawn:=V.w.drawn+1 } } f σ a g (Mn ops) d.1 d.2 c h
theorem Aj.loop{α:Type}{c:Code}(S:α->Env×Ab×Nat)(μ:α->Nat)(back:α->Env->Ab->Nat->Prop)
 (g:∀y f σ nx V a,back y f σ nx->Cb TB Z N V f σ nx a->∃V',V'.w=V.w/\Cb TB Z N V' (S y).1 (S y).2.1 (S y).2.2 a)
 (x:α) (u:back x f σ nx) (round:∀x,Aj P TB Z N c (KU (λf σ nx=>∃y,μ y < μ x/\back y f σ nx) Q) (S x).1 (S x).2.1 (S x).2.2) :
 Aj P TB Z N (.loop c) Q f σ nx:=by
 intro V a o b k cs;have key:∀n y,μ y=n->∀V a,Cb TB Z N V (S y).1 (S y).2.1 (S y).2.2 a->
  ∃e a' w',(∃V' f' σ',V'.w=w'/\Q e f' σ' V'.nx/\Cb TB Z N V' f' σ' V'.nx a')/\Arrives P (lone (b.at a (.code c::.inLoop c::k)) cs V.w) b k cs e a' w':=by
  intro n
  induction n using Nat.strongRecOn with
  | _ n r=>
   intro y t V a o;obtain⟨e,a₁,w₁,p,d⟩:=round y V a o b (.inLoop c::k) cs;obtain⟨V',f',σ',rfl,i,h⟩:=p
   cases e with
   | normal=>
    obtain⟨z,s,hb⟩:=i;obtain⟨V'',q,j⟩:=g z f' σ' V'.nx V' a₁ hb h;obtain⟨e₂,a₂,w₂,hq₂,harr₂⟩:=r (μ z) (t ▸ s) z rfl V'' a₁ j;rw [q] at harr₂;exact⟨e₂,a₂,w₂,hq₂,.of_steps (Steps.trans d (.one step_inLoop)) harr₂⟩
   | exit id=>exact⟨_,a₁,_,⟨V',f',σ',rfl,i,h⟩,.pass (x:=.inLoop c) rfl (λ_ _=>.inl (by simp)) d⟩
   | goto l=>exact⟨_,a₁,_,⟨V',f',σ',rfl,i,h⟩,.pass (x:=.inLoop c) rfl (λ_ _=>.inl (by simp)) d⟩
   | ret=>exact⟨_,a₁,_,⟨V',f',σ',rfl,i,h⟩,.pass (x:=.inLoop c) rfl (λ_ _=>.inl (by simp)) d⟩
   | panic ch=>exact⟨_,a₁,_,⟨V',f',σ',rfl,i,h⟩,.pass (x:=.inLoop c) rfl (λ_ _=>.inl (by simp)) d⟩
   | outgrown=>exact⟨_,a₁,_,⟨V',f',σ',rfl,i,h⟩,.pass (x:=.inLoop c) rfl (λ_ _=>.inl (by simp)) d⟩
 obtain⟨V',q,m⟩:=g x f σ nx V a u o;obtain⟨e,a',w',p,d⟩:=key _ x rfl V' a m;rw [q] at d;exact⟨e,a',w',p,.of_steps (.one step_loop) d⟩
end
end Go.Am
namespace Go.Proofs.YtgpbfllcjdfelaaGreatDoor
open Go
theorem O4:mapsRowed Tryz.prog=true:=by kernel_rfl
theorem Xs:(Tryz.prog.stops == [])=true:=by kernel_rfl
theorem Xq:(Tryz.prog.stopKnobs == [])=true:=by kernel_rfl
theorem Xp:Tryz.prog.stopsHeard=true:=by kernel_rfl
theorem O5:(false == Tryz.prog.plainKeys)=true:=by kernel_rfl
end Go.Proofs.YtgpbfllcjdfelaaGreatDoor
