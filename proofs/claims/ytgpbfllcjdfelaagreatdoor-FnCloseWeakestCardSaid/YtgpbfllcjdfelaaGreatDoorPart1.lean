/-
  A machine of pure data over the kit's machine: values without addresses, their reading in a world, the walk of code over them, any order of a region that draws.
-/
import Derived.Still
import Derived.Laws.AppendOwn
import Derived.Test.YtgpbfllcjdfelaaGreatDoorRows
import Derived.JoinedCond
import Derived.KernelRfl
set_option linter.all false
namespace Go.Am
abbrev am:=@List.getElem?_eq_some_iff
abbrev ce:=@Nat.le_of_ble_eq_true
abbrev co:=@List.mem_of_getElem?
abbrev d4:=@Function.comp_def
abbrev d5:=@Bool.and_eq_true
abbrev d6:=@Option.map_eq_some_iff
abbrev d7:=@List.getElem?_eq_getElem
abbrev d8:=@List.mem_map
abbrev d9:=@List.getElem?_map
abbrev em:=@List.mem_append
abbrev f6:=@Int.toNat_natCast
abbrev f7:=@List.all_eq_true
abbrev f9:=@List.getElem?_append_left
abbrev gc:=@List.length_map
abbrev ge:=@List.getElem?_append_right
abbrev gt:=@Nat.eq_of_beq_eq_true
abbrev i7:=@Nat.le_refl
abbrev i8:=@Nat.not_lt_zero
abbrev i9:=@Nat.le_trans
abbrev io:=@List.take_add_one
abbrev jp:=@List.nodup_nil
abbrev k8:=@List.length_cons
abbrev k9:=@Nat.zero_le
abbrev kB:=@List.mem_range
abbrev kC:=@List.getD_eq_getElem?_getD
abbrev kD:=@List.take_of_length_le
abbrev kE:=@List.getElem?_eq_none
abbrev kF:=@Result.andThen_ok
abbrev kG:=@Nat.zero_add
abbrev kH:=@Nat.lt_of_lt_of_le
abbrev kI:=@Option.bind_eq_some_iff
abbrev kJ:=@List.length_eq_zero_iff
abbrev kK:=@Array.getElem?_eq_getElem
abbrev kL:=@Sem.run_bind
abbrev kM:=@Array.getElem?_eq_some_iff
abbrev kN:=@List.mem_append_left
abbrev kO:=@List.pairwise_iff_getElem
abbrev kP:=@List.mem_cons_of_mem
abbrev kQ:=@List.getElem?_drop
abbrev kR:=@Bool.or_eq_true
abbrev kS:=@Array.getElem?_append_left
abbrev kT:=@List.getElem?_take
abbrev kU:=@Nat.add_mul
abbrev kV:=@List.mem_append_right
abbrev kW:=@Nat.mod_eq_of_lt
abbrev kX:=@List.length_set
abbrev kY:=@Nat.mul_le_mul_right
abbrev kZ:=@List.mem_of_mem_take
abbrev kw:=@List.mem_cons
abbrev kz:=@List.take_length
abbrev l3:=@List.getElem?_eq_none_iff
abbrev l4:=@Array.getElem?_setIfInBounds_ne
abbrev l5:=@Array.eq_empty_of_size_eq_zero
abbrev l6:=@List.nodup_cons
abbrev l7:=@List.pairwise_append
abbrev l8:=@Int.natCast_mul
abbrev l9:=@Nat.lt_succ_of_lt
abbrev lA:=@List.map_cons
abbrev lB:=@Bool.not_eq_true
abbrev lC:=@Nat.pow_le_pow_right
abbrev lD:=@List.idxOf_lt_length_iff
abbrev lE:=@Array.getElem?_toList
abbrev lF:=@List.pairwise_map
abbrev lG:=@List.ext_getElem?
abbrev lH:=@Nat.eq_zero_or_pos
abbrev lI:=@List.getElem?_toArray
abbrev lJ:=@Array.getElem?_setIfInBounds
abbrev lK:=@List.map_map
abbrev lL:=@List.mem_iff_getElem?
abbrev lM:=@Array.getElem?_append_right
abbrev lN:=@Option.getD_some
abbrev lO:=@List.cons_append
abbrev lP:=@List.map_set
abbrev lQ:=@List.nodup_append
abbrev lR:=@List.map_append
abbrev lS:=@Int.mul_le_mul_of_nonneg_right
abbrev lT:=@Nat.eq_of_testBit_eq
abbrev lU:=@Nat.le_mul_of_pos_right
abbrev lV:=@Bool.eq_iff_iff
abbrev lW:=@Nat.zero_mul
abbrev lX:=@Bool.true_and
abbrev lY:=@List.mem_flatMap
abbrev lZ:=@Nat.testBit_or
abbrev lc:=@Nat.lt_or_ge
abbrev lf:=@List.length_append
abbrev lg:=@List.pairwise_cons
abbrev lh:=@List.append_nil
abbrev lk:=@List.mem_filter
abbrev lm:=@List.getElem_mem
abbrev lp:=@Nat.add_assoc
abbrev lq:=@List.getElem?_set_self
abbrev lr:=@List.getElem?_set_ne
abbrev lu:=@Option.map_some
abbrev lv:=@List.take_append_drop
abbrev lw:=@List.getElem_of_mem
abbrev lz:=@List.map_congr_left
abbrev m7:=@List.any_eq_true
abbrev m8:=@Bool.not_true
abbrev m9:=@List.map_take
abbrev mA:=@Array.toList_map
abbrev mB:=@List.replicate_succ
abbrev mC:=@List.getElem?_range
abbrev mD:=@Nat.lt_or_gt_of_ne
abbrev mE:=@List.range_succ
abbrev mF:=@List.getElem_idxOf
abbrev mH:=@Bool.false_eq_true
abbrev mI:=@Int.emod_nonneg
abbrev mJ:=@Sem.run_map
abbrev mK:=@List.length_range
abbrev mL:=@List.foldl_append
abbrev mM:=@List.append_assoc
abbrev mN:=@Int.emod_eq_of_lt
abbrev mO:=@List.getElem?_inj
abbrev mP:=@Nat.ble_eq_true_of_le
abbrev mQ:=@Nat.add_comm
abbrev mR:=@List.drop_zero
abbrev mS:=@List.length_filter_le
abbrev mU:=@Int.mul_nonneg
abbrev mV:=@Classical.choose_spec
abbrev mW:=@Int.add_mul_emod_self_right
abbrev mY:=@List.getElem?_of_mem
abbrev mZ:=@List.not_mem_nil
abbrev ma:=@List.map_inj_left
abbrev mc:=@Nat.or_lt_two_pow
abbrev me:=@List.idxOf_append
abbrev mf:=@Nat.testBit_two_pow
abbrev mg:=@Nat.testBit_succ
abbrev mh:=@List.find?_eq_none
abbrev mj:=@Int.emod_lt_of_pos
abbrev ml:=@List.mem_cons_self
abbrev mn:=@List.nil_append
abbrev mq:=@List.foldl_cons
abbrev mr:=@List.drop_eq_getElem_cons
abbrev ms:=@Nat.pow_lt_pow_right
abbrev mt:=@List.mapM_cons
abbrev mu:=@Option.bind_some
abbrev mw:=@Nat.lt_succ_self
abbrev mx:=@Nat.mul_comm
abbrev mz:=@List.length_take
abbrev n7:=@List.filter_append
abbrev n8:=@Array.getElem_mem
abbrev n9:=@List.getElem?_set
abbrev nA:=@List.getElem?_replicate
abbrev nB:=@Array.any_eq_true
abbrev nC:=@Nat.lt_trichotomy
abbrev nD:=@List.flatMap_cons
abbrev nE:=@Array.getElem?_extract
abbrev nF:=@Int.le_refl
abbrev nG:=@Int.add_mul_ediv_right
abbrev nH:=@Int.ediv_eq_zero_of_lt
abbrev nI:=@Int.mul_assoc
abbrev nJ:=@List.prefix_refl
abbrev nK:=@Nat.testBit_eq_decide_div_mod_eq
abbrev nL:=@List.drop_length
abbrev nM:=@List.Pairwise.and_mem
abbrev nN:=@List.eraseIdx_eq_take_drop_succ
abbrev nO:=@List.mk_mem_zipIdx_iff_getElem?
abbrev nP:=@Nat.beq_refl
abbrev nQ:=@List.mem_of_mem_drop
abbrev nR:=@List.idxOf_cons_self
abbrev nS:=@Int.zero_add
abbrev nT:=@List.length_flatten
abbrev nU:=@Option.bind_eq_bind
abbrev nV:=@Int.mul_le_mul
abbrev nW:=@Bool.not_false
abbrev nX:=@List.dropLast_concat_getLast
abbrev nY:=@Nat.mul_one
abbrev nZ:=@Nat.mul_add
abbrev nc:=@Int.add_mul
abbrev nf:=@List.length_pos_iff
abbrev ng:=@Int.toNat_of_nonneg
abbrev nh:=@List.mem_or_eq_of_mem_set
abbrev nj:=@Array.mapM_eq_mapM_toList
abbrev nk:=@List.length_nil
abbrev nn:=@Nat.two_pow_pos
abbrev nq:=@Nat.testBit_and
abbrev nr:=@List.map_nil
abbrev nt:=@List.Pairwise.imp_of_mem
abbrev nu:=@Nat.lt_succ_iff_lt_or_eq
abbrev nv:=@List.mem_singleton
abbrev nw:=@Nat.pow_succ
abbrev ny:=@Int.add_comm
abbrev nz:=@Nat.mul_le_mul
abbrev oa:=@List.size_toArray
abbrev oc:=@List.flatten_cons
abbrev oe:=@Bool.not_eq_true'
abbrev og:=@List.all_eq_false
abbrev oh:=@List.find?_append
abbrev ol:=@Nat.add_zero
abbrev oo:=@List.map_toArray
abbrev oq:=@Nat.sub_zero
abbrev ot:=@Nat.zero_testBit
abbrev ou:=@Int.ediv_nonneg
abbrev ow:=@List.find?_cons
abbrev ox:=@List.idxOf_cons
abbrev oy:=@Nat.zero_lt_one
abbrev oz:=@Nat.le_antisymm
open Go
inductive D where
 | v (x:Value)
 | l (rows:List (List D))
 | p (cells:List D)
inductive C where
 | d (x:D)
 | arr (id k off len:Nat)
 | ptr (id k i j:Nat)
 | fn (f:FuncId) (cap:List C)
 | mp (id:Nat)
 | mv (f:FuncId) (recv:List C)
abbrev C.ip(cells:List D):C:=.d (.p cells)
inductive E where
 | o (c:C)
 | a (cs:List C)
 | t (xs:List (Bool×List C))
 | e
def Nn:Value->Bool
 | .bool _|.int ..|.float ..|.complex ..|.string _|.pointer _|.map none|.chan none|.nilFunc|.nilIface|.slice .. => true
 | .func (.func _) ⟨[]⟩ ⟨[]⟩=>true
 | _=>false
structure View where
 I:Nat->Prop
 ρ:Nat->Nat
 cap:Nat->Nat
 nl:Nat->Prop
 nx:Nat
 w:World
inductive C5 (I:Nat->Prop) (w:World):D->Value->Prop
 | v {x:Value}:Nn x=true->C5 I w (.v x) x
 | nil:C5 I w (.l []) (.slice none 0 0)
 | e {a:Addr} {cap:Nat}:cap<=maxLen->C5 I w (.l []) (.slice (some a) 0 cap)
 | l {rows:List (List D)} {b o k cap:Nat} {vs:Nat->Nat->Value}:I b->rows.length<=cap->cap<=maxLen->
  (∀(i:Nat) (r:List D),rows[i]? = some r->r.length=k)->
  (∀(i:Nat) (r:List D) (j:Nat) (d:D),rows[i]? = some r->r[j]? = some d->w.cell? ⟨b,o+i*k+j,none⟩=some (vs i j))->
  (∀(i:Nat) (r:List D) (j:Nat) (d:D),rows[i]? = some r->r[j]? = some d->C5 I w d (vs i j))->
  C5 I w (.l rows) (.slice (some ⟨b,o,none⟩) rows.length cap)
 | p {cells:List D} {b o:Nat} {vs:Nat->Value}:I b->(∀(j:Nat) (d:D),cells[j]? = some d->w.cell? ⟨b,o+j,none⟩=some (vs j))->(∀(j:Nat) (d:D),cells[j]? = some d->C5 I w d (vs j))->
  C5 I w (.p cells) (.pointer (some ⟨b,o,none⟩))
theorem Mf{w w':World}{b:Nat}(h:w'.heap[b]? = w.heap[b]?)(o:Nat):w'.cell? ⟨b,o,none⟩=w.cell? ⟨b,o,none⟩:=by
 simp [World.cell?,h]
theorem C5.mono{I I':Nat->Prop}{w w':World}{d:D}{v:Value}(g:∀b,I b->I' b)(hw:∀b,I b->w'.heap[b]? = w.heap[b]?)(h:C5 I w d v):C5 I' w' d v:=by
 induction h with
 | v h=>exact .v h
 | nil=>exact .nil
 | e h=>exact .e h
 | @l rows b o k cap vs hb f q n m _ c=>
  exact .l (g b hb) f q n (λi r j d hi a=>by rw [Mf (hw b hb)];exact m i r j d hi a) (λi r j d hi a=>c i r j d hi a)
 | @p cells b o vs hb f _ c=>exact .p (g b hb) (λj d a=>by rw [Mf (hw b hb)];exact f j d a) (λj d a=>c j d a)
inductive Az (V:View):C->Value->Prop
 | d {x:D} {v:Value}:C5 V.I V.w x v->Az V (.d x) v
 | nil {id k:Nat}:id < V.nx->V.nl id->Az V (.arr id k 0 0) (.slice none 0 0)
 | arr {id k off len:Nat}:id < V.nx->¬V.nl id->off+len<=V.cap id->Az V (.arr id k off len) (.slice (some ⟨V.ρ id,off*k,none⟩) len (V.cap id - off))
 | ptr {id k i j:Nat}:id < V.nx->¬V.nl id->Az V (.ptr id k i j) (.pointer (some ⟨V.ρ id,i*k+j,none⟩))
 | fn {f:FuncId} {cap:List C} {vs:Array Value}:vs.size=cap.length->(∀(j:Nat) (c:C) (v:Value),cap[j]? = some c->vs[j]? = some v->Az V c v)->Az V (.fn f cap) (.func (.func f) #[] vs)
 | mp {id:Nat}:id < V.nx->Az V (.mp id) (.map (some (V.ρ id)))
 | mv {f:FuncId} {recv:List C} {vs:Array Value}:vs.size=recv.length->(∀(j:Nat) (c:C) (v:Value),recv[j]? = some c->vs[j]? = some v->Az V c v)->Az V (.mv f recv) (.func (.func f) vs #[])
theorem Az.ip{V:View}{cells:List D}{b o:Nat}{vs:Nat->Value}(hb:V.I b)(c:∀(j:Nat) (d:D),cells[j]? = some d->V.w.cell? ⟨b,o+j,none⟩=some (vs j))(a:∀(j:Nat) (d:D),cells[j]? = some d->C5 V.I V.w d (vs j)) :
 Az V (.ip cells) (.pointer (some ⟨b,o,none⟩)):=.d (.p hb c a)
theorem C5.val{I:Nat->Prop}{w:World}{x v:Value}(h:C5 I w (.v x) v):v=x:=by cases h;rfl
theorem Az.val{V:View}{x v:Value}(h:Az V (.d (.v x)) v):v=x:=by cases h with|d h=>exact h.val
structure Ext (V V':View):Prop where
 i:∀b,V.I b->V'.I b
 heap:∀b,V.I b->V'.w.heap[b]? = V.w.heap[b]?
 size:V.w.heap.size<=V'.w.heap.size
 ρ:∀id,id < V.nx->V'.ρ id=V.ρ id
 cap:∀id,id < V.nx->V'.cap id=V.cap id
 nl:∀id,id < V.nx->(V'.nl id↔V.nl id)
 nx:V.nx<=V'.nx
theorem Ext.refl(V:View):Ext V V:=⟨λ_ h=>h,λ_ _=>rfl,i7 _,λ_ _=>rfl,λ_ _=>rfl,λ_ _=>Iff.rfl,i7 _⟩
theorem Ext.trans{A B C:View}(h:Ext A B)(k:Ext B C):Ext A C:=
 ⟨λb hb=>k.i b (h.i b hb),λb hb=>(k.heap b (h.i b hb)).trans (h.heap b hb),i9 h.size k.size,
  λi hi=>(k.ρ i (kH hi h.nx)).trans (h.ρ i hi),λi hi=>(k.cap i (kH hi h.nx)).trans (h.cap i hi),λi hi=>(k.nl i (kH hi h.nx)).trans (h.nl i hi),i9 h.nx k.nx⟩
theorem C5.ext{V V':View}{d:D}{v:Value}(e:Ext V V')(h:C5 V.I V.w d v):C5 V'.I V'.w d v:=h.mono e.i e.heap
theorem Az.ext{V V':View}{c:C}{v:Value}(e:Ext V V')(h:Az V c v):Az V' c v:=by
 induction h with
 | d h=>exact .d (h.ext e)
 | @nil id k a f=>exact .nil (kH a e.nx) ((e.nl id a).2 f)
 | @arr id k off len a g f=>rw [<-e.ρ id a,<-e.cap id a];exact .arr (kH a e.nx) (λh=>g ((e.nl id a).1 h)) (by rw [e.cap id a];exact f)
 | @ptr id k i j a g=>rw [<-e.ρ id a];exact .ptr (kH a e.nx) (λh=>g ((e.nl id a).1 h))
 | fn a _ b=>exact .fn a b
 | @mp id a=>rw [<-e.ρ id a];exact .mp (kH a e.nx)
 | mv a _ b=>exact .mv a b
def CU(V:View)(cs:List C)(vs:Array Value):Prop:=vs.size=cs.length/\∀(j:Nat) c v,cs[j]? = some c->vs[j]? = some v->Az V c v
theorem CU.ext{V V':View}{cs:List C}{vs:Array Value}(e:Ext V V')(h:CU V cs vs):CU V' cs vs:=⟨h.1,λj c v a b=>(h.2 j c v a b).ext e⟩
def Ln(V:View):Bool×List C->Value->Prop
 | (true,cs),v=>∃vs,v=.agg vs/\CU V cs vs
 | (false,cs),v=>∃c,cs=[c]/\Az V c v
theorem Ln.ext{V V':View}{x:Bool×List C}{v:Value}(e:Ext V V')(h:Ln V x v):Ln V' x v:=by
 obtain⟨b,cs⟩:=x;cases b
 ·obtain⟨c,d,a⟩:=h;exact⟨c,d,a.ext e⟩
 ·obtain⟨vs,d,a⟩:=h;exact⟨vs,d,a.ext e⟩
def A4(V:View):E->Value->Prop
 | .o c,v=>Az V c v
 | .a cs,v=>∃vs,v=.agg vs/\CU V cs vs
 | .t xs,v=>∃vs:Array Value,v=.tuple vs/\vs.size=xs.length/\∀(j:Nat) x v,xs[j]? = some x->vs[j]? = some v->Ln V x v
 | .e,v=>∃b,v=.slice b 0 0
theorem A4.ext{V V':View}{x:E}{v:Value}(e:Ext V V')(h:A4 V x v):A4 V' x v:=by
 cases x with
 | o c=>exact Az.ext e h
 | a cs=>obtain⟨vs,f,d⟩:=h;exact⟨vs,f,d.ext e⟩
 | t xs=>obtain⟨vs,f,d,g⟩:=h;exact⟨vs,f,d,λj x v a b=>(g j x v a b).ext e⟩
 | e=>exact h
inductive O where
 | cells (T k:Nat) (rows:List (List C))
 | mp (es:List (Value×Value))
 | sld (T:Nat) (l:List (Value×List Value))
abbrev Ab:=List (Nat×O)
def look{U:Type}:List (Nat×U)->Nat->Option U
 | [],_=>none
 | (k,x)::r,i=>bif Nat.beq k i then some x else look r i
theorem Av{U:Type}(k:Nat)(x:U)(r:List (Nat×U))(i:Nat):look ((k,x)::r) i=if k=i then some x else look r i:=by
 simp only [look];by_cases h:k=i
 ·subst h;simp
 ·have:Nat.beq k i=false:=by
   cases hb:Nat.beq k i
   ·rfl
   ·exact absurd (gt hb) h
  simp [this,h]
def IF(v:Value)(b:Nat):Prop:=∃o n c,v=.slice (some ⟨b,o,none⟩) n c
def DL(V:View)(id:Nat):O->Nat->Prop
 | .cells ..,b=>b=V.ρ id
 | .mp _,b=>b=V.ρ id
 | .sld _ l,b=>∃x∈l,IF x.1 b
def I8(w:World)(T:Nat)(v:Value)(row:List Value):Prop:=(v=.slice none 0 0/\row=[])\/
 ∃b cap cur,v=.slice (some ⟨b,0,none⟩) row.length cap/\w.heap[b]? = some (.cells cur T (0,0))/\cur.size=cap/\row.length<=cap/\cap<=maxLen/\∀(j:Nat) (x:Value),row[j]? = some x->cur[j]? = some x/\Nn x=true
def ab(w:World)(T:Nat)(l:List (Value×List Value)):Prop:=l.Pairwise (λx y=>∀b,IF x.1 b->¬IF y.1 b)/\∀x∈l,I8 w T x.1 x.2
theorem I8.Bo{w w':World}{T:Nat}{v:Value}{row:List Value}(hw:∀b,IF v b->w'.heap[b]? = w.heap[b]?)(h:I8 w T v row):I8 w' T v row:=by
 rcases h with h|⟨b,cap,cur,rfl,c,a⟩
 ·exact .inl h
 ·exact .inr ⟨b,cap,cur,rfl,by rw [hw b ⟨_,_,_,rfl⟩];exact c,a⟩
theorem I8.blt{w:World}{T:Nat}{v:Value}{row:List Value}(h:I8 w T v row){b:Nat}(hb:IF v b):b < w.heap.size:=by
 obtain⟨o,n,c,hb⟩:=hb
 rcases h with ⟨h,_⟩|⟨b',cap,cur,rfl,a,_⟩
 ·rw [h] at hb;cases hb
 ·injection hb with hb;injection hb with hb;injection hb with hb;subst hb;exact(kM.1 a).1
theorem ab.Bo{w w':World}{T:Nat}{l:List (Value×List Value)}(hw:∀x∈l,∀b,IF x.1 b->w'.heap[b]? = w.heap[b]?)(h:ab w T l):ab w' T l:=
 ⟨h.1,λx a=>(h.2 x a).Bo (hw x a)⟩
def Cb(V:View)(id:Nat):O->Prop
 | .cells T k rows=>(V.nl id/\rows=[])\/¬V.nl id/\∃cur,V.w.heap[V.ρ id]? = some (.cells cur T (0,0))/\cur.size=V.cap id*k/\rows.length<=V.cap id/\V.cap id<=maxLen/\(∀r∈rows,r.length=k)/\
  ∀i r j c,rows[i]? = some r->r[j]? = some c->∃v,cur[i*k+j]? = some v/\Az V c v
 | .mp es=>¬V.nl id/\∃ents clock,V.w.heap[V.ρ id]? = some (.map ents clock)/\ents.toList.map (λe=>(e.key,e.val))=es
 | .sld T l=>¬V.nl id/\ab V.w T l
theorem AB{V V':View}(e:Ext V V'){id:Nat}(hid:id < V.nx){o:O}{b:Nat}:DL V' id o b↔DL V id o b:=by
 cases o<;>simp [DL,e.ρ id hid]
structure Gj (V:View) (σ:Ab):Prop where
 obj:∀id o,look σ id=some o->Cb V id o
 lt:∀id o,look σ id=some o->id < V.nx
 free:∀id o,look σ id=some o->¬V.nl id->∀b,DL V id o b->¬V.I b
 inj:∀id id' o o',look σ id=some o->look σ id'=some o'->id≠id'->¬V.nl id->¬V.nl id'->∀b,DL V id o b->¬DL V id' o' b
structure P9 where
 B:Nat->Prop
 J:Nat->Prop
structure Ctx where
 V:View
 F:Nat->Prop
 J:Nat->Prop
def Dd(V:View)(σ:Ab)(b:Nat):Prop:=∃id o,look σ id=some o/\¬V.nl id/\DL V id o b
theorem Cb.Bo{V V':View}(e:Ext V V'){id:Nat}(hid:id < V.nx){o:O}(hb:¬V.nl id->∀b,DL V id o b->V'.w.heap[b]? = V.w.heap[b]?)(h:Cb V id o):Cb V' id o:=by
 cases o with
 | cells T k rows=>
  replace hb:=λf=>hb f _ (show DL V id (.cells T k rows) (V.ρ id) from rfl)
  rcases h with ⟨m,a⟩|⟨d,cur,a,A,z,y,u,t⟩
  ·exact .inl ⟨(e.nl id hid).2 m,a⟩
  ·refine .inr ⟨λh=>d ((e.nl id hid).1 h),cur,by rw [e.ρ id hid,hb d];exact a,by rw [e.cap id hid];exact A,by rw [e.cap id hid];exact z,by rw [e.cap id hid];exact y,u,λi r j c hi p=>?_⟩
   obtain⟨v,s,q⟩:=t i r j c hi p;exact⟨v,s,q.ext e⟩
 | mp es=>
  replace hb:=λf=>hb f _ (show DL V id (.mp es) (V.ρ id) from rfl);obtain⟨d,ents,clock,m,a⟩:=h;exact⟨λh=>d ((e.nl id hid).1 h),ents,clock,by rw [e.ρ id hid,hb d];exact m,a⟩
 | sld T l=>exact⟨λB=>h.1 ((e.nl id hid).1 B),h.2.Bo λx n b g=>hb h.1 b ⟨x,n,g⟩⟩
theorem Cb.blt{V:View}{id:Nat}{o:O}(h:Cb V id o)(d:¬V.nl id){b:Nat}(hb:DL V id o b):b < V.w.heap.size:=by
 cases o with
 | sld T l=>obtain⟨x,c,hb⟩:=hb;exact(h.2.2 x c).blt hb
 | cells T k rows=>
  subst hb
  rcases h with ⟨a,_⟩|⟨_,cur,e,_⟩
  ·exact absurd a d
  ·exact(kM.1 e).1
 | mp=>
  subst hb;obtain⟨_,ents,clock,a,_⟩:=h;exact(kM.1 a).1
theorem Hv{V V':View}(e:Ext V V'){σ:Ab}(a:∀id o,look σ id=some o->id < V.nx){b:Nat}(h:Dd V' σ b):Dd V σ b:=by
 obtain⟨id,o,d,i,g⟩:=h;have c:=a id o d;exact⟨id,o,d,λf=>i ((e.nl id c).2 f),(AB e c).1 g⟩
structure Hid where
 S:Type
 st:S->Ab
 nx:Nat
structure Bp where
 tabs:List (Nat×Obj)
 hid:Option (Hid×Nat)
instance:Membership (Nat×Obj) Bp:=⟨λa x=>x∈a.tabs⟩
def O4(TB:Bp)(S:P9)(w:World):Prop:=match TB.hid with
 | none=>∀b,¬S.B b
 | some (H,r)=>∃(s:H.S) (V:View),V.I=S.J/\V.w=w/\V.nx=H.nx/\Gj V (H.st s)/\(0 < V.nx/\V.ρ 0=r/\¬V.nl 0/\∀x∈TB,V.I x.1)/\∀b,S.B b↔Dd V (H.st s) b
theorem O4.blt{TB:Bp}{S:P9}{w:World}(h:O4 TB S w){b:Nat}(hb:S.B b):b < w.heap.size:=by
 unfold O4 at h;split at h
 ·exact absurd hb (h b)
 ·obtain⟨s,V,k,d,j,c,i,a⟩:=h
  obtain⟨id,o,g,f,e⟩:=(a b).1 hb;rw [<-d];exact(c.obj id o g).blt f e
theorem O4.Bo{TB:Bp}{S:P9}{w w':World}(h:O4 TB S w)(hw:∀b,S.J b->w'.heap[b]? = w.heap[b]?)(t:w.heap.size<=w'.heap.size)(u:∀b,S.B b->w'.heap[b]? = w.heap[b]?):O4 TB S w':=by
 unfold O4 at *;split at h
 ·exact h
 ·obtain⟨s,V,r,q,x,d,v,p⟩:=h
  have e:Ext V { V with w:=w' } := by
   subst q;exact⟨λ_ h=>h,λb hb=>hw b (by rw [<-r];exact hb),t,λ_ _=>rfl,λ_ _=>rfl,λ_ _=>Iff.rfl,i7 _⟩
  have bw:∀ {i o b},DL { V with w:=w' } i o b↔DL V i o b:=λ{i o b} => by cases o<;>exact Iff.rfl
  refine⟨s,{ V with w:=w' },r,rfl,x,⟨λid o a=>?_,d.lt,λid o a c b hb=>d.free id o a c b (bw.1 hb),λid id' o o' a f g c j b hb k=>d.inj id id' o o' a f g c j b (bw.1 hb) (bw.1 k)⟩,v,λb=>?_⟩
  ·exact(d.obj id o a).Bo e (d.lt id o a) λc b hb=>by
    have:=u b ((p b).2 ⟨id,o,a,c,hb⟩);rw [q];exact this
  ·rw [p b]
   exact⟨λ⟨id,o,n,m,l⟩=>⟨id,o,n,m,bw.2 l⟩,λ⟨id,o,n,m,l⟩=>⟨id,o,n,m,bw.1 l⟩⟩
structure Lm (TB:Bp) (V:View) (σ:Ab) (S:P9):Prop where
 r:O4 TB S V.w
 ji:∀b,S.J b->V.I b
 bi:∀b,S.B b->¬V.I b
 ap:∀b,Dd V σ b->¬S.B b
def Sd(TB:Bp)(Γ:Ctx)(V:View)(σ:Ab):Prop:=∃S,Lm TB V σ S/\(∀b,S.J b->Γ.J b\/Γ.V.w.heap.size<=b\/Γ.F b)/\∀b,S.B b->Γ.V.w.heap.size<=b\/Γ.F b
theorem Lm.step{TB:Bp}{S:P9}{V V':View}{σ σ':Ab}(h:Lm TB V σ S)(i:∀b,V.I b->V'.I b)(d:∀b,V.I b->V'.w.heap[b]? = V.w.heap[b]?)(e:V.w.heap.size<=V'.w.heap.size)
 (hw:∀b,b < V.w.heap.size->¬V.I b->¬Dd V σ b->V'.w.heap[b]? = V.w.heap[b]?) (g:∀b,V'.I b->V.I b\/Dd V σ b\/V.w.heap.size<=b) (j:∀b,Dd V' σ' b->Dd V σ b\/V.w.heap.size<=b):Lm TB V' σ' S:=by
 have f:∀b,S.B b->¬Dd V σ b:=λb hb c=>h.ap b c hb;refine⟨h.r.Bo (λb hb=>d b (h.ji b hb)) e (λb hb=>hw b (h.r.blt hb) (h.bi b hb) (f b hb)),λb hb=>i b (h.ji b hb),λb hb hi=>?_,λb c hb=>?_⟩
 ·rcases g b hi with a|a|a
  ·exact h.bi b hb a
  ·exact h.ap b a hb
  ·have:=h.r.blt hb;omega
 ·rcases j b c with a|a
  ·exact h.ap b a hb
  ·have:=h.r.blt hb;omega
theorem Sd.step{TB:Bp}{Γ:Ctx}{V V':View}{σ σ':Ab}(h:Sd TB Γ V σ)(e:∀b,V.I b->V'.I b)(a:∀b,V.I b->V'.w.heap[b]? = V.w.heap[b]?)(c:V.w.heap.size<=V'.w.heap.size)
 (hw:∀b,b < V.w.heap.size->¬V.I b->¬Dd V σ b->V'.w.heap[b]? = V.w.heap[b]?) (d:∀b,V'.I b->V.I b\/Dd V σ b\/V.w.heap.size<=b) (f:∀b,Dd V' σ' b->Dd V σ b\/V.w.heap.size<=b):Sd TB Γ V' σ':=by
 obtain⟨S,i,g⟩:=h;exact⟨S,i.step e a c hw d f,g⟩
theorem Sd.same{TB:Bp}{Γ:Ctx}{V V':View}{σ σ':Ab}(h:Sd TB Γ V σ)(hw:V'.w=V.w)(c:∀b,V.I b->V'.I b)(a:∀b,V'.I b->V.I b\/Dd V σ b)(d:∀b,Dd V' σ' b->Dd V σ b):Sd TB Γ V' σ':=
 h.step c (λb _=>by rw [hw]) (by rw [hw];exact i7 _) (λb _ _ _=>by rw [hw]) (λb hb=>(a b hb).elim .inl λh=>.inr (.inl h)) (λb hb=>.inl (d b hb))
structure Inv (TB:Bp) (Γ:Ctx) (V:View) (σ:Ab):Prop where
 os:V.w.os=Γ.V.w.os
 tape:V.w.tape=Γ.V.w.tape
 output:V.w.output=Γ.V.w.output
 old:∀b,b < Γ.V.w.heap.size->¬Γ.F b->V.w.heap[b]? = Γ.V.w.heap[b]?
 iLt:∀b,V.I b->b < V.w.heap.size
 iNew:∀b,V.I b->Γ.V.I b\/Γ.V.w.heap.size<=b\/Γ.F b
 ext:Ext Γ.V V
 st:Gj V σ
 live:∀id o,look σ id=some o->¬V.nl id->∀b,DL V id o b->Γ.V.w.heap.size<=b\/Γ.F b
 tabs:∀x∈TB,V.I x.1/\V.w.heap[x.1]? = some x.2
 hid:Sd TB Γ V σ
abbrev Env:=Nat->Option E
def BF(f:Env)(d:Option Tmp)(x:E):Env:=match d with
 | some d=>λt=>if t=d then some x else f t
 | none=>f
def DF(V:View)(f:Env)(tmps:Array Value):Prop:=∀t e,f t=some e->A4 V e (tmps.getD t undef)
def Hm(V:View)(o:Oper)(f:Env)(a:Act):Prop:=∀t e,.tmp t∈o.op.operands->f t=some e->A4 V e (a.tmps.getD t undef)
theorem DF.op{V:View}{f:Env}{a:Act}(h:DF V f a.tmps)(o:Oper):Hm V o f a:=λt e _ b=>h t e b
theorem DF.ext{V V':View}{f:Env}{tmps:Array Value}(e:Ext V V')(h:DF V f tmps):DF V' f tmps:=λt x a=>(h t x a).ext e
def iT:Exit->Act->World->Prop:=λ_ _ _=>False
section
variable (P:Program)(TB:Bp)(Γ:Ctx)
def AU(o:Oper)(f:Env)(σ:Ab)(nx:Nat)(x:E):Prop:=
 ∀V a,Hm V o f a->Inv TB Γ V σ->V.nx=nx->o.wp P a V.w (λa' w'=>∃V' v,V'.w=w'/\a'=a.put o.dst v/\Ext V V'/\Inv TB Γ V' σ/\V'.nx=nx/\A4 V' x v) iT
def BZ(o:Oper)(f:Env)(σ:Ab)(nx:Nat)(K:E->Ab->Nat->Prop):Prop:=
 ∀V a,Hm V o f a->Inv TB Γ V σ->V.nx=nx->o.wp P a V.w (λa' w'=>∃V' v x σ',V'.w=w'/\a'=a.put o.dst v/\Ext V V'/\Inv TB Γ V' σ'/\A4 V' x v/\K x σ' V'.nx) iT
theorem TA{o:Oper}{a:Act}{w:World}{K:Act->World->Prop}{Q:Exit->Act->World->Prop}(h:o.wp P a w K iT):o.wp P a w K Q:=by
 unfold Oper.wp at *;generalize (execOp a.eval o).run P w=r at *
 cases r with
 | ok n w'=>
  cases n<;>simp only [Oper.upon] at h |-
  case value=>exact h
  case skip=>exact h
  case defer=>exact h
  case enter f args=>
   refine h.mono λe w'' b=>?_
   cases e with
   | returned v=>exact b
   | panicked c=>exact b.elim
   | outgrown=>obtain⟨_,_,h⟩:=b;exact h.elim
  case row=>exact h
 | halt x w'=>
  cases x<;>simp only [Oper.upon] at h |-
  case panic v=>exact h.elim
theorem AU.jd{o:Oper}{f:Env}{σ:Ab}{nx:Nat}{x:E}{K:E->Ab->Nat->Prop}(h:AU P TB Γ o f σ nx x)(b:K x σ nx):BZ P TB Γ o f σ nx K:=by
 intro V a e d c;refine Oper.wp_mono ?_ (h V a e d c);rintro a' w' ⟨V',v,m,l,k,j,i,g⟩;exact⟨V',v,x,σ,m,l,k,j,g,i ▸ b⟩
def Bk(ops:Array Oper)(o:Oper)(f:Env):Option Bool:=
 match o.guard with
 | none=>some true
 | some (g,want)=>
  match ((ops[g]?).bind (·.dst)).bind f with
  | some (.o (.d (.v (.bool b))))=>some (b == want)
  | some (.t _)=>some false
  | _=>none
theorem GJ{V:View}{ops:Array Oper}{o:Oper}{f:Env}{a:Act}{b:Bool}(r:DF V f a.tmps)(c:∀t e,f t=some e->t < a.tmps.size)(h:Bk ops o f=some b) :
 Region.wanted o (yielded ops a.tmps)=b:=by
 unfold Bk at h;unfold Region.wanted;split at h
 ·rename_i m;simp only [m];exact Option.some.inj h
 ·rename_i g want m
  simp only [m];split at h
  ·rename_i b' hb
   have l:∃t,((ops[g]?).bind (·.dst))=some t/\f t=some (.o (.d (.v (.bool b')))):=by
    cases ht:((ops[g]?).bind (·.dst)) with
    | none=>rw [ht] at hb;cases hb
    | some t=>exact⟨t,rfl,by rw [ht] at hb;exact hb⟩
   obtain⟨t,q,j⟩:=l;have k:=r t _ j;have i:=c t _ j;have s:a.tmps.getD t undef=.bool b':=Az.val k
   have p:a.tmps[t]? = some (.bool b'):=by
    rw [kK i];rw [Array.getD,dif_pos i] at s;exact congrArg some s
   have n:yielded ops a.tmps g=some b':=by
    unfold yielded;rw [q];simp [p]
   rw [n];cases b'<;>cases want<;>simp_all
  ·rename_i xs hb
   have l:∃t,((ops[g]?).bind (·.dst))=some t/\f t=some (.t xs):=by
    cases ht:((ops[g]?).bind (·.dst)) with
    | none=>rw [ht] at hb;cases hb
    | some t=>exact⟨t,rfl,by rw [ht] at hb;exact hb⟩
   obtain⟨t,q,j⟩:=l;obtain⟨vs,k,_⟩:=r t _ j;have i:=c t _ j
   have p:a.tmps[t]? = some (.tuple vs):=by
    rw [kK i];rw [Array.getD,dif_pos i] at k;exact congrArg some k
   have n:yielded ops a.tmps g=none:=by
    unfold yielded;rw [q];simp [p]
   rw [n];exact Option.some.inj h
  ·cases h
end
theorem J9{f:Env}{d d':Option Tmp}{x y:E}(h:∀t,d=some t->d'≠some t):BF (BF f d x) d' y=BF (BF f d' y) d x:=by
 cases d with
 | none=>rfl
 | some t=>
  cases d' with
  | none=>rfl
  | some t'=>
   have a:t≠t':=λe=>h t rfl (by rw [e]);funext s;simp only [BF];by_cases c:s=t<;>by_cases b:s=t'<;>simp_all
theorem C9{f:Env}{d:Option Tmp}{x:E}{t:Tmp}(h:d≠some t):BF f d x t=f t:=by
 cases d with
 | none=>rfl
 | some d=>
  have:t≠d:=λe=>h (by rw [e]);simp [BF,this]
section
variable (P:Program)(TB:Bp)(Γ:Ctx)(ops:Array Oper)
def TR(n:Bool)(o:Oper)(K:Env->Ab->Nat->Prop)(f:Env)(σ:Ab)(nx:Nat):Prop:=
 (Bk ops o f=some false/\K (BF f o.dst (.t [])) σ nx)\/
 (Bk ops o f=some true/\bif n then BZ P TB Γ o f σ nx (λx σ' nx'=>K (BF f o.dst x) σ' nx') else ∃x,AU P TB Γ o f σ nx x/\K (BF f o.dst x) σ nx)
def Kept(m:Nat)(σ σ':Ab):Prop:=∀id,Nat.testBit m id=true->look σ' id=look σ id
def iC(c:Nat)(o:Oper)(K:Env->Ab->Nat->Prop)(f:Env)(σ:Ab)(nx:Nat):Prop:=
 (Bk ops o f=some false/\K (BF f o.dst (.t [])) σ nx)\/
 (Bk ops o f=some true/\bif Nat.ble 1000 c then BZ P TB Γ o f σ nx (λx σ' nx'=>Kept (c - 1000) σ σ'/\K (BF f o.dst x) σ' nx')
  else ∃x,(∀σ' nx',look σ' (c - 10)=look σ (c - 10)->AU P TB Γ o f σ' nx' x)/\K (BF f o.dst x) σ nx)
def Lex : List (Nat×Nat)->(Env->Ab->Nat->Prop)->Env->Ab->Nat->Prop
 | [],K,f,σ,nx=>K f σ nx
 | (i, c)::r,K,f,σ,nx=>∃o,ops[i]? = some o/\
  bif Nat.ble 10 c then iC P TB Γ ops c o (Lex r K) f σ nx else bif Nat.beq c 2 then
   (Bk ops o f=some false/\Lex r K (BF f o.dst (.t [])) σ nx)\/
   (Bk ops o f=some true/\∃x,(∀σ nx,AU P TB Γ o f σ nx x)/\Lex r K (BF f o.dst x) σ nx)
  else TR P TB Γ ops (Nat.beq c 1) o (Lex r K) f σ nx
end
def Qg(c:Nat):Bool:=Nat.beq c 0 || Nat.beq c 1
def DT(c:Nat):Bool:=Nat.beq c 1 || Nat.ble 1000 c
def Mk(c cj:Nat):Bool:=Nat.beq c 2 || (!DT cj || (Nat.ble 10 c && (Nat.ble 1000 cj && Nat.testBit (cj - 1000) (c - 10))))
section
variable {P:Program}{TB:Bp}{Γ:Ctx}{ops:Array Oper}
theorem Hm.congr{V:View}{o:Oper}{f f':Env}{a:Act}(h:∀t,.tmp t∈o.op.operands->f t=f' t)(b:Hm V o f a):Hm V o f' a:=
 λt e ht c=>b t e ht (by rw [h t ht];exact c)
theorem AU.congr{o:Oper}{f f':Env}{σ:Ab}{nx:Nat}{x:E}(h:∀t,.tmp t∈o.op.operands->f t=f' t)(b:AU P TB Γ o f σ nx x):AU P TB Γ o f' σ nx x:=
 λV a c=>b V a (c.congr λt ht=>(h t ht).symm)
theorem BZ.congr{o:Oper}{f f':Env}{σ:Ab}{nx:Nat}{K:E->Ab->Nat->Prop}(h:∀t,.tmp t∈o.op.operands->f t=f' t)(b:BZ P TB Γ o f σ nx K):BZ P TB Γ o f' σ nx K:=
 λV a c=>b V a (c.congr λt ht=>(h t ht).symm)
theorem BZ.mono{o:Oper}{f:Env}{σ:Ab}{nx:Nat}{K K':E->Ab->Nat->Prop}(b:BZ P TB Γ o f σ nx K)(h:∀x σ nx,K x σ nx->K' x σ nx):BZ P TB Γ o f σ nx K':=by
 intro V a e d c;refine Oper.wp_mono ?_ (b V a e d c);rintro a' w' ⟨V',v,x,σ',m,l,k,j,i,g⟩;exact⟨V',v,x,σ',m,l,k,j,i,h _ _ _ g⟩
theorem GB{o:Oper}{t:Tmp}(h:.tmp t∈o.op.operands):t∈o.looksAt ops:=
 kN _ (List.mem_filterMap.2 ⟨.tmp t,by simpa using h,rfl⟩)
theorem Gw{o:Oper}{f:Env}{d:Option Tmp}{x:E}(h:∀t,d=some t->t∉o.looksAt ops):Bk ops o (BF f d x)=Bk ops o f:=by
 unfold Bk
 cases b:o.guard with
 | none=>rfl
 | some gw=>
  obtain⟨g,want⟩:=gw
  cases ht:(ops[g]?).bind (·.dst) with
  | none=>simp only [ht];rfl
  | some t=>
   have a:d≠some t:=λe=>h t e (by simp [Oper.looksAt,b,ht]);simp only [ht,mu,C9 a]
theorem E9{o:Oper}{f:Env}{d:Option Tmp}{x:E}(h:∀t,d=some t->t∉o.looksAt ops):∀t,.tmp t∈o.op.operands->BF f d x t=f t:=
 λt ht=>C9 λe=>h t e (GB ht)
def waits(ops:Array Oper)(i:Nat):Nat->Nat->Bool
 | 0,_=>false
 | n+1,j=>((ops[j]?).map (·.after.any λe=>Region.binds .any e && (Nat.beq e.on i || waits ops i n e.on))).getD false
def EN(ops:Array Oper)(listed:Array Bool):Prop:=
 ∀j,listed.getD j false=true->∀o,ops[j]? = some o->∀e∈o.after,Region.binds .any e=true->listed.getD e.on false=true
theorem JM{listed:Array Bool}(c:EN ops listed){i:Nat}:∀(n j:Nat),waits ops i n j=true->listed.getD j false=true->listed.getD i false=true
 | 0,_,h,_=>by cases h
 | n + 1,j,h,e=>by
  unfold waits at h
  cases a:ops[j]? with
  | none=>rw [a] at h;cases h
  | some o=>
   rw [a] at h;simp only [lu,lN] at h;rw [nB] at h;obtain⟨k,hk,h⟩:=h;simp only [d5,kR] at h;have d:=c j e o a _ (n8 hk) h.1
   rcases h.2 with b|b
   ·have:=gt b;rw [<-this];exact d
   ·exact JM c n _ b d
theorem Li{listed:Array Bool}(f:EN ops listed){i:Nat}(hi:listed.getD i false=false){n j:Nat}(h:waits ops i n j=true):j∉Region.ready .any ops listed:=by
 intro d;obtain⟨_,o,e,a⟩:=mem_ready.1 d
 cases n with
 | zero=>cases h
 | succ n=>
  unfold waits at h;rw [e] at h;simp only [lu,lN] at h;rw [nB] at h;obtain⟨k,hk,h⟩:=h;simp only [d5,kR] at h;have c:=a _ (n8 hk) h.1
  rcases h.2 with b|b
  ·have:=gt b;rw [this,hi] at c;cases c
  ·have:=JM f n _ b c;rw [hi] at this;cases this
def Pv(ops:Array Oper)(i c:Nat)(r:List (Nat×Nat)):Bool:=
 (r.all λ(j,cj)=>waits ops i ops.size j || (!DT c && (match ops[i]?,ops[j]? with|some x,some y=>x.apart ops y|_,_=>false) && Mk c cj))
def Dv(ops:Array Oper):List (Nat×Nat)->Bool
 | []=>true
 | (i,c)::r=>Pv ops i c r && Dv ops r
def A6(ops:Array Oper):List (Nat×Nat)->Array Bool->Bool
 | [],listed=>(Region.ready .any ops listed).isEmpty
 | (i,_)::r,listed=>(Region.ready .any ops listed).contains i && A6 ops r (listed.setIfInBounds i true)
end
section
variable {P:Program}{TB:Bp}{Γ:Ctx}{ops:Array Oper}
theorem NW(listed:Array Bool)(i:Nat):(listed.setIfInBounds i true).getD i true=true:=by
 by_cases h:i < listed.size
 ·simp [h]
 ·simp [h]
theorem Nc{listed:Array Bool}{j:Nat}(h:j∈Region.ready .any ops listed):listed.getD j true=false:=(mem_ready.1 h).1
theorem RQ{listed:Array Bool}{j:Nat}(h:listed.getD j true=false):listed.getD j false=false:=by
 rcases lc j listed.size with a|a
 ·simpa [a] using h
 ·simp [Array.getElem?_eq_none a]
theorem GM{listed:Array Bool}{j:Nat}(h:EN ops listed)(g:j∈Region.ready .any ops listed):EN ops (listed.setIfInBounds j true):=by
 intro i hi o d e f hb;by_cases b:j=i
 ·subst b
  obtain⟨_,o',a,c⟩:=mem_ready.1 g;rw [d] at a
  injection a with a
  subst a;exact getD_set_true (c e f hb)
 ·rw [getD_set_ne false b] at hi
  exact getD_set_true (h i hi o d e f hb)
theorem Jw:∀(r:List (Nat×Nat)) (listed:Array Bool),A6 ops r listed=true->∀j,j∈Region.ready .any ops listed->j∈r.map (·.1)
 | [],listed,h,j,b=>by
  simp only [A6,List.isEmpty_iff] at h;rw [h] at b;cases b
 | (i,c)::r,listed,h,j,b=>by
  simp only [A6,d5] at h;by_cases a:j=i
  ·subst a;simp
  ·have:=Jw r _ h.2 j (ready_mono b a)
   simp only [lA,kw];exact .inr this
theorem UA:∀(r:List (Nat×Nat)) (listed:Array Bool),A6 ops r listed=true->∀j,listed.getD j true=true->j∉r.map (·.1)
 | [],_,_,_,_=>by simp
 | (i,c)::r,listed,h,j,b=>by
  simp only [A6,d5] at h
  have hi:i∈Region.ready .any ops listed:=by simpa using h.1
  have a:i≠j:=λe=>by subst e;rw [Nc hi] at b;cases b
  have:=UA r _ h.2 j (by rw [getD_set_ne true a];exact b);simp only [lA,kw,not_or];exact⟨λe=>a e.symm,this⟩
theorem MX:∀(f b:List (Nat×Nat)) (j c:Nat) (listed:Array Bool),A6 ops (f++(j,c)::b) listed=true->j∈Region.ready .any ops listed->
 A6 ops (f++b) (listed.setIfInBounds j true)=true
 | [],b,j,c,listed,h,_=>by
  simp only [mn,A6,d5] at h;exact h.2
 | (i,d)::f,b,j,c,listed,h,g=>by
  simp only [lO,A6,d5] at h |-
  have hi:i∈Region.ready .any ops listed:=by simpa using h.1
  have a:j≠i:=by
   intro e;subst e;have:=UA _ _ h.2 j (NW _ _);exact this (by simp)
  refine⟨by simpa using ready_mono hi (Ne.symm a),?_⟩;rw [Array.setIfInBounds_comm _ _ a];exact MX f b j c _ h.2 (ready_mono g a)
theorem Ju:∀(e a:List (Nat×Nat)) (x:Nat×Nat),Dv ops (e++x::a)=true->Dv ops (e++a)=true
 | [],a,(j,c),h=>by
  simp only [mn,Dv,d5] at h;exact h.2
 | (i,d)::e,a,x,h=>by
  simp only [lO,Dv,d5] at h |-;refine⟨?_,Ju e a x h.2⟩;have f:=h.1;unfold Pv at f |-;rw [f7] at f |-;intro y b;refine f y ?_
  rcases em.1 b with b|b
  ·exact kN _ b
  ·exact kV _ (kP _ b)
def QC(P:Program)(TB:Bp)(Γ:Ctx)(c:Nat)(o:Oper)(x:E)(f:Env)(σ:Ab)(nx:Nat):Prop:=
 bif Nat.ble 10 c then ∀σ' nx',look σ' (c - 10)=look σ (c - 10)->AU P TB Γ o f σ' nx' x else bif Nat.beq c 2 then ∀σ nx,AU P TB Γ o f σ nx x else AU P TB Γ o f σ nx x
def Yl(P:Program)(TB:Bp)(Γ:Ctx)(ops:Array Oper)(c:Nat)(o:Oper)(x:E)(f:Env)(σ:Ab)(nx:Nat):Prop:=
 (Bk ops o f=some false/\x=.t [])\/(Bk ops o f=some true/\QC P TB Γ c o x f σ nx)
theorem QC.congr{c:Nat}{o:Oper}{x:E}{f f':Env}{σ:Ab}{nx:Nat}(h:∀t,.tmp t∈o.op.operands->f t=f' t)(q:QC P TB Γ c o x f σ nx):QC P TB Γ c o x f' σ nx:=by
 unfold QC at q |-;cases b:Nat.ble 10 c
 ·rw [b] at q
  cases a:Nat.beq c 2
  ·rw [a] at q;exact AU.congr h q
  ·rw [a] at q;exact λσ nx=>AU.congr h (q σ nx)
 ·rw [b] at q;exact λσ' nx' d=>AU.congr h (q σ' nx' d)
theorem QC.move{c:Nat}{o:Oper}{x:E}{f:Env}{σ σ':Ab}{nx nx':Nat}(q:QC P TB Γ c o x f σ nx)(g:(Nat.ble 10 c=false/\Nat.beq c 2=true)\/(σ'=σ/\nx'=nx)\/(Nat.ble 10 c=true/\look σ' (c - 10)=look σ (c - 10))):QC P TB Γ c o x f σ' nx':=by
 rcases g with ⟨e,d⟩|⟨rfl,rfl⟩|⟨e,d⟩
 ·unfold QC at q |-;rw [e,d] at q |-;exact q
 ·exact q
 ·unfold QC at q |-;rw [e] at q |-;exact λa b h=>q a b (h.trans d)
def Gh(P:Program)(TB:Bp)(Γ:Ctx)(ops:Array Oper)(c:Nat)(o:Oper)(K:Env->Ab->Nat->Prop)(f:Env)(σ:Ab)(nx:Nat):Prop:=
 bif Nat.ble 10 c then iC P TB Γ ops c o K f σ nx else bif Nat.beq c 2 then
  (Bk ops o f=some false/\K (BF f o.dst (.t [])) σ nx)\/
  (Bk ops o f=some true/\∃x,(∀σ nx,AU P TB Γ o f σ nx x)/\K (BF f o.dst x) σ nx)
 else TR P TB Γ ops (Nat.beq c 1) o K f σ nx
theorem DB{c:Nat}{o:Oper}{K:Env->Ab->Nat->Prop}{f:Env}{σ:Ab}{nx:Nat}(a:DT c=false) :
 Gh P TB Γ ops c o K f σ nx↔∃x,Yl P TB Γ ops c o x f σ nx/\K (BF f o.dst x) σ nx:=by
 unfold DT at a;rw [Bool.or_eq_false_iff] at a;unfold Gh Yl TR iC QC;rw [a.1,a.2];have key:∀ {q:E->Prop},((Bk ops o f=some false/\K (BF f o.dst (.t [])) σ nx)\/(Bk ops o f=some true/\∃x,q x/\K (BF f o.dst x) σ nx))↔
  ∃x,((Bk ops o f=some false/\x=.t [])\/(Bk ops o f=some true/\q x))/\K (BF f o.dst x) σ nx:=by
  intro q;constructor
  ·rintro(⟨h,k⟩|⟨h,x,q,k⟩)
   ·exact⟨_,.inl ⟨h,rfl⟩,k⟩
   ·exact⟨x,.inr ⟨h,q⟩,k⟩
  ·rintro⟨x,⟨h,rfl⟩|⟨h,q⟩,k⟩
   ·exact .inl ⟨h,k⟩
   ·exact .inr ⟨h,x,q,k⟩
 cases d:Nat.ble 10 c
 ·cases b:Nat.beq c 2
  ·exact key
  ·exact key
 ·exact key
theorem Fh{c:Nat}{o:Oper}{K:Env->Ab->Nat->Prop}{f:Env}{σ:Ab}{nx:Nat}(b:DT c=true) :
 Gh P TB Γ ops c o K f σ nx↔(Bk ops o f=some false/\K (BF f o.dst (.t [])) σ nx)\/(Bk ops o f=some true/\BZ P TB Γ o f σ nx (λx σ' nx'=>(Nat.ble 1000 c=true->Kept (c - 1000) σ σ')/\K (BF f o.dst x) σ' nx')):=by
 unfold DT at b;unfold Gh TR iC;cases g:Nat.ble 1000 c
 ·rw [g,Bool.or_false] at b
  have a:=gt b;subst a;constructor
  ·rintro(h|⟨h,q⟩)
   ·exact .inl h
   ·exact .inr ⟨h,BZ.mono q λx σ' nx' k=>⟨λe=>by simp at e,k⟩⟩
  ·rintro(h|⟨h,q⟩)
   ·exact .inl h
   ·exact .inr ⟨h,BZ.mono q λx σ' nx' k=>k.2⟩
 ·have d:Nat.ble 10 c=true:=mP (by have:=ce g;omega)
  rw [d];simp only [cond_true];constructor
  ·rintro(h|⟨h,q⟩)
   ·exact .inl h
   ·exact .inr ⟨h,BZ.mono q λx σ' nx' k=>⟨λ_=>k.1,k.2⟩⟩
  ·rintro(h|⟨h,q⟩)
   ·exact .inl h
   ·exact .inr ⟨h,BZ.mono q λx σ' nx' k=>⟨k.1 trivial,k.2⟩⟩
theorem Gh.mono{c:Nat}{o:Oper}{K K':Env->Ab->Nat->Prop}{f:Env}{σ:Ab}{nx:Nat}(hk:∀f σ nx,K f σ nx->K' f σ nx)(h:Gh P TB Γ ops c o K f σ nx):Gh P TB Γ ops c o K' f σ nx:=by
 cases d:DT c
 ·rw [DB d] at h |-
  obtain⟨x,b,a⟩:=h;exact⟨x,b,hk _ _ _ a⟩
 ·rw [Fh d] at h |-
  rcases h with ⟨b,a⟩|⟨b,a⟩
  ·exact .inl ⟨b,hk _ _ _ a⟩
  ·exact .inr ⟨b,BZ.mono a λx σ' nx' k=>⟨k.1,hk _ _ _ k.2⟩⟩
theorem VS{ci cj:Nat}{oi oj:Oper}{x:E}{f:Env}{σ:Ab}{nx:Nat}{K:Env->Ab->Nat->Prop}
 (g:DT ci=false) (i:oi.apart ops oj=true) (b:Mk ci cj=true) (d:Yl P TB Γ ops ci oi x f σ nx)
 (h:Gh P TB Γ ops cj oj K (BF f oi.dst x) σ nx):Gh P TB Γ ops cj oj (Gh P TB Γ ops ci oi K) f σ nx:=by
 obtain⟨m,n,l⟩:=Oper.apart_spec i;have k:Bk ops oj (BF f oi.dst x)=Bk ops oj f:=Gw m;have ag:∀t,.tmp t∈oj.op.operands->BF f oi.dst x t=f t:=E9 m
 have back:∀(y:E) (σ':Ab) (nx':Nat),((Nat.ble 10 ci=false/\Nat.beq ci 2=true)\/(σ'=σ/\nx'=nx)\/(Nat.ble 10 ci=true/\look σ' (ci - 10)=look σ (ci - 10)))->K (BF (BF f oi.dst x) oj.dst y) σ' nx'->Gh P TB Γ ops ci oi K (BF f oj.dst y) σ' nx':=by
  intro y σ' nx' e hk;rw [DB g];refine⟨x,?_,by rw [J9 n] at hk;exact hk⟩;unfold Yl at d |-;rw [Gw l]
  rcases d with d|⟨d,q⟩
  ·exact .inl d
  ·exact .inr ⟨d,(q.move e).congr λt ht=>(E9 l t ht).symm⟩
 cases c:DT cj
 ·rw [DB c] at h |-
  obtain⟨y,a,hk⟩:=h;refine⟨y,?_,back y σ nx (.inr (.inl ⟨rfl,rfl⟩)) hk⟩;unfold Yl at a |-;rw [k] at a
  rcases a with a|⟨a,q⟩
  ·exact .inl a
  ·exact .inr ⟨a,q.congr ag⟩
 ·rw [Fh c] at h |-
  rw [k] at h
  have e:∀σ' nx',(Nat.ble 1000 cj=true->Kept (cj - 1000) σ σ')->(Nat.ble 10 ci=false/\Nat.beq ci 2=true)\/(σ'=σ/\nx'=nx)\/(Nat.ble 10 ci=true/\look σ' (ci - 10)=look σ (ci - 10)):=λσ' nx' hk=>by
   unfold Mk at b;rw [c] at b;simp only [m8,Bool.false_or,kR,d5] at b
   rcases b with b|⟨r,p,o⟩
   ·have:=gt b
    subst this;exact .inl ⟨rfl,rfl⟩
   ·exact .inr (.inr ⟨r,hk p _ o⟩)
  rcases h with ⟨j,hk⟩|⟨j,hk⟩
  ·exact .inl ⟨j,back _ σ nx (.inr (.inl ⟨rfl,rfl⟩)) hk⟩
  ·exact .inr ⟨j,(BZ.congr ag hk).mono λy σ' nx' hk=>⟨hk.1,back y σ' nx' (e σ' nx' hk.1) hk.2⟩⟩
theorem Ex(K:Env->Ab->Nat->Prop):∀(r:List (Nat×Nat)) (listed:Array Bool) (f:Env) (σ:Ab) (nx:Nat),EN ops listed->A6 ops r listed=true->Dv ops r=true->
 Lex P TB Γ ops r K f σ nx->∀j,j∈Region.ready .any ops listed->∃k c g o,r=k++(j,c)::g/\ops[j]? = some o/\Gh P TB Γ ops c o (Lex P TB Γ ops (k++g) K) f σ nx
 | [],listed,_,_,_,_,q,_,_,j,t=>by have:=Jw _ _ q j t;simp at this
 | (i, ci)::r,listed,f,σ,nx,F,q,hk,h,j,t=>by
  obtain⟨oi,m,h⟩:=h;by_cases n:j=i
  ·subst n
   exact⟨[],ci,r,oi,rfl,m,h⟩
  ·simp only [A6,d5] at q
   simp only [Dv,d5] at hk
   have hi:i∈Region.ready .any ops listed:=by simpa using q.1
   have y:j∈r.map (·.1):=Jw r _ q.2 j (ready_mono t n);obtain⟨⟨j',cj⟩,s,rfl⟩:=d8.1 y;have p:=hk.1;unfold Pv at p;rw [f7] at p
   have l:∀c',(j',c')∈r->DT ci=false/\(∃oj,ops[j']? = some oj/\oi.apart ops oj=true)/\Mk ci c'=true:=by
    intro c' w;have d:=p _ w;simp only [kR,d5] at d
    rcases d with d|⟨⟨Q,v⟩,N⟩
    ·exact absurd t (Li F (RQ (Nc hi)) d)
    ·refine⟨by simpa using Q,?_,N⟩
     rw [m] at v
     cases b:ops[j']? with
     | none=>rw [b] at v;cases v
     | some oj=>rw [b] at v;exact⟨oj,rfl,v⟩
   have u:=(l cj s).1;have G:Gh P TB Γ ops ci oi (Lex P TB Γ ops r K) f σ nx:=h;rw [DB u] at G;obtain⟨x,H,I⟩:=G;obtain⟨k,c,g,oj,B,b,M⟩:=Ex K r (listed.setIfInBounds i true) _ σ nx (GM F hi) q.2 hk.2 I j' (ready_mono t n);obtain⟨_,⟨oj',a,A⟩,z⟩:=l c (by rw [B];simp);rw [b] at a
   injection a with a
   subst a;refine⟨(i,ci)::k,c,g,oj,by rw [B];rfl,b,?_⟩;have L:=VS u A z H M;have e:Lex P TB Γ ops ((i,ci)::k++g) K=λf σ nx=>∃o,ops[i]? = some o/\Gh P TB Γ ops ci o (Lex P TB Γ ops (k++g) K) f σ nx:=rfl;rw [e]
   have J:∀f σ nx,Gh P TB Γ ops ci oi (Lex P TB Γ ops (k++g) K) f σ nx->∃o,ops[i]? = some o/\Gh P TB Γ ops ci o (Lex P TB Γ ops (k++g) K) f σ nx:=λf σ nx h=>⟨oi,m,h⟩
   exact Gh.mono J L
end
structure BV (TB:Bp) (Γ:Ctx) (N:Nat) (V:View) (f:Env) (σ:Ab) (nx:Nat) (a:Act):Prop where
 env:DF V f a.tmps
 lt:∀t e,f t=some e->t < N
 size:a.tmps.size=N
 inv:Inv TB Γ V σ
 nx:V.nx=nx
 defers:a.defers=[]
def FN(N:Nat)(ops:Array Oper):Bool:=ops.all λo=>match o.dst with|some d=>Nat.blt d N|none=>true
section
variable {P:Program}{TB:Bp}{Γ:Ctx}{N:Nat}{ops:Array Oper}
theorem Ss(h:FN N ops=true){i:Nat}{o:Oper}(a:ops[i]? = some o){d:Tmp}(b:o.dst=some d):d < N:=by
 unfold FN at h;rw [Array.all_eq_true] at h;obtain⟨hi,rfl⟩:=kM.1 a;have:=h i hi;rw [b] at this;exact ce this
theorem BV.put{V V':View}{f:Env}{σ σ':Ab}{nx nx':Nat}{a:Act}{d:Option Tmp}{x:E}{v:Value}(h:BV TB Γ N V f σ nx a)(g:∀t,d=some t->t < N)
 (e:Ext V V') (hi:Inv TB Γ V' σ') (c:V'.nx=nx') (i:A4 V' x v):BV TB Γ N V' (BF f d x) σ' nx' (a.put d v):=by
 cases d with
 | none=>exact⟨h.env.ext e,h.lt,h.size,hi,c,h.defers⟩
 | some d=>
  refine⟨?_,?_,by simp [Act.put,h.size],hi,c,h.defers⟩
  ·intro t y b
   simp only [BF] at b;by_cases ht:t=d
   ·subst ht
    simp only [if_true] at b
    injection b with b
    subst b
    have:t < a.tmps.size:=by rw [h.size];exact g t rfl
    simpa [Act.put,this] using i
   ·rw [if_neg ht] at b
    have:=(h.env t y b).ext e
    simpa [Act.put,l4 (Ne.symm ht)] using this
  ·intro t y b
   simp only [BF] at b;by_cases ht:t=d
   ·subst ht;exact g t rfl
   ·rw [if_neg ht] at b;exact h.lt t y b
theorem KJ(V:View):A4 V (.t []) undef:=⟨#[],rfl,rfl,λj x v h=>by simp at h⟩
def TQ(TB:Bp)(Γ:Ctx)(N:Nat)(K:Env->Ab->Nat->Prop)(Q:Exit->Act->World->Prop):Prop:=
 ∀V f σ a,BV TB Γ N V f σ V.nx a->K f σ V.nx->Q .normal a V.w
theorem LX{c:Nat}{i:Nat}{o:Oper}(A:ops[i]? = some o)(k:∀t,o.dst=some t->t < N){K:Env->Ab->Nat->Prop}{K':Act->World->Prop}{Q:Exit->Act->World->Prop}
 (l:∀V f σ a,BV TB Γ N V f σ V.nx a->K f σ V.nx->K' a V.w)
 {V:View} {f:Env} {σ:Ab} {nx:Nat} {a:Act} (b:BV TB Γ N V f σ nx a) (h:Gh P TB Γ ops c o K f σ nx):wpOp P ops Q i K' a V.w:=by
 have g:∀t e,f t=some e->t < a.tmps.size:=λt e B=>by rw [b.size];exact b.lt t e B
 unfold wpOp;simp only [A]
 have no:Bk ops o f=some false->K (BF f o.dst (.t [])) σ nx->(if Region.wanted o (yielded ops a.tmps) then o.wp P a V.w K' Q\/(o.asks P a V.w/\LetsOut Q) else K' (a.put o.dst undef) V.w):=by
  intro d hk;rw [GJ b.env g d];have j:BV TB Γ N V (BF f o.dst (.t [])) σ V.nx (a.put o.dst undef):=b.put k (Ext.refl _) b.inv rfl (KJ V)
  simpa using l _ _ _ _ j (by rw [b.nx];exact hk)
 have yes:Bk ops o f=some true->(∃x,AU P TB Γ o f σ nx x/\K (BF f o.dst x) σ nx)->(if Region.wanted o (yielded ops a.tmps) then o.wp P a V.w K' Q\/(o.asks P a V.w/\LetsOut Q) else K' (a.put o.dst undef) V.w):=by
  rintro d ⟨x,z,hk⟩;rw [GJ b.env g d];simp only [if_true];refine .inl (TA P (Oper.wp_mono ?_ (z V a (b.env.op o) b.inv b.nx)));rintro a' w' ⟨V',v,rfl,rfl,r,p,n,m⟩;exact l V' _ σ _ (b.put k r p rfl m) (by rw [n];exact hk)
 cases s:DT c
 ·rw [DB s] at h
  obtain⟨x,y,hk⟩:=h
  rcases y with ⟨d,rfl⟩|⟨d,q⟩
  ·exact no d hk
  ·refine yes d ⟨x,?_,hk⟩
   unfold QC at q;cases j:Nat.ble 10 c
   ·rw [j] at q
    cases u:Nat.beq c 2
    ·rw [u] at q;exact q
    ·rw [u] at q;exact q σ nx
   ·rw [j] at q;exact q σ nx rfl
 ·rw [Fh s] at h
  rcases h with ⟨d,hk⟩|⟨d,hk⟩
  ·exact no d hk
  ·rw [GJ b.env g d]
   simp only [if_true];refine .inl (TA P (Oper.wp_mono ?_ (hk V a (b.env.op o) b.inv b.nx)));rintro a' w' ⟨V',v,x,σ',rfl,rfl,r,p,n,m⟩;exact l V' _ σ' _ (b.put k r p rfl n) m.2
theorem JO(g:FN N ops=true){K:Env->Ab->Nat->Prop}{Q:Exit->Act->World->Prop}(j:TQ TB Γ N K Q):∀(r:List (Nat×Nat)) (V:View) (f:Env) (σ:Ab) (a:Act),
 BV TB Γ N V f σ V.nx a->Lex P TB Γ ops r K f σ V.nx->wpOps P ops Q (r.map (·.1)) a V.w
 | [],V,f,σ,a,d,h=>j V f σ a d h
 | (i,c)::r,V,f,σ,a,d,h=>by
  obtain⟨o,e,h⟩:=h;rw [lA,wpOps_cons];exact LX e (λt ht=>Ss g e ht) (λV' f' σ' a' b hk=>JO g j r V' f' σ' a' b hk) d h
theorem JN(v:FN N ops=true){K:Env->Ab->Nat->Prop}{Q:Exit->Act->World->Prop}(y:TQ TB Γ N K Q):∀(n:Nat) (r:List (Nat×Nat)) (listed:Array Bool) (V:View) (f:Env) (σ:Ab) (a:Act),
 r.length=n->EN ops listed->A6 ops r listed=true->Dv ops r=true->BV TB Γ N V f σ V.nx a->Lex P TB Γ ops r K f σ V.nx->wpAny P .any ops Q n listed a V.w
 | 0,r,listed,V,f,σ,a,g,u,b,hk,p,h=>by
  have:r=[]:=kJ.1 g;subst this;refine⟨?_,y V f σ a p h⟩
  simpa [A6] using b
 | n + 1,r,listed,V,f,σ,a,g,u,b,hk,p,h=>by
  refine⟨λe=>?_,λj s=>?_⟩
  ·cases r with
   | nil=>simp at g
   | cons x r=>
    obtain⟨i,c⟩:=x;simp only [A6,d5] at b;have:=b.1;rw [e] at this;simp at this
  ·obtain⟨l,c,k,o,rfl,d,z⟩:=Ex K r listed f σ V.nx u b hk h j s
   refine LX d (λt ht=>Ss v d ht) (λV' f' σ' a' m q=>?_) p z;exact JN v y n (l++k) _ V' f' σ' a' (by simp at g |-;omega) (GM u s) (MX l k j c listed b s) (Ju l k _ hk) m q
def Aj(P:Program)(TB:Bp)(Γ:Ctx)(N:Nat)(c:Code)(Q:Exit->Env->Ab->Nat->Prop)(f:Env)(σ:Ab)(nx:Nat):Prop:=
 ∀V a,BV TB Γ N V f σ nx a->c.wp P (λe a' w'=>∃V' f' σ',V'.w=w'/\Q e f' σ' V'.nx/\BV TB Γ N V' f' σ' V'.nx a') a V.w
variable {Q:Exit->Env->Ab->Nat->Prop}{f:Env}{σ:Ab}{nx:Nat}
theorem Aj.skip(h:Q .normal f σ nx):Aj P TB Γ N .skip Q f σ nx:=λV _ a=>wp_skip ⟨V,f,σ,rfl,by rw [a.nx];exact h,by rw [a.nx];exact a⟩
theorem Aj.exit{id:Nat}(h:Q (.exit id) f σ nx):Aj P TB Γ N (.exit id) Q f σ nx:=λV _ a=>wp_exit ⟨V,f,σ,rfl,by rw [a.nx];exact h,by rw [a.nx];exact a⟩
theorem Aj.ret(h:Q .ret f σ nx):Aj P TB Γ N .ret Q f σ nx:=λV _ a=>wp_ret ⟨V,f,σ,rfl,by rw [a.nx];exact h,by rw [a.nx];exact a⟩
def JJ(K:Env->Ab->Nat->Prop)(Q:Exit->Env->Ab->Nat->Prop):Exit->Env->Ab->Nat->Prop
 | .normal=>K
 | e=>Q e
theorem Aj.seq{x y:Code}(h:Aj P TB Γ N x (JJ (Aj P TB Γ N y Q) Q) f σ nx):Aj P TB Γ N (.seq x y) Q f σ nx:=by
 intro V a d;refine wp_seq (wp_mono (h V a d) ?_);rintro e a' w' ⟨V',f',σ',rfl,c,b⟩
 cases e with
 | normal=>exact c V' a' b
 | exit id=>exact⟨V',f',σ',rfl,c,b⟩
 | goto l=>exact⟨V',f',σ',rfl,c,b⟩
 | ret=>exact⟨V',f',σ',rfl,c,b⟩
 | panic ch=>exact⟨V',f',σ',rfl,c,b⟩
 | outgrown=>exact⟨V',f',σ',rfl,c,b⟩
def iP(id:Nat)(Q:Exit->Env->Ab->Nat->Prop):Exit->Env->Ab->Nat->Prop
 | .exit id'=>bif Nat.beq id' id then Q .normal else Q (.exit id')
 | e=>Q e
theorem Aj.block{id:Nat}{c:Code}(h:Aj P TB Γ N c (iP id Q) f σ nx):Aj P TB Γ N (.block id c) Q f σ nx:=by
 intro V a g;refine wp_block (wp_mono (h V a g) ?_);rintro e a' w' ⟨V',f',σ',rfl,b,d⟩
 cases e with
 | exit id'=>
  simp only [Exit.inBlock];by_cases hid:id'=id
  ·subst hid
   simp only [iP,nP,cond_true] at b;rw [if_pos rfl];exact⟨V',f',σ',rfl,b,d⟩
  ·have:Nat.beq id' id=false:=by
    cases hb:Nat.beq id' id
    ·rfl
    ·exact absurd (gt hb) hid
   simp only [iP,this,cond_false] at b;rw [if_neg hid];exact⟨V',f',σ',rfl,b,d⟩
 | normal=>exact⟨V',f',σ',rfl,b,d⟩
 | goto l=>exact⟨V',f',σ',rfl,b,d⟩
 | ret=>exact⟨V',f',σ',rfl,b,d⟩
 | panic ch=>exact⟨V',f',σ',rfl,b,d⟩
 | outgrown=>exact⟨V',f',σ',rfl,b,d⟩
def cE:Value->Option E
 | .slice none 0 0=>some (.o (.d (.l [])))
 | v=>bif Nn v then some (.o (.d (.v v))) else none
def ev(f:Env):Operand->Option E
 | .tmp t=>f t
 | .const v=>cE v
 | .global _=>none
 | .func f=>some (.o (.fn f []))
theorem Xt{V:View}{v:Value}{e:E}(h:cE v=some e):A4 V e v:=by
 unfold cE at h;split at h
 ·injection h with h;subst h;exact .d .nil
 ·cases a:Nn v
  ·rw [a] at h;cases h
  ·rw [a] at h;injection h with h;subst h;exact .d (.v a)
theorem dn{V:View}{o:Oper}{f:Env}{a:Act}(h:Hm V o f a){x:Operand}(d:x∈o.op.operands){e:E}(b:ev f x=some e):A4 V e (a.eval x):=by
 cases x with
 | tmp t=>exact h t e d b
 | const v=>exact Xt b
 | global g=>cases b
 | func g=>
  injection b with b;subst b
  exact .fn rfl (λj c v i=>by simp at i)
theorem dm{V:View}{f:Env}{a:Act}(h:DF V f a.tmps){x:Operand}{e:E}(b:ev f x=some e):A4 V e (a.eval x):=by
 cases x with
 | tmp t=>exact h t e b
 | const v=>exact Xt b
 | global g=>cases b
 | func g=>
  injection b with b;subst b
  exact .fn rfl (λj c v d=>by simp at d)
theorem Aj.cond{c:Operand}{x y:Code}{b:Bool}(i:ev f c=some (.o (.d (.v (.bool b)))))(ht:b=true->Aj P TB Γ N x Q f σ nx)(g:b=false->Aj P TB Γ N y Q f σ nx) :
 Aj P TB Γ N (.cond c x y) Q f σ nx:=by
 intro V a e;have j:a.eval c=.bool b:=Az.val (dm e.env i);exact wp_cond_split j (λh=>ht h V a e) (λh=>g h V a e)
theorem Aj.region{id:Nat}(r:List (Nat×Nat))(e:FN N ops=true)(d:r.map (·.1)=List.range ops.size)(h:Lex P TB Γ ops r (λf σ nx=>Q .normal f σ nx) f σ nx) :
 Aj P TB Γ N (.region id ops false) Q f σ nx:=by
 intro V a b;refine wp_region ?_;rw [<-d];have c:=b.nx;subst c;exact JO e (λV f σ a b hk=>⟨V,f,σ,rfl,hk,b⟩) r V f σ a b h
theorem KP(ops:Array Oper):EN ops (Array.replicate ops.size false):=by
 intro j a
 have:(Array.replicate ops.size false).getD j false=false:=by
  rcases lc j ops.size with h|h
  ·simp [h]
  ·simp [h]
 rw [this] at a;cases a
theorem Inv.drew{V:View}(h:Inv TB Γ V σ):Inv TB Γ { V with w:={ V.w with drawn:=V.w.drawn+1 } } σ/\Ext V { V with w:={ V.w with drawn:=V.w.drawn+1 } } := by
 have e:Ext V { V with w:={ V.w with drawn:=V.w.drawn+1 } } := ⟨λ_ h=>h,λ_ _=>rfl,i7 _,λ_ _=>rfl,λ_ _=>rfl,λ_ _=>Iff.rfl,i7 _⟩
 refine⟨⟨h.os,h.tape,h.output,h.old,h.iLt,h.iNew,h.ext.trans e,⟨λid o d=>?_,h.st.lt,h.st.free,h.st.inj⟩,h.live,h.tabs,h.hid.step (λ_ h=>h) (λ_ _=>rfl) (i7 _) (λ_ _ _ _=>rfl) (λ_ h=>.inl h) (λb hb=>.inl (Hv e h.st.lt hb))⟩,e⟩;have a:=h.st.obj id o d
 cases o with
 | cells T k rows=>
  rcases a with a|⟨u,cur,t,s,q,p,n,m⟩
  ·exact .inl a
  ·exact .inr ⟨u,cur,t,s,q,p,n,λi r j c hi f=>let ⟨v,l,g⟩:=m i r j c hi f;⟨v,l,g.ext e⟩⟩
 | mp=>exact a
 | sld=>exact a
theorem Aj.bL{id:Nat}(r:List (Nat×Nat))(i:P.follows .mixedOrders=true)(j:FN N ops=true)(g:r.length=ops.size)(d:(A6 ops r (Array.replicate ops.size false) && Dv ops r)=true)
 (h:Lex P TB Γ ops r (λf σ nx=>Q .normal f σ nx) f σ nx):Aj P TB Γ N (.region id ops true) Q f σ nx:=by
 intro V a b;rw [d5] at d;refine wp_region_any i ?_;obtain⟨l,k⟩:=b.inv.drew
 have c:BV TB Γ N { V with w:={ V.w with drawn:=V.w.drawn+1 } } f σ V.nx a:=⟨b.env.ext k,b.lt,b.size,l,rfl,b.defers⟩
 have e:=b.nx;subst e;exact JN j (λV f σ a b hk=>⟨V,f,σ,rfl,hk,b⟩) ops.size r _ { V with w:={ V.w with drawn:=V.w.drawn+1 } } f σ a g (KP ops) d.1 d.2 c h
theorem Aj.loop{U:Type}{c:Code}(S:U->Env×Ab×Nat)(μ:U->Nat)(back:U->Env->Ab->Nat->Prop)
 (g:∀y f σ nx V a,back y f σ nx->BV TB Γ N V f σ nx a->∃V',V'.w=V.w/\BV TB Γ N V' (S y).1 (S y).2.1 (S y).2.2 a)
 (x:U) (u:back x f σ nx) (round:∀x,Aj P TB Γ N c (JJ (λf σ nx=>∃y,μ y < μ x/\back y f σ nx) Q) (S x).1 (S x).2.1 (S x).2.2) :
 Aj P TB Γ N (.loop c) Q f σ nx:=by
 intro V a o b k cs;have key:∀n y,μ y=n->∀V a,BV TB Γ N V (S y).1 (S y).2.1 (S y).2.2 a->
  ∃e a' w',(∃V' f' σ',V'.w=w'/\Q e f' σ' V'.nx/\BV TB Γ N V' f' σ' V'.nx a')/\Arrives P (lone (b.at a (.code c::.inLoop c::k)) cs V.w) b k cs e a' w':=by
  intro n
  induction n using Nat.strongRecOn with
  | _ n r=>
   intro y t V a o;obtain⟨e,a₁,w₁,p,d⟩:=round y V a o b (.inLoop c::k) cs;obtain⟨V',f',σ',rfl,i,h⟩:=p
   cases e with
   | normal=>
    obtain⟨z,s,hb⟩:=i;obtain⟨V'',q,j⟩:=g z f' σ' V'.nx V' a₁ hb h;obtain⟨e₂,a₂,w₂,hq₂,harr₂⟩:=r (μ z) (t ▸ s) z rfl V'' a₁ j;rw [q] at harr₂;exact⟨e₂,a₂,w₂,hq₂,.of_steps (Steps.trans d (.one step_inLoop)) harr₂⟩
   | exit id=>exact⟨_,a₁,_,⟨V',f',σ',rfl,i,h⟩,.pass (x:=.inLoop c) rfl (λ_ _=>.inl (by simp)) d⟩
   | goto l=>exact⟨_,a₁,_,⟨V',f',σ',rfl,i,h⟩,.pass (x:=.inLoop c) rfl (λ_ _=>.inl (by simp)) d⟩
   | ret=>exact⟨_,a₁,_,⟨V',f',σ',rfl,i,h⟩,.pass (x:=.inLoop c) rfl (λ_ _=>.inl (by simp)) d⟩
   | panic ch=>exact⟨_,a₁,_,⟨V',f',σ',rfl,i,h⟩,.pass (x:=.inLoop c) rfl (λ_ _=>.inl (by simp)) d⟩
   | outgrown=>exact⟨_,a₁,_,⟨V',f',σ',rfl,i,h⟩,.pass (x:=.inLoop c) rfl (λ_ _=>.inl (by simp)) d⟩
 obtain⟨V',q,m⟩:=g x f σ nx V a u o;obtain⟨e,a',w',p,d⟩:=key _ x rfl V' a m;rw [q] at d;exact⟨e,a',w',p,.of_steps (.one step_loop) d⟩
end
end Go.Am
namespace Go.Proofs.YtgpbfllcjdfelaaGreatDoor
open Go
theorem Z0:mapsRowed Tryz.prog=true:=by kernel_rfl
theorem fi:(Tryz.prog.stops == [])=true:=by kernel_rfl
theorem fg:(Tryz.prog.stopKnobs == [])=true:=by kernel_rfl
theorem ff:Tryz.prog.stopsHeard=true:=by kernel_rfl
theorem aa:(false == Tryz.prog.plainKeys)=true:=by kernel_rfl
end Go.Proofs.YtgpbfllcjdfelaaGreatDoor
