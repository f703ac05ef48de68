/-
  A machine of pure data over the kit's machine: values without addresses, their reading in a world, the walk of code over them, any order of a region that draws.
-/
import Derived.Still
import Derived.Laws.AppendOwn
import Derived.Test.YtgpbfllcjdfelaaGreatDoorRows
import Derived.JoinedCond
import Derived.KernelRfl
set_option linter.all false
namespace Go.Am
abbrev am:=@List.getElem?_eq_some_iff
abbrev ce:=@List.mem_of_getElem?
abbrev co:=@Nat.le_of_ble_eq_true
abbrev d4:=@Function.comp_def
abbrev d5:=@List.getElem?_eq_getElem
abbrev d6:=@Bool.and_eq_true
abbrev d7:=@Option.map_eq_some_iff
abbrev d8:=@List.getElem?_append_left
abbrev d9:=@List.getElem?_map
abbrev em:=@List.mem_map
abbrev f6:=@Int.toNat_natCast
abbrev f7:=@List.length_map
abbrev f9:=@List.mem_append
abbrev gc:=@List.take_add_one
abbrev ge:=@List.getElem?_append_right
abbrev gt:=@List.all_eq_true
abbrev i7:=@Nat.eq_of_beq_eq_true
abbrev i8:=@List.getElem?_eq_none
abbrev i9:=@List.take_length
abbrev io:=@Nat.le_refl
abbrev jp:=@List.mem_range
abbrev kw:=@Nat.le_trans
abbrev lc:=@List.mem_cons
abbrev lm:=@List.take_of_length_le
abbrev lw:=@List.getD_eq_getElem?_getD
abbrev m7:=@List.length_eq_zero_iff
abbrev m8:=@Option.bind_eq_some_iff
abbrev m9:=@List.mem_append_left
abbrev mV:=@List.nodup_nil
abbrev mW:=@Nat.lt_of_lt_of_le
abbrev mY:=@Result.andThen_ok
abbrev mZ:=@List.idxOf_lt_length_iff
abbrev ms:=@Nat.zero_add
abbrev mt:=@Nat.not_lt_zero
abbrev n7:=@List.mem_iff_getElem?
abbrev n8:=@List.getElem_idxOf
abbrev n9:=@List.cons_append
abbrev nA:=@List.getElem_mem
abbrev nB:=@List.length_cons
abbrev nC:=@List.getElem_of_mem
abbrev nD:=@Nat.mul_le_mul_right
abbrev nE:=@List.mem_of_mem_take
abbrev nF:=@Nat.mod_eq_of_lt
abbrev nG:=@List.append_nil
abbrev nH:=@List.ext_getElem?
abbrev nI:=@List.mem_append_right
abbrev nJ:=@List.take_append_drop
abbrev nK:=@Nat.zero_le
abbrev nL:=@List.idxOf_append
abbrev nM:=@Nat.eq_zero_or_pos
abbrev nN:=@List.pairwise_cons
abbrev nO:=@List.map_append
abbrev nP:=@List.mem_filter
abbrev nQ:=@Nat.add_assoc
abbrev nR:=@List.nodup_append
abbrev nS:=@List.pairwise_map
abbrev nT:=@List.getElem?_set_self
abbrev nU:=@List.getElem?_set_ne
abbrev nV:=@List.map_map
abbrev nW:=@Option.getD_some
abbrev nX:=@List.map_cons
abbrev nY:=@Nat.pow_le_pow_right
abbrev nZ:=@Array.getElem?_toList
abbrev nc:=@Array.getElem?_eq_getElem
abbrev nf:=@Sem.run_bind
abbrev ng:=@Array.getElem?_eq_some_iff
abbrev nh:=@Nat.lt_or_ge
abbrev nj:=@List.pairwise_iff_getElem
abbrev nk:=@List.getElem?_take
abbrev nn:=@List.getElem?_drop
abbrev nq:=@List.mem_cons_of_mem
abbrev nr:=@Bool.or_eq_true
abbrev nt:=@Array.getElem?_append_left
abbrev nu:=@List.map_congr_left
abbrev nv:=@Option.map_some
abbrev nw:=@List.length_append
abbrev ny:=@List.length_set
abbrev nz:=@Nat.add_mul
abbrev o3:=@Array.toList_map
abbrev o4:=@List.replicate_succ
abbrev o5:=@List.getElem?_range
abbrev o6:=@Nat.testBit_two_pow
abbrev o7:=@Int.toNat_of_nonneg
abbrev o8:=@Nat.lt_or_gt_of_ne
abbrev o9:=@List.length_nil
abbrev oH:=@Array.eq_empty_of_size_eq_zero
abbrev oI:=@Bool.eq_iff_iff
abbrev oJ:=@List.range_succ
abbrev oK:=@List.pairwise_append
abbrev oL:=@Nat.eq_of_testBit_eq
abbrev oM:=@Int.natCast_mul
abbrev oN:=@Nat.lt_succ_of_lt
abbrev oO:=@List.map_inj_left
abbrev oP:=@Nat.testBit_or
abbrev oQ:=@Nat.testBit_succ
abbrev oR:=@List.drop_length
abbrev oS:=@List.find?_eq_none
abbrev oT:=@Int.emod_lt_of_pos
abbrev oU:=@List.map_set
abbrev oV:=@List.nil_append
abbrev oW:=@Classical.choose_spec
abbrev oX:=@List.mapM_cons
abbrev oY:=@Nat.lt_succ_self
abbrev oa:=@List.getElem?_toArray
abbrev oc:=@Array.getElem?_setIfInBounds
abbrev oe:=@Array.getElem?_append_right
abbrev og:=@List.mem_cons_self
abbrev oh:=@Option.bind_some
abbrev ol:=@List.length_take
abbrev oo:=@List.nodup_cons
abbrev oq:=@Int.mul_le_mul_of_nonneg_right
abbrev ot:=@List.mem_flatMap
abbrev ou:=@List.idxOf_cons_self
abbrev ow:=@Nat.le_mul_of_pos_right
abbrev ox:=@List.getElem?_inj
abbrev oy:=@Nat.zero_mul
abbrev oz:=@Array.getElem?_setIfInBounds_ne
abbrev p6:=@Int.ediv_eq_zero_of_lt
abbrev p7:=@List.length_pos_of_mem
abbrev p8:=@Int.mul_assoc
abbrev p9:=@List.map_take
abbrev pA:=@List.prefix_refl
abbrev pB:=@List.getElem?_of_mem
abbrev pC:=@Bool.true_and
abbrev pD:=@Int.add_mul
abbrev pE:=@List.length_pos_iff
abbrev pF:=@List.foldl_cons
abbrev pG:=@Array.mapM_eq_mapM_toList
abbrev pH:=@List.drop_eq_getElem_cons
abbrev pI:=@Nat.two_pow_pos
abbrev pJ:=@List.getElem?_eq_none_iff
abbrev pK:=@List.mem_filterMap
abbrev pL:=@Nat.mul_comm
abbrev pM:=@List.map_nil
abbrev pN:=@List.Pairwise.imp_of_mem
abbrev pO:=@Nat.lt_succ_iff_lt_or_eq
abbrev pP:=@List.mem_singleton
abbrev pQ:=@Nat.pow_succ
abbrev pR:=@Int.add_comm
abbrev pS:=@List.drop_zero
abbrev pT:=@List.getElem?_replicate
abbrev pU:=@Array.any_eq_true
abbrev pV:=@List.flatMap_cons
abbrev pX:=@Array.getElem?_extract
abbrev pY:=@Int.le_refl
abbrev pZ:=@Int.add_mul_ediv_right
abbrev pb:=@Bool.false_eq_true
abbrev pc:=@Int.emod_nonneg
abbrev pe:=@Sem.run_map
abbrev pf:=@Bool.not_eq_true'
abbrev pg:=@List.length_range
abbrev ph:=@Nat.lt_trichotomy
abbrev pi:=@List.foldl_append
abbrev pj:=@Nat.or_lt_two_pow
abbrev pk:=@Int.emod_eq_of_lt
abbrev pm:=@Nat.ble_eq_true_of_le
abbrev po:=@Nat.add_comm
abbrev pp:=@List.length_filter_le
abbrev pu:=@Int.mul_nonneg
abbrev pv:=@List.length_singleton
abbrev px:=@Int.add_mul_emod_self_right
abbrev pz:=@List.mem_of_mem_drop
abbrev qA:=@List.all_eq_false
abbrev qB:=@List.find?_append
abbrev qC:=@List.append_assoc
abbrev qD:=@Nat.add_zero
abbrev qE:=@Nat.le_of_lt
abbrev qF:=@List.map_toArray
abbrev qG:=@Nat.sub_zero
abbrev qH:=@List.length_drop
abbrev qI:=@List.nodup_range
abbrev qJ:=@List.any_eq_true
abbrev qK:=@Nat.zero_testBit
abbrev qL:=@Int.ediv_nonneg
abbrev qM:=@List.find?_cons
abbrev qN:=@List.idxOf_cons
abbrev qO:=@Nat.zero_lt_one
abbrev qP:=@Nat.testBit_and
abbrev qQ:=@Nat.le_antisymm
abbrev qR:=@Nat.le_succ
abbrev qS:=@Nat.mul_one
abbrev qb:=@List.append_inj'
abbrev qc:=@List.not_mem_nil
abbrev qd:=@Nat.testBit_eq_decide_div_mod_eq
abbrev qe:=@Bool.not_eq_true
abbrev qf:=@List.Pairwise.and_mem
abbrev qg:=@List.eraseIdx_eq_take_drop_succ
abbrev qh:=@List.mk_mem_zipIdx_iff_getElem?
abbrev qi:=@Nat.beq_refl
abbrev qj:=@Nat.pow_lt_pow_right
abbrev qk:=@Int.zero_add
abbrev ql:=@List.length_flatten
abbrev qm:=@Option.bind_eq_bind
abbrev qo:=@Int.mul_le_mul
abbrev qp:=@List.dropLast_concat_getLast
abbrev qq:=@Nat.mul_le_mul
abbrev qt:=@List.filter_append
abbrev qu:=@List.prefix_append
abbrev qv:=@Option.toList_some
abbrev qw:=@Array.getElem_mem
abbrev qx:=@List.getElem?_set
abbrev qy:=@List.size_toArray
abbrev qz:=@List.flatten_cons
open Go
inductive D where
 | v (x:Value)
 | l (rows:List (List D))
 | p (cells:List D)
inductive C where
 | d (x:D)
 | arr (id k off len:Nat)
 | ptr (id k i j:Nat)
 | fn (f:FuncId) (cap:List C)
 | mp (id:Nat)
 | mv (f:FuncId) (recv:List C)
abbrev C.ip(cells:List D):C:=.d (.p cells)
inductive E where
 | o (c:C)
 | a (cs:List C)
 | t (xs:List (Bool×List C))
 | e
def NT:Value->Bool
 | .bool _|.int ..|.float ..|.complex ..|.string _|.pointer _|.map none|.chan none|.nilFunc|.nilIface|.slice .. => true
 | .func (.func _) ⟨[]⟩ ⟨[]⟩=>true
 | _=>false
structure View where
 I:Nat->Prop
 ρ:Nat->Nat
 cap:Nat->Nat
 nl:Nat->Prop
 nx:Nat
 w:World
inductive De (I:Nat->Prop) (w:World):D->Value->Prop
 | v {x:Value}:NT x=true->De I w (.v x) x
 | nil:De I w (.l []) (.slice none 0 0)
 | e {a:Addr} {cap:Nat}:cap<=maxLen->De I w (.l []) (.slice (some a) 0 cap)
 | l {rows:List (List D)} {b o k cap:Nat} {vs:Nat->Nat->Value}:I b->rows.length<=cap->cap<=maxLen->
  (∀(i:Nat) (r:List D),rows[i]? = some r->r.length=k)->
  (∀(i:Nat) (r:List D) (j:Nat) (d:D),rows[i]? = some r->r[j]? = some d->w.cell? ⟨b,o+i*k+j,none⟩=some (vs i j))->
  (∀(i:Nat) (r:List D) (j:Nat) (d:D),rows[i]? = some r->r[j]? = some d->De I w d (vs i j))->
  De I w (.l rows) (.slice (some ⟨b,o,none⟩) rows.length cap)
 | p {cells:List D} {b o:Nat} {vs:Nat->Value}:I b->(∀(j:Nat) (d:D),cells[j]? = some d->w.cell? ⟨b,o+j,none⟩=some (vs j))->(∀(j:Nat) (d:D),cells[j]? = some d->De I w d (vs j))->
  De I w (.p cells) (.pointer (some ⟨b,o,none⟩))
theorem MC{w w':World}{b:Nat}(h:w'.heap[b]? = w.heap[b]?)(o:Nat):w'.cell? ⟨b,o,none⟩=w.cell? ⟨b,o,none⟩:=by
 simp [World.cell?,h]
theorem De.mono{I I':Nat->Prop}{w w':World}{d:D}{v:Value}(g:∀b,I b->I' b)(hw:∀b,I b->w'.heap[b]? = w.heap[b]?)(h:De I w d v):De I' w' d v:=by
 induction h with
 | v h=>exact .v h
 | nil=>exact .nil
 | e h=>exact .e h
 | @l rows b o k cap vs hb f q n m _ c=>
  exact .l (g b hb) f q n (λi r j d hi a=>by rw [MC (hw b hb)];exact m i r j d hi a) (λi r j d hi a=>c i r j d hi a)
 | @p cells b o vs hb f _ c=>exact .p (g b hb) (λj d a=>by rw [MC (hw b hb)];exact f j d a) (λj d a=>c j d a)
inductive AA (V:View):C->Value->Prop
 | d {x:D} {v:Value}:De V.I V.w x v->AA V (.d x) v
 | nil {id k:Nat}:id < V.nx->V.nl id->AA V (.arr id k 0 0) (.slice none 0 0)
 | arr {id k off len:Nat}:id < V.nx->¬V.nl id->off+len<=V.cap id->AA V (.arr id k off len) (.slice (some ⟨V.ρ id,off*k,none⟩) len (V.cap id - off))
 | ptr {id k i j:Nat}:id < V.nx->¬V.nl id->AA V (.ptr id k i j) (.pointer (some ⟨V.ρ id,i*k+j,none⟩))
 | fn {f:FuncId} {cap:List C} {vs:Array Value}:vs.size=cap.length->(∀(j:Nat) (c:C) (v:Value),cap[j]? = some c->vs[j]? = some v->AA V c v)->AA V (.fn f cap) (.func (.func f) #[] vs)
 | mp {id:Nat}:id < V.nx->AA V (.mp id) (.map (some (V.ρ id)))
 | mv {f:FuncId} {recv:List C} {vs:Array Value}:vs.size=recv.length->(∀(j:Nat) (c:C) (v:Value),recv[j]? = some c->vs[j]? = some v->AA V c v)->AA V (.mv f recv) (.func (.func f) vs #[])
theorem AA.ip{V:View}{cells:List D}{b o:Nat}{vs:Nat->Value}(hb:V.I b)(c:∀(j:Nat) (d:D),cells[j]? = some d->V.w.cell? ⟨b,o+j,none⟩=some (vs j))(a:∀(j:Nat) (d:D),cells[j]? = some d->De V.I V.w d (vs j)) :
 AA V (.ip cells) (.pointer (some ⟨b,o,none⟩)):=.d (.p hb c a)
theorem De.val{I:Nat->Prop}{w:World}{x v:Value}(h:De I w (.v x) v):v=x:=by cases h;rfl
theorem AA.val{V:View}{x v:Value}(h:AA V (.d (.v x)) v):v=x:=by cases h with|d h=>exact h.val
structure Ext (V V':View):Prop where
 i:∀b,V.I b->V'.I b
 heap:∀b,V.I b->V'.w.heap[b]? = V.w.heap[b]?
 size:V.w.heap.size<=V'.w.heap.size
 ρ:∀id,id < V.nx->V'.ρ id=V.ρ id
 cap:∀id,id < V.nx->V'.cap id=V.cap id
 nl:∀id,id < V.nx->(V'.nl id↔V.nl id)
 nx:V.nx<=V'.nx
theorem Ext.refl(V:View):Ext V V:=⟨λ_ h=>h,λ_ _=>rfl,io _,λ_ _=>rfl,λ_ _=>rfl,λ_ _=>Iff.rfl,io _⟩
theorem Ext.trans{A B C:View}(h:Ext A B)(k:Ext B C):Ext A C:=
 ⟨λb hb=>k.i b (h.i b hb),λb hb=>(k.heap b (h.i b hb)).trans (h.heap b hb),kw h.size k.size,
  λi hi=>(k.ρ i (mW hi h.nx)).trans (h.ρ i hi),λi hi=>(k.cap i (mW hi h.nx)).trans (h.cap i hi),λi hi=>(k.nl i (mW hi h.nx)).trans (h.nl i hi),kw h.nx k.nx⟩
theorem De.ext{V V':View}{d:D}{v:Value}(e:Ext V V')(h:De V.I V.w d v):De V'.I V'.w d v:=h.mono e.i e.heap
theorem AA.ext{V V':View}{c:C}{v:Value}(e:Ext V V')(h:AA V c v):AA V' c v:=by
 induction h with
 | d h=>exact .d (h.ext e)
 | @nil id k a f=>exact .nil (mW a e.nx) ((e.nl id a).2 f)
 | @arr id k off len a g f=>rw [<-e.ρ id a,<-e.cap id a];exact .arr (mW a e.nx) (λh=>g ((e.nl id a).1 h)) (by rw [e.cap id a];exact f)
 | @ptr id k i j a g=>rw [<-e.ρ id a];exact .ptr (mW a e.nx) (λh=>g ((e.nl id a).1 h))
 | fn a _ b=>exact .fn a b
 | @mp id a=>rw [<-e.ρ id a];exact .mp (mW a e.nx)
 | mv a _ b=>exact .mv a b
def C0(V:View)(cs:List C)(vs:Array Value):Prop:=vs.size=cs.length/\∀(j:Nat) c v,cs[j]? = some c->vs[j]? = some v->AA V c v
theorem C0.ext{V V':View}{cs:List C}{vs:Array Value}(e:Ext V V')(h:C0 V cs vs):C0 V' cs vs:=⟨h.1,λj c v a b=>(h.2 j c v a b).ext e⟩
def LG(V:View):Bool×List C->Value->Prop
 | (true,cs),v=>∃vs,v=.agg vs/\C0 V cs vs
 | (false,cs),v=>∃c,cs=[c]/\AA V c v
theorem LG.ext{V V':View}{x:Bool×List C}{v:Value}(e:Ext V V')(h:LG V x v):LG V' x v:=by
 obtain⟨b,cs⟩:=x;cases b
 ·obtain⟨c,d,a⟩:=h;exact⟨c,d,a.ext e⟩
 ·obtain⟨vs,d,a⟩:=h;exact⟨vs,d,a.ext e⟩
def A2(V:View):E->Value->Prop
 | .o c,v=>AA V c v
 | .a cs,v=>∃vs,v=.agg vs/\C0 V cs vs
 | .t xs,v=>∃vs:Array Value,v=.tuple vs/\vs.size=xs.length/\∀(j:Nat) x v,xs[j]? = some x->vs[j]? = some v->LG V x v
 | .e,v=>∃b,v=.slice b 0 0
theorem A2.ext{V V':View}{x:E}{v:Value}(e:Ext V V')(h:A2 V x v):A2 V' x v:=by
 cases x with
 | o c=>exact AA.ext e h
 | a cs=>obtain⟨vs,f,d⟩:=h;exact⟨vs,f,d.ext e⟩
 | t xs=>obtain⟨vs,f,d,g⟩:=h;exact⟨vs,f,d,λj x v a b=>(g j x v a b).ext e⟩
 | e=>exact h
inductive O where
 | cells (T k:Nat) (rows:List (List C))
 | mp (es:List (Value×Value))
 | sld (T:Nat) (l:List (Value×List Value))
abbrev Ab:=List (Nat×O)
def look{U:Type}:List (Nat×U)->Nat->Option U
 | [],_=>none
 | (k,x)::r,i=>bif Nat.beq k i then some x else look r i
theorem Ax{U:Type}(k:Nat)(x:U)(r:List (Nat×U))(i:Nat):look ((k,x)::r) i=if k=i then some x else look r i:=by
 simp only [look];by_cases h:k=i
 ·subst h;simp
 ·have:Nat.beq k i=false:=by
   cases hb:Nat.beq k i
   ·rfl
   ·exact absurd (i7 hb) h
  simp [this,h]
def IZ(v:Value)(b:Nat):Prop:=∃o n c,v=.slice (some ⟨b,o,none⟩) n c
def DY(V:View)(id:Nat):O->Nat->Prop
 | .cells ..,b=>b=V.ρ id
 | .mp _,b=>b=V.ρ id
 | .sld _ l,b=>∃x∈l,IZ x.1 b
def Jm(w:World)(T:Nat)(v:Value)(row:List Value):Prop:=(v=.slice none 0 0/\row=[])\/
 ∃b cap cur,v=.slice (some ⟨b,0,none⟩) row.length cap/\w.heap[b]? = some (.cells cur T (0,0))/\cur.size=cap/\row.length<=cap/\cap<=maxLen/\∀(j:Nat) (x:Value),row[j]? = some x->cur[j]? = some x/\NT x=true
def df(w:World)(T:Nat)(l:List (Value×List Value)):Prop:=l.Pairwise (λx y=>∀b,IZ x.1 b->¬IZ y.1 b)/\∀x∈l,Jm w T x.1 x.2
theorem Jm.Bn{w w':World}{T:Nat}{v:Value}{row:List Value}(hw:∀b,IZ v b->w'.heap[b]? = w.heap[b]?)(h:Jm w T v row):Jm w' T v row:=by
 rcases h with h|⟨b,cap,cur,rfl,c,a⟩
 ·exact .inl h
 ·exact .inr ⟨b,cap,cur,rfl,by rw [hw b ⟨_,_,_,rfl⟩];exact c,a⟩
theorem Jm.blt{w:World}{T:Nat}{v:Value}{row:List Value}(h:Jm w T v row){b:Nat}(hb:IZ v b):b < w.heap.size:=by
 obtain⟨o,n,c,hb⟩:=hb
 rcases h with ⟨h,_⟩|⟨b',cap,cur,rfl,a,_⟩
 ·rw [h] at hb;cases hb
 ·injection hb with hb;injection hb with hb;injection hb with hb;subst hb;exact(ng.1 a).1
theorem df.Bn{w w':World}{T:Nat}{l:List (Value×List Value)}(hw:∀x∈l,∀b,IZ x.1 b->w'.heap[b]? = w.heap[b]?)(h:df w T l):df w' T l:=
 ⟨h.1,λx a=>(h.2 x a).Bn (hw x a)⟩
def Ch(V:View)(id:Nat):O->Prop
 | .cells T k rows=>(V.nl id/\rows=[])\/¬V.nl id/\∃cur,V.w.heap[V.ρ id]? = some (.cells cur T (0,0))/\cur.size=V.cap id*k/\rows.length<=V.cap id/\V.cap id<=maxLen/\(∀r∈rows,r.length=k)/\
  ∀i r j c,rows[i]? = some r->r[j]? = some c->∃v,cur[i*k+j]? = some v/\AA V c v
 | .mp es=>¬V.nl id/\∃ents clock,V.w.heap[V.ρ id]? = some (.map ents clock)/\ents.toList.map (λe=>(e.key,e.val))=es
 | .sld T l=>¬V.nl id/\df V.w T l
theorem AE{V V':View}(e:Ext V V'){id:Nat}(hid:id < V.nx){o:O}{b:Nat}:DY V' id o b↔DY V id o b:=by
 cases o<;>simp [DY,e.ρ id hid]
structure Gz (V:View) (σ:Ab):Prop where
 obj:∀id o,look σ id=some o->Ch V id o
 lt:∀id o,look σ id=some o->id < V.nx
 free:∀id o,look σ id=some o->¬V.nl id->∀b,DY V id o b->¬V.I b
 inj:∀id id' o o',look σ id=some o->look σ id'=some o'->id≠id'->¬V.nl id->¬V.nl id'->∀b,DY V id o b->¬DY V id' o' b
structure RP where
 B:Nat->Prop
 J:Nat->Prop
structure Ctx where
 V:View
 F:Nat->Prop
 J:Nat->Prop
def Dl(V:View)(σ:Ab)(b:Nat):Prop:=∃id o,look σ id=some o/\¬V.nl id/\DY V id o b
theorem Ch.Bn{V V':View}(e:Ext V V'){id:Nat}(hid:id < V.nx){o:O}(hb:¬V.nl id->∀b,DY V id o b->V'.w.heap[b]? = V.w.heap[b]?)(h:Ch V id o):Ch V' id o:=by
 cases o with
 | cells T k rows=>
  replace hb:=λf=>hb f _ (show DY V id (.cells T k rows) (V.ρ id) from rfl)
  rcases h with ⟨m,a⟩|⟨d,cur,a,A,z,y,u,t⟩
  ·exact .inl ⟨(e.nl id hid).2 m,a⟩
  ·refine .inr ⟨λh=>d ((e.nl id hid).1 h),cur,by rw [e.ρ id hid,hb d];exact a,by rw [e.cap id hid];exact A,by rw [e.cap id hid];exact z,by rw [e.cap id hid];exact y,u,λi r j c hi p=>?_⟩
   obtain⟨v,s,q⟩:=t i r j c hi p;exact⟨v,s,q.ext e⟩
 | mp es=>
  replace hb:=λf=>hb f _ (show DY V id (.mp es) (V.ρ id) from rfl);obtain⟨d,ents,clock,m,a⟩:=h;exact⟨λh=>d ((e.nl id hid).1 h),ents,clock,by rw [e.ρ id hid,hb d];exact m,a⟩
 | sld T l=>exact⟨λB=>h.1 ((e.nl id hid).1 B),h.2.Bn λx n b g=>hb h.1 b ⟨x,n,g⟩⟩
theorem Ch.blt{V:View}{id:Nat}{o:O}(h:Ch V id o)(d:¬V.nl id){b:Nat}(hb:DY V id o b):b < V.w.heap.size:=by
 cases o with
 | sld T l=>obtain⟨x,c,hb⟩:=hb;exact(h.2.2 x c).blt hb
 | cells T k rows=>
  subst hb
  rcases h with ⟨a,_⟩|⟨_,cur,e,_⟩
  ·exact absurd a d
  ·exact(ng.1 e).1
 | mp=>
  subst hb;obtain⟨_,ents,clock,a,_⟩:=h;exact(ng.1 a).1
theorem HO{V V':View}(e:Ext V V'){σ:Ab}(a:∀id o,look σ id=some o->id < V.nx){b:Nat}(h:Dl V' σ b):Dl V σ b:=by
 obtain⟨id,o,d,i,g⟩:=h;have c:=a id o d;exact⟨id,o,d,λf=>i ((e.nl id c).2 f),(AE e c).1 g⟩
structure Hid where
 S:Type
 st:S->Ab
 nx:Nat
structure Bi where
 tabs:List (Nat×Obj)
 hid:Option (Hid×Nat)
instance:Membership (Nat×Obj) Bi:=⟨λa x=>x∈a.tabs⟩
def P9(TB:Bi)(S:RP)(w:World):Prop:=match TB.hid with
 | none=>∀b,¬S.B b
 | some (H,r)=>∃(s:H.S) (V:View),V.I=S.J/\V.w=w/\V.nx=H.nx/\Gz V (H.st s)/\(0 < V.nx/\V.ρ 0=r/\¬V.nl 0/\∀x∈TB,V.I x.1)/\∀b,S.B b↔Dl V (H.st s) b
theorem P9.blt{TB:Bi}{S:RP}{w:World}(h:P9 TB S w){b:Nat}(hb:S.B b):b < w.heap.size:=by
 unfold P9 at h;split at h
 ·exact absurd hb (h b)
 ·obtain⟨s,V,k,d,j,c,i,a⟩:=h
  obtain⟨id,o,g,f,e⟩:=(a b).1 hb;rw [<-d];exact(c.obj id o g).blt f e
theorem P9.Bn{TB:Bi}{S:RP}{w w':World}(h:P9 TB S w)(hw:∀b,S.J b->w'.heap[b]? = w.heap[b]?)(t:w.heap.size<=w'.heap.size)(u:∀b,S.B b->w'.heap[b]? = w.heap[b]?):P9 TB S w':=by
 unfold P9 at *;split at h
 ·exact h
 ·obtain⟨s,V,r,q,x,d,v,p⟩:=h
  have e:Ext V { V with w:=w' } := by
   subst q;exact⟨λ_ h=>h,λb hb=>hw b (by rw [<-r];exact hb),t,λ_ _=>rfl,λ_ _=>rfl,λ_ _=>Iff.rfl,io _⟩
  have bw:∀ {i o b},DY { V with w:=w' } i o b↔DY V i o b:=λ{i o b} => by cases o<;>exact Iff.rfl
  refine⟨s,{ V with w:=w' },r,rfl,x,⟨λid o a=>?_,d.lt,λid o a c b hb=>d.free id o a c b (bw.1 hb),λid id' o o' a f g c j b hb k=>d.inj id id' o o' a f g c j b (bw.1 hb) (bw.1 k)⟩,v,λb=>?_⟩
  ·exact(d.obj id o a).Bn e (d.lt id o a) λc b hb=>by
    have:=u b ((p b).2 ⟨id,o,a,c,hb⟩);rw [q];exact this
  ·rw [p b]
   exact⟨λ⟨id,o,n,m,l⟩=>⟨id,o,n,m,bw.2 l⟩,λ⟨id,o,n,m,l⟩=>⟨id,o,n,m,bw.1 l⟩⟩
structure LC (TB:Bi) (V:View) (σ:Ab) (S:RP):Prop where
 r:P9 TB S V.w
 ji:∀b,S.J b->V.I b
 bi:∀b,S.B b->¬V.I b
 ap:∀b,Dl V σ b->¬S.B b
def TR(TB:Bi)(Γ:Ctx)(V:View)(σ:Ab):Prop:=∃S,LC TB V σ S/\(∀b,S.J b->Γ.J b\/Γ.V.w.heap.size<=b\/Γ.F b)/\∀b,S.B b->Γ.V.w.heap.size<=b\/Γ.F b
theorem LC.step{TB:Bi}{S:RP}{V V':View}{σ σ':Ab}(h:LC TB V σ S)(i:∀b,V.I b->V'.I b)(d:∀b,V.I b->V'.w.heap[b]? = V.w.heap[b]?)(e:V.w.heap.size<=V'.w.heap.size)
 (hw:∀b,b < V.w.heap.size->¬V.I b->¬Dl V σ b->V'.w.heap[b]? = V.w.heap[b]?) (g:∀b,V'.I b->V.I b\/Dl V σ b\/V.w.heap.size<=b) (j:∀b,Dl V' σ' b->Dl V σ b\/V.w.heap.size<=b):LC TB V' σ' S:=by
 have f:∀b,S.B b->¬Dl V σ b:=λb hb c=>h.ap b c hb;refine⟨h.r.Bn (λb hb=>d b (h.ji b hb)) e (λb hb=>hw b (h.r.blt hb) (h.bi b hb) (f b hb)),λb hb=>i b (h.ji b hb),λb hb hi=>?_,λb c hb=>?_⟩
 ·rcases g b hi with a|a|a
  ·exact h.bi b hb a
  ·exact h.ap b a hb
  ·have:=h.r.blt hb;omega
 ·rcases j b c with a|a
  ·exact h.ap b a hb
  ·have:=h.r.blt hb;omega
theorem TR.step{TB:Bi}{Γ:Ctx}{V V':View}{σ σ':Ab}(h:TR TB Γ V σ)(e:∀b,V.I b->V'.I b)(a:∀b,V.I b->V'.w.heap[b]? = V.w.heap[b]?)(c:V.w.heap.size<=V'.w.heap.size)
 (hw:∀b,b < V.w.heap.size->¬V.I b->¬Dl V σ b->V'.w.heap[b]? = V.w.heap[b]?) (d:∀b,V'.I b->V.I b\/Dl V σ b\/V.w.heap.size<=b) (f:∀b,Dl V' σ' b->Dl V σ b\/V.w.heap.size<=b):TR TB Γ V' σ':=by
 obtain⟨S,i,g⟩:=h;exact⟨S,i.step e a c hw d f,g⟩
theorem TR.same{TB:Bi}{Γ:Ctx}{V V':View}{σ σ':Ab}(h:TR TB Γ V σ)(hw:V'.w=V.w)(c:∀b,V.I b->V'.I b)(a:∀b,V'.I b->V.I b\/Dl V σ b)(d:∀b,Dl V' σ' b->Dl V σ b):TR TB Γ V' σ':=
 h.step c (λb _=>by rw [hw]) (by rw [hw];exact io _) (λb _ _ _=>by rw [hw]) (λb hb=>(a b hb).elim .inl λh=>.inr (.inl h)) (λb hb=>.inl (d b hb))
structure Inv (TB:Bi) (Γ:Ctx) (V:View) (σ:Ab):Prop where
 os:V.w.os=Γ.V.w.os
 tape:V.w.tape=Γ.V.w.tape
 output:V.w.output=Γ.V.w.output
 old:∀b,b < Γ.V.w.heap.size->¬Γ.F b->V.w.heap[b]? = Γ.V.w.heap[b]?
 iLt:∀b,V.I b->b < V.w.heap.size
 iNew:∀b,V.I b->Γ.V.I b\/Γ.V.w.heap.size<=b\/Γ.F b
 ext:Ext Γ.V V
 st:Gz V σ
 live:∀id o,look σ id=some o->¬V.nl id->∀b,DY V id o b->Γ.V.w.heap.size<=b\/Γ.F b
 tabs:∀x∈TB,V.I x.1/\V.w.heap[x.1]? = some x.2
 hid:TR TB Γ V σ
abbrev Env:=Nat->Option E
def BB(f:Env)(d:Option Tmp)(x:E):Env:=match d with
 | some d=>λt=>if t=d then some x else f t
 | none=>f
def DS(V:View)(f:Env)(tmps:Array Value):Prop:=∀t e,f t=some e->A2 V e (tmps.getD t undef)
def HF(V:View)(o:Oper)(f:Env)(a:Act):Prop:=∀t e,.tmp t∈o.op.operands->f t=some e->A2 V e (a.tmps.getD t undef)
theorem DS.op{V:View}{f:Env}{a:Act}(h:DS V f a.tmps)(o:Oper):HF V o f a:=λt e _ b=>h t e b
theorem DS.ext{V V':View}{f:Env}{tmps:Array Value}(e:Ext V V')(h:DS V f tmps):DS V' f tmps:=λt x a=>(h t x a).ext e
def k8:Exit->Act->World->Prop:=λ_ _ _=>False
section
variable (P:Program)(TB:Bi)(Γ:Ctx)
def AO(o:Oper)(f:Env)(σ:Ab)(nx:Nat)(x:E):Prop:=
 ∀V a,HF V o f a->Inv TB Γ V σ->V.nx=nx->o.wp P a V.w (λa' w'=>∃V' v,V'.w=w'/\a'=a.put o.dst v/\Ext V V'/\Inv TB Γ V' σ/\V'.nx=nx/\A2 V' x v) k8
def BS(o:Oper)(f:Env)(σ:Ab)(nx:Nat)(K:E->Ab->Nat->Prop):Prop:=
 ∀V a,HF V o f a->Inv TB Γ V σ->V.nx=nx->o.wp P a V.w (λa' w'=>∃V' v x σ',V'.w=w'/\a'=a.put o.dst v/\Ext V V'/\Inv TB Γ V' σ'/\A2 V' x v/\K x σ' V'.nx) k8
theorem Vm{o:Oper}{a:Act}{w:World}{K:Act->World->Prop}{Q:Exit->Act->World->Prop}(h:o.wp P a w K k8):o.wp P a w K Q:=by
 unfold Oper.wp at *;generalize (execOp a.eval o).run P w=r at *
 cases r with
 | ok n w'=>
  cases n<;>simp only [Oper.upon] at h |-
  case value=>exact h
  case skip=>exact h
  case defer=>exact h
  case enter f args=>
   refine h.mono λe w'' b=>?_
   cases e with
   | returned v=>exact b
   | panicked c=>exact b.elim
   | outgrown=>obtain⟨_,_,h⟩:=b;exact h.elim
  case row=>exact h
 | halt x w'=>
  cases x<;>simp only [Oper.upon] at h |-
  case panic v=>exact h.elim
theorem AO.lz{o:Oper}{f:Env}{σ:Ab}{nx:Nat}{x:E}{K:E->Ab->Nat->Prop}(h:AO P TB Γ o f σ nx x)(b:K x σ nx):BS P TB Γ o f σ nx K:=by
 intro V a e d c;refine Oper.wp_mono ?_ (h V a e d c);rintro a' w' ⟨V',v,m,l,k,j,i,g⟩;exact⟨V',v,x,σ,m,l,k,j,g,i ▸ b⟩
def Bj(ops:Array Oper)(o:Oper)(f:Env):Option Bool:=
 match o.guard with
 | none=>some true
 | some (g,want)=>
  match ((ops[g]?).bind (·.dst)).bind f with
  | some (.o (.d (.v (.bool b))))=>some (b == want)
  | some (.t _)=>some false
  | _=>none
theorem GV{V:View}{ops:Array Oper}{o:Oper}{f:Env}{a:Act}{b:Bool}(r:DS V f a.tmps)(c:∀t e,f t=some e->t < a.tmps.size)(h:Bj ops o f=some b) :
 Region.wanted o (yielded ops a.tmps)=b:=by
 unfold Bj at h;unfold Region.wanted;split at h
 ·rename_i m;simp only [m];exact Option.some.inj h
 ·rename_i g want m
  simp only [m];split at h
  ·rename_i b' hb
   have l:∃t,((ops[g]?).bind (·.dst))=some t/\f t=some (.o (.d (.v (.bool b')))):=by
    cases ht:((ops[g]?).bind (·.dst)) with
    | none=>rw [ht] at hb;cases hb
    | some t=>exact⟨t,rfl,by rw [ht] at hb;exact hb⟩
   obtain⟨t,q,j⟩:=l;have k:=r t _ j;have i:=c t _ j;have s:a.tmps.getD t undef=.bool b':=AA.val k
   have p:a.tmps[t]? = some (.bool b'):=by
    rw [nc i];rw [Array.getD,dif_pos i] at s;exact congrArg some s
   have n:yielded ops a.tmps g=some b':=by
    unfold yielded;rw [q];simp [p]
   rw [n];cases b'<;>cases want<;>simp_all
  ·rename_i xs hb
   have l:∃t,((ops[g]?).bind (·.dst))=some t/\f t=some (.t xs):=by
    cases ht:((ops[g]?).bind (·.dst)) with
    | none=>rw [ht] at hb;cases hb
    | some t=>exact⟨t,rfl,by rw [ht] at hb;exact hb⟩
   obtain⟨t,q,j⟩:=l;obtain⟨vs,k,_⟩:=r t _ j;have i:=c t _ j
   have p:a.tmps[t]? = some (.tuple vs):=by
    rw [nc i];rw [Array.getD,dif_pos i] at k;exact congrArg some k
   have n:yielded ops a.tmps g=none:=by
    unfold yielded;rw [q];simp [p]
   rw [n];exact Option.some.inj h
  ·cases h
end
theorem Kw{f:Env}{d d':Option Tmp}{x y:E}(h:∀t,d=some t->d'≠some t):BB (BB f d x) d' y=BB (BB f d' y) d x:=by
 cases d with
 | none=>rfl
 | some t=>
  cases d' with
  | none=>rfl
  | some t'=>
   have a:t≠t':=λe=>h t rfl (by rw [e]);funext s;simp only [BB];by_cases c:s=t<;>by_cases b:s=t'<;>simp_all
theorem Dh{f:Env}{d:Option Tmp}{x:E}{t:Tmp}(h:d≠some t):BB f d x t=f t:=by
 cases d with
 | none=>rfl
 | some d=>
  have:t≠d:=λe=>h (by rw [e]);simp [BB,this]
section
variable (P:Program)(TB:Bi)(Γ:Ctx)(ops:Array Oper)
def Vw(n:Bool)(o:Oper)(K:Env->Ab->Nat->Prop)(f:Env)(σ:Ab)(nx:Nat):Prop:=
 (Bj ops o f=some false/\K (BB f o.dst (.t [])) σ nx)\/
 (Bj ops o f=some true/\bif n then BS P TB Γ o f σ nx (λx σ' nx'=>K (BB f o.dst x) σ' nx') else ∃x,AO P TB Γ o f σ nx x/\K (BB f o.dst x) σ nx)
def Kept(m:Nat)(σ σ':Ab):Prop:=∀id,Nat.testBit m id=true->look σ' id=look σ id
def kQ(c:Nat)(o:Oper)(K:Env->Ab->Nat->Prop)(f:Env)(σ:Ab)(nx:Nat):Prop:=
 (Bj ops o f=some false/\K (BB f o.dst (.t [])) σ nx)\/
 (Bj ops o f=some true/\bif Nat.ble 1000 c then BS P TB Γ o f σ nx (λx σ' nx'=>Kept (c - 1000) σ σ'/\K (BB f o.dst x) σ' nx')
  else ∃x,(∀σ' nx',look σ' (c - 10)=look σ (c - 10)->AO P TB Γ o f σ' nx' x)/\K (BB f o.dst x) σ nx)
def Lex : List (Nat×Nat)->(Env->Ab->Nat->Prop)->Env->Ab->Nat->Prop
 | [],K,f,σ,nx=>K f σ nx
 | (i, c)::r,K,f,σ,nx=>∃o,ops[i]? = some o/\
  bif Nat.ble 10 c then kQ P TB Γ ops c o (Lex r K) f σ nx else bif Nat.beq c 2 then
   (Bj ops o f=some false/\Lex r K (BB f o.dst (.t [])) σ nx)\/
   (Bj ops o f=some true/\∃x,(∀σ nx,AO P TB Γ o f σ nx x)/\Lex r K (BB f o.dst x) σ nx)
  else Vw P TB Γ ops (Nat.beq c 1) o (Lex r K) f σ nx
end
def RU(c:Nat):Bool:=Nat.beq c 0 || Nat.beq c 1
def Ed(c:Nat):Bool:=Nat.beq c 1 || Nat.ble 1000 c
def MK(c cj:Nat):Bool:=Nat.beq c 2 || (!Ed cj || (Nat.ble 10 c && (Nat.ble 1000 cj && Nat.testBit (cj - 1000) (c - 10))))
section
variable {P:Program}{TB:Bi}{Γ:Ctx}{ops:Array Oper}
theorem HF.congr{V:View}{o:Oper}{f f':Env}{a:Act}(h:∀t,.tmp t∈o.op.operands->f t=f' t)(b:HF V o f a):HF V o f' a:=
 λt e ht c=>b t e ht (by rw [h t ht];exact c)
theorem AO.congr{o:Oper}{f f':Env}{σ:Ab}{nx:Nat}{x:E}(h:∀t,.tmp t∈o.op.operands->f t=f' t)(b:AO P TB Γ o f σ nx x):AO P TB Γ o f' σ nx x:=
 λV a c=>b V a (c.congr λt ht=>(h t ht).symm)
theorem BS.congr{o:Oper}{f f':Env}{σ:Ab}{nx:Nat}{K:E->Ab->Nat->Prop}(h:∀t,.tmp t∈o.op.operands->f t=f' t)(b:BS P TB Γ o f σ nx K):BS P TB Γ o f' σ nx K:=
 λV a c=>b V a (c.congr λt ht=>(h t ht).symm)
theorem BS.mono{o:Oper}{f:Env}{σ:Ab}{nx:Nat}{K K':E->Ab->Nat->Prop}(b:BS P TB Γ o f σ nx K)(h:∀x σ nx,K x σ nx->K' x σ nx):BS P TB Γ o f σ nx K':=by
 intro V a e d c;refine Oper.wp_mono ?_ (b V a e d c);rintro a' w' ⟨V',v,x,σ',m,l,k,j,i,g⟩;exact⟨V',v,x,σ',m,l,k,j,i,h _ _ _ g⟩
theorem GN{o:Oper}{t:Tmp}(h:.tmp t∈o.op.operands):t∈o.looksAt ops:=
 m9 _ (pK.2 ⟨.tmp t,by simpa using h,rfl⟩)
theorem GI{o:Oper}{f:Env}{d:Option Tmp}{x:E}(h:∀t,d=some t->t∉o.looksAt ops):Bj ops o (BB f d x)=Bj ops o f:=by
 unfold Bj
 cases b:o.guard with
 | none=>rfl
 | some gw=>
  obtain⟨g,want⟩:=gw
  cases ht:(ops[g]?).bind (·.dst) with
  | none=>simp only [ht];rfl
  | some t=>
   have a:d≠some t:=λe=>h t e (by simp [Oper.looksAt,b,ht]);simp only [ht,oh,Dh a]
theorem Fu{o:Oper}{f:Env}{d:Option Tmp}{x:E}(h:∀t,d=some t->t∉o.looksAt ops):∀t,.tmp t∈o.op.operands->BB f d x t=f t:=
 λt ht=>Dh λe=>h t e (GN ht)
def waits(ops:Array Oper)(i:Nat):Nat->Nat->Bool
 | 0,_=>false
 | n+1,j=>((ops[j]?).map (·.after.any λe=>Region.binds .any e && (Nat.beq e.on i || waits ops i n e.on))).getD false
def Fb(ops:Array Oper)(listed:Array Bool):Prop:=
 ∀j,listed.getD j false=true->∀o,ops[j]? = some o->∀e∈o.after,Region.binds .any e=true->listed.getD e.on false=true
theorem J7{listed:Array Bool}(c:Fb ops listed){i:Nat}:∀(n j:Nat),waits ops i n j=true->listed.getD j false=true->listed.getD i false=true
 | 0,_,h,_=>by cases h
 | n + 1,j,h,e=>by
  unfold waits at h
  cases a:ops[j]? with
  | none=>rw [a] at h;cases h
  | some o=>
   rw [a] at h;simp only [nv,nW] at h;rw [pU] at h;obtain⟨k,hk,h⟩:=h;simp only [d6,nr] at h;have d:=c j e o a _ (qw hk) h.1
   rcases h.2 with b|b
   ·have:=i7 b;rw [<-this];exact d
   ·exact J7 c n _ b d
theorem Ly{listed:Array Bool}(f:Fb ops listed){i:Nat}(hi:listed.getD i false=false){n j:Nat}(h:waits ops i n j=true):j∉Region.ready .any ops listed:=by
 intro d;obtain⟨_,o,e,a⟩:=mem_ready.1 d
 cases n with
 | zero=>cases h
 | succ n=>
  unfold waits at h;rw [e] at h;simp only [nv,nW] at h;rw [pU] at h;obtain⟨k,hk,h⟩:=h;simp only [d6,nr] at h;have c:=a _ (qw hk) h.1
  rcases h.2 with b|b
  ·have:=i7 b;rw [this,hi] at c;cases c
  ·have:=J7 f n _ b c;rw [hi] at this;cases this
def QQ(ops:Array Oper)(i c:Nat)(r:List (Nat×Nat)):Bool:=
 (r.all λ(j,cj)=>waits ops i ops.size j || (!Ed c && (match ops[i]?,ops[j]? with|some x,some y=>x.apart ops y|_,_=>false) && MK c cj))
def DC(ops:Array Oper):List (Nat×Nat)->Bool
 | []=>true
 | (i,c)::r=>QQ ops i c r && DC ops r
def A5(ops:Array Oper):List (Nat×Nat)->Array Bool->Bool
 | [],listed=>(Region.ready .any ops listed).isEmpty
 | (i,_)::r,listed=>(Region.ready .any ops listed).contains i && A5 ops r (listed.setIfInBounds i true)
end
section
variable {P:Program}{TB:Bi}{Γ:Ctx}{ops:Array Oper}
theorem Oz(listed:Array Bool)(i:Nat):(listed.setIfInBounds i true).getD i true=true:=by
 by_cases h:i < listed.size
 ·simp [h]
 ·simp [h]
theorem NH{listed:Array Bool}{j:Nat}(h:j∈Region.ready .any ops listed):listed.getD j true=false:=(mem_ready.1 h).1
theorem Tx{listed:Array Bool}{j:Nat}(h:listed.getD j true=false):listed.getD j false=false:=by
 rcases nh j listed.size with a|a
 ·simpa [a] using h
 ·simp [Array.getElem?_eq_none a]
theorem GX{listed:Array Bool}{j:Nat}(h:Fb ops listed)(g:j∈Region.ready .any ops listed):Fb ops (listed.setIfInBounds j true):=by
 intro i hi o d e f hb;by_cases b:j=i
 ·subst b
  obtain⟨_,o',a,c⟩:=mem_ready.1 g;rw [d] at a
  injection a with a
  subst a;exact getD_set_true (c e f hb)
 ·rw [getD_set_ne false b] at hi
  exact getD_set_true (h i hi o d e f hb)
theorem JM:∀(r:List (Nat×Nat)) (listed:Array Bool),A5 ops r listed=true->∀j,j∈Region.ready .any ops listed->j∈r.map (·.1)
 | [],listed,h,j,b=>by
  simp only [A5,List.isEmpty_iff] at h;rw [h] at b;cases b
 | (i,c)::r,listed,h,j,b=>by
  simp only [A5,d6] at h;by_cases a:j=i
  ·subst a;simp
  ·have:=JM r _ h.2 j (ready_mono b a)
   simp only [nX,lc];exact .inr this
theorem Wt:∀(r:List (Nat×Nat)) (listed:Array Bool),A5 ops r listed=true->∀j,listed.getD j true=true->j∉r.map (·.1)
 | [],_,_,_,_=>by simp
 | (i,c)::r,listed,h,j,b=>by
  simp only [A5,d6] at h
  have hi:i∈Region.ready .any ops listed:=by simpa using h.1
  have a:i≠j:=λe=>by subst e;rw [NH hi] at b;cases b
  have:=Wt r _ h.2 j (by rw [getD_set_ne true a];exact b);simp only [nX,lc,not_or];exact⟨λe=>a e.symm,this⟩
theorem Nz:∀(f b:List (Nat×Nat)) (j c:Nat) (listed:Array Bool),A5 ops (f++(j,c)::b) listed=true->j∈Region.ready .any ops listed->
 A5 ops (f++b) (listed.setIfInBounds j true)=true
 | [],b,j,c,listed,h,_=>by
  simp only [oV,A5,d6] at h;exact h.2
 | (i,d)::f,b,j,c,listed,h,g=>by
  simp only [n9,A5,d6] at h |-
  have hi:i∈Region.ready .any ops listed:=by simpa using h.1
  have a:j≠i:=by
   intro e;subst e;have:=Wt _ _ h.2 j (Oz _ _);exact this (by simp)
  refine⟨by simpa using ready_mono hi (Ne.symm a),?_⟩;rw [Array.setIfInBounds_comm _ _ a];exact Nz f b j c _ h.2 (ready_mono g a)
theorem JK:∀(e a:List (Nat×Nat)) (x:Nat×Nat),DC ops (e++x::a)=true->DC ops (e++a)=true
 | [],a,(j,c),h=>by
  simp only [oV,DC,d6] at h;exact h.2
 | (i,d)::e,a,x,h=>by
  simp only [n9,DC,d6] at h |-;refine⟨?_,JK e a x h.2⟩;have f:=h.1;unfold QQ at f |-;rw [gt] at f |-;intro y b;refine f y ?_
  rcases f9.1 b with b|b
  ·exact m9 _ b
  ·exact nI _ (nq _ b)
def QC(P:Program)(TB:Bi)(Γ:Ctx)(c:Nat)(o:Oper)(x:E)(f:Env)(σ:Ab)(nx:Nat):Prop:=
 bif Nat.ble 10 c then ∀σ' nx',look σ' (c - 10)=look σ (c - 10)->AO P TB Γ o f σ' nx' x else bif Nat.beq c 2 then ∀σ nx,AO P TB Γ o f σ nx x else AO P TB Γ o f σ nx x
def Yl(P:Program)(TB:Bi)(Γ:Ctx)(ops:Array Oper)(c:Nat)(o:Oper)(x:E)(f:Env)(σ:Ab)(nx:Nat):Prop:=
 (Bj ops o f=some false/\x=.t [])\/(Bj ops o f=some true/\QC P TB Γ c o x f σ nx)
theorem QC.congr{c:Nat}{o:Oper}{x:E}{f f':Env}{σ:Ab}{nx:Nat}(h:∀t,.tmp t∈o.op.operands->f t=f' t)(q:QC P TB Γ c o x f σ nx):QC P TB Γ c o x f' σ nx:=by
 unfold QC at q |-;cases b:Nat.ble 10 c
 ·rw [b] at q
  cases a:Nat.beq c 2
  ·rw [a] at q;exact AO.congr h q
  ·rw [a] at q;exact λσ nx=>AO.congr h (q σ nx)
 ·rw [b] at q;exact λσ' nx' d=>AO.congr h (q σ' nx' d)
theorem QC.move{c:Nat}{o:Oper}{x:E}{f:Env}{σ σ':Ab}{nx nx':Nat}(q:QC P TB Γ c o x f σ nx)(g:(Nat.ble 10 c=false/\Nat.beq c 2=true)\/(σ'=σ/\nx'=nx)\/(Nat.ble 10 c=true/\look σ' (c - 10)=look σ (c - 10))):QC P TB Γ c o x f σ' nx':=by
 rcases g with ⟨e,d⟩|⟨rfl,rfl⟩|⟨e,d⟩
 ·unfold QC at q |-;rw [e,d] at q |-;exact q
 ·exact q
 ·unfold QC at q |-;rw [e] at q |-;exact λa b h=>q a b (h.trans d)
def Gx(P:Program)(TB:Bi)(Γ:Ctx)(ops:Array Oper)(c:Nat)(o:Oper)(K:Env->Ab->Nat->Prop)(f:Env)(σ:Ab)(nx:Nat):Prop:=
 bif Nat.ble 10 c then kQ P TB Γ ops c o K f σ nx else bif Nat.beq c 2 then
  (Bj ops o f=some false/\K (BB f o.dst (.t [])) σ nx)\/
  (Bj ops o f=some true/\∃x,(∀σ nx,AO P TB Γ o f σ nx x)/\K (BB f o.dst x) σ nx)
 else Vw P TB Γ ops (Nat.beq c 1) o K f σ nx
theorem DH{c:Nat}{o:Oper}{K:Env->Ab->Nat->Prop}{f:Env}{σ:Ab}{nx:Nat}(a:Ed c=false) :
 Gx P TB Γ ops c o K f σ nx↔∃x,Yl P TB Γ ops c o x f σ nx/\K (BB f o.dst x) σ nx:=by
 unfold Ed at a;rw [Bool.or_eq_false_iff] at a;unfold Gx Yl Vw kQ QC;rw [a.1,a.2];have key:∀ {q:E->Prop},((Bj ops o f=some false/\K (BB f o.dst (.t [])) σ nx)\/(Bj ops o f=some true/\∃x,q x/\K (BB f o.dst x) σ nx))↔
  ∃x,((Bj ops o f=some false/\x=.t [])\/(Bj ops o f=some true/\q x))/\K (BB f o.dst x) σ nx:=by
  intro q;constructor
  ·rintro(⟨h,k⟩|⟨h,x,q,k⟩)
   ·exact⟨_,.inl ⟨h,rfl⟩,k⟩
   ·exact⟨x,.inr ⟨h,q⟩,k⟩
  ·rintro⟨x,⟨h,rfl⟩|⟨h,q⟩,k⟩
   ·exact .inl ⟨h,k⟩
   ·exact .inr ⟨h,x,q,k⟩
 cases d:Nat.ble 10 c
 ·cases b:Nat.beq c 2
  ·exact key
  ·exact key
 ·exact key
theorem FD{c:Nat}{o:Oper}{K:Env->Ab->Nat->Prop}{f:Env}{σ:Ab}{nx:Nat}(b:Ed c=true) :
 Gx P TB Γ ops c o K f σ nx↔(Bj ops o f=some false/\K (BB f o.dst (.t [])) σ nx)\/(Bj ops o f=some true/\BS P TB Γ o f σ nx (λx σ' nx'=>(Nat.ble 1000 c=true->Kept (c - 1000) σ σ')/\K (BB f o.dst x) σ' nx')):=by
 unfold Ed at b;unfold Gx Vw kQ;cases g:Nat.ble 1000 c
 ·rw [g,Bool.or_false] at b
  have a:=i7 b;subst a;constructor
  ·rintro(h|⟨h,q⟩)
   ·exact .inl h
   ·exact .inr ⟨h,BS.mono q λx σ' nx' k=>⟨λe=>by simp at e,k⟩⟩
  ·rintro(h|⟨h,q⟩)
   ·exact .inl h
   ·exact .inr ⟨h,BS.mono q λx σ' nx' k=>k.2⟩
 ·have d:Nat.ble 10 c=true:=pm (by have:=co g;omega)
  rw [d];simp only [cond_true];constructor
  ·rintro(h|⟨h,q⟩)
   ·exact .inl h
   ·exact .inr ⟨h,BS.mono q λx σ' nx' k=>⟨λ_=>k.1,k.2⟩⟩
  ·rintro(h|⟨h,q⟩)
   ·exact .inl h
   ·exact .inr ⟨h,BS.mono q λx σ' nx' k=>⟨k.1 trivial,k.2⟩⟩
theorem Gx.mono{c:Nat}{o:Oper}{K K':Env->Ab->Nat->Prop}{f:Env}{σ:Ab}{nx:Nat}(hk:∀f σ nx,K f σ nx->K' f σ nx)(h:Gx P TB Γ ops c o K f σ nx):Gx P TB Γ ops c o K' f σ nx:=by
 cases d:Ed c
 ·rw [DH d] at h |-
  obtain⟨x,b,a⟩:=h;exact⟨x,b,hk _ _ _ a⟩
 ·rw [FD d] at h |-
  rcases h with ⟨b,a⟩|⟨b,a⟩
  ·exact .inl ⟨b,hk _ _ _ a⟩
  ·exact .inr ⟨b,BS.mono a λx σ' nx' k=>⟨k.1,hk _ _ _ k.2⟩⟩
theorem XY{ci cj:Nat}{oi oj:Oper}{x:E}{f:Env}{σ:Ab}{nx:Nat}{K:Env->Ab->Nat->Prop}
 (g:Ed ci=false) (i:oi.apart ops oj=true) (b:MK ci cj=true) (d:Yl P TB Γ ops ci oi x f σ nx)
 (h:Gx P TB Γ ops cj oj K (BB f oi.dst x) σ nx):Gx P TB Γ ops cj oj (Gx P TB Γ ops ci oi K) f σ nx:=by
 obtain⟨m,n,l⟩:=Oper.apart_spec i;have k:Bj ops oj (BB f oi.dst x)=Bj ops oj f:=GI m;have ag:∀t,.tmp t∈oj.op.operands->BB f oi.dst x t=f t:=Fu m
 have back:∀(y:E) (σ':Ab) (nx':Nat),((Nat.ble 10 ci=false/\Nat.beq ci 2=true)\/(σ'=σ/\nx'=nx)\/(Nat.ble 10 ci=true/\look σ' (ci - 10)=look σ (ci - 10)))->K (BB (BB f oi.dst x) oj.dst y) σ' nx'->Gx P TB Γ ops ci oi K (BB f oj.dst y) σ' nx':=by
  intro y σ' nx' e hk;rw [DH g];refine⟨x,?_,by rw [Kw n] at hk;exact hk⟩;unfold Yl at d |-;rw [GI l]
  rcases d with d|⟨d,q⟩
  ·exact .inl d
  ·exact .inr ⟨d,(q.move e).congr λt ht=>(Fu l t ht).symm⟩
 cases c:Ed cj
 ·rw [DH c] at h |-
  obtain⟨y,a,hk⟩:=h;refine⟨y,?_,back y σ nx (.inr (.inl ⟨rfl,rfl⟩)) hk⟩;unfold Yl at a |-;rw [k] at a
  rcases a with a|⟨a,q⟩
  ·exact .inl a
  ·exact .inr ⟨a,q.congr ag⟩
 ·rw [FD c] at h |-
  rw [k] at h
  have e:∀σ' nx',(Nat.ble 1000 cj=true->Kept (cj - 1000) σ σ')->(Nat.ble 10 ci=false/\Nat.beq ci 2=true)\/(σ'=σ/\nx'=nx)\/(Nat.ble 10 ci=true/\look σ' (ci - 10)=look σ (ci - 10)):=λσ' nx' hk=>by
   unfold MK at b;rw [c] at b;simp only [Bool.not_true,Bool.false_or,nr,d6] at b
   rcases b with b|⟨r,p,o⟩
   ·have:=i7 b
    subst this;exact .inl ⟨rfl,rfl⟩
   ·exact .inr (.inr ⟨r,hk p _ o⟩)
  rcases h with ⟨j,hk⟩|⟨j,hk⟩
  ·exact .inl ⟨j,back _ σ nx (.inr (.inl ⟨rfl,rfl⟩)) hk⟩
  ·exact .inr ⟨j,(BS.congr ag hk).mono λy σ' nx' hk=>⟨hk.1,back y σ' nx' (e σ' nx' hk.1) hk.2⟩⟩
theorem EL(K:Env->Ab->Nat->Prop):∀(r:List (Nat×Nat)) (listed:Array Bool) (f:Env) (σ:Ab) (nx:Nat),Fb ops listed->A5 ops r listed=true->DC ops r=true->
 Lex P TB Γ ops r K f σ nx->∀j,j∈Region.ready .any ops listed->∃k c g o,r=k++(j,c)::g/\ops[j]? = some o/\Gx P TB Γ ops c o (Lex P TB Γ ops (k++g) K) f σ nx
 | [],listed,_,_,_,_,q,_,_,j,t=>by have:=JM _ _ q j t;simp at this
 | (i, ci)::r,listed,f,σ,nx,F,q,hk,h,j,t=>by
  obtain⟨oi,m,h⟩:=h;by_cases n:j=i
  ·subst n
   exact⟨[],ci,r,oi,rfl,m,h⟩
  ·simp only [A5,d6] at q
   simp only [DC,d6] at hk
   have hi:i∈Region.ready .any ops listed:=by simpa using q.1
   have y:j∈r.map (·.1):=JM r _ q.2 j (ready_mono t n);obtain⟨⟨j',cj⟩,s,rfl⟩:=em.1 y;have p:=hk.1;unfold QQ at p;rw [gt] at p
   have l:∀c',(j',c')∈r->Ed ci=false/\(∃oj,ops[j']? = some oj/\oi.apart ops oj=true)/\MK ci c'=true:=by
    intro c' w;have d:=p _ w;simp only [nr,d6] at d
    rcases d with d|⟨⟨Q,v⟩,N⟩
    ·exact absurd t (Ly F (Tx (NH hi)) d)
    ·refine⟨by simpa using Q,?_,N⟩
     rw [m] at v
     cases b:ops[j']? with
     | none=>rw [b] at v;cases v
     | some oj=>rw [b] at v;exact⟨oj,rfl,v⟩
   have u:=(l cj s).1;have G:Gx P TB Γ ops ci oi (Lex P TB Γ ops r K) f σ nx:=h;rw [DH u] at G;obtain⟨x,H,I⟩:=G;obtain⟨k,c,g,oj,B,b,M⟩:=EL K r (listed.setIfInBounds i true) _ σ nx (GX F hi) q.2 hk.2 I j' (ready_mono t n);obtain⟨_,⟨oj',a,A⟩,z⟩:=l c (by rw [B];simp);rw [b] at a
   injection a with a
   subst a;refine⟨(i,ci)::k,c,g,oj,by rw [B];rfl,b,?_⟩;have L:=XY u A z H M;have e:Lex P TB Γ ops ((i,ci)::k++g) K=λf σ nx=>∃o,ops[i]? = some o/\Gx P TB Γ ops ci o (Lex P TB Γ ops (k++g) K) f σ nx:=rfl;rw [e]
   have J:∀f σ nx,Gx P TB Γ ops ci oi (Lex P TB Γ ops (k++g) K) f σ nx->∃o,ops[i]? = some o/\Gx P TB Γ ops ci o (Lex P TB Γ ops (k++g) K) f σ nx:=λf σ nx h=>⟨oi,m,h⟩
   exact Gx.mono J L
end
structure BY (TB:Bi) (Γ:Ctx) (N:Nat) (V:View) (f:Env) (σ:Ab) (nx:Nat) (a:Act):Prop where
 env:DS V f a.tmps
 lt:∀t e,f t=some e->t < N
 size:a.tmps.size=N
 inv:Inv TB Γ V σ
 nx:V.nx=nx
 defers:a.defers=[]
def Ga(N:Nat)(ops:Array Oper):Bool:=ops.all λo=>match o.dst with|some d=>Nat.blt d N|none=>true
section
variable {P:Program}{TB:Bi}{Γ:Ctx}{N:Nat}{ops:Array Oper}
theorem Ub(h:Ga N ops=true){i:Nat}{o:Oper}(a:ops[i]? = some o){d:Tmp}(b:o.dst=some d):d < N:=by
 unfold Ga at h;rw [Array.all_eq_true] at h;obtain⟨hi,rfl⟩:=ng.1 a;have:=h i hi;rw [b] at this;exact co this
theorem BY.put{V V':View}{f:Env}{σ σ':Ab}{nx nx':Nat}{a:Act}{d:Option Tmp}{x:E}{v:Value}(h:BY TB Γ N V f σ nx a)(g:∀t,d=some t->t < N)
 (e:Ext V V') (hi:Inv TB Γ V' σ') (c:V'.nx=nx') (i:A2 V' x v):BY TB Γ N V' (BB f d x) σ' nx' (a.put d v):=by
 cases d with
 | none=>exact⟨h.env.ext e,h.lt,h.size,hi,c,h.defers⟩
 | some d=>
  refine⟨?_,?_,by simp [Act.put,h.size],hi,c,h.defers⟩
  ·intro t y b
   simp only [BB] at b;by_cases ht:t=d
   ·subst ht
    simp only [if_true] at b
    injection b with b
    subst b
    have:t < a.tmps.size:=by rw [h.size];exact g t rfl
    simpa [Act.put,this] using i
   ·rw [if_neg ht] at b
    have:=(h.env t y b).ext e
    simpa [Act.put,oz (Ne.symm ht)] using this
  ·intro t y b
   simp only [BB] at b;by_cases ht:t=d
   ·subst ht;exact g t rfl
   ·rw [if_neg ht] at b;exact h.lt t y b
theorem La(V:View):A2 V (.t []) undef:=⟨#[],rfl,rfl,λj x v h=>by simp at h⟩
def Vv(TB:Bi)(Γ:Ctx)(N:Nat)(K:Env->Ab->Nat->Prop)(Q:Exit->Act->World->Prop):Prop:=
 ∀V f σ a,BY TB Γ N V f σ V.nx a->K f σ V.nx->Q .normal a V.w
theorem Mn{c:Nat}{i:Nat}{o:Oper}(A:ops[i]? = some o)(k:∀t,o.dst=some t->t < N){K:Env->Ab->Nat->Prop}{K':Act->World->Prop}{Q:Exit->Act->World->Prop}
 (l:∀V f σ a,BY TB Γ N V f σ V.nx a->K f σ V.nx->K' a V.w)
 {V:View} {f:Env} {σ:Ab} {nx:Nat} {a:Act} (b:BY TB Γ N V f σ nx a) (h:Gx P TB Γ ops c o K f σ nx):wpOp P ops Q i K' a V.w:=by
 have g:∀t e,f t=some e->t < a.tmps.size:=λt e B=>by rw [b.size];exact b.lt t e B
 unfold wpOp;simp only [A]
 have no:Bj ops o f=some false->K (BB f o.dst (.t [])) σ nx->(if Region.wanted o (yielded ops a.tmps) then o.wp P a V.w K' Q\/(o.asks P a V.w/\LetsOut Q) else K' (a.put o.dst undef) V.w):=by
  intro d hk;rw [GV b.env g d];have j:BY TB Γ N V (BB f o.dst (.t [])) σ V.nx (a.put o.dst undef):=b.put k (Ext.refl _) b.inv rfl (La V)
  simpa using l _ _ _ _ j (by rw [b.nx];exact hk)
 have yes:Bj ops o f=some true->(∃x,AO P TB Γ o f σ nx x/\K (BB f o.dst x) σ nx)->(if Region.wanted o (yielded ops a.tmps) then o.wp P a V.w K' Q\/(o.asks P a V.w/\LetsOut Q) else K' (a.put o.dst undef) V.w):=by
  rintro d ⟨x,z,hk⟩;rw [GV b.env g d];simp only [if_true];refine .inl (Vm P (Oper.wp_mono ?_ (z V a (b.env.op o) b.inv b.nx)));rintro a' w' ⟨V',v,rfl,rfl,r,p,n,m⟩;exact l V' _ σ _ (b.put k r p rfl m) (by rw [n];exact hk)
 cases s:Ed c
 ·rw [DH s] at h
  obtain⟨x,y,hk⟩:=h
  rcases y with ⟨d,rfl⟩|⟨d,q⟩
  ·exact no d hk
  ·refine yes d ⟨x,?_,hk⟩
   unfold QC at q;cases j:Nat.ble 10 c
   ·rw [j] at q
    cases u:Nat.beq c 2
    ·rw [u] at q;exact q
    ·rw [u] at q;exact q σ nx
   ·rw [j] at q;exact q σ nx rfl
 ·rw [FD s] at h
  rcases h with ⟨d,hk⟩|⟨d,hk⟩
  ·exact no d hk
  ·rw [GV b.env g d]
   simp only [if_true];refine .inl (Vm P (Oper.wp_mono ?_ (hk V a (b.env.op o) b.inv b.nx)));rintro a' w' ⟨V',v,x,σ',rfl,rfl,r,p,n,m⟩;exact l V' _ σ' _ (b.put k r p rfl n) m.2
theorem J9(g:Ga N ops=true){K:Env->Ab->Nat->Prop}{Q:Exit->Act->World->Prop}(j:Vv TB Γ N K Q):∀(r:List (Nat×Nat)) (V:View) (f:Env) (σ:Ab) (a:Act),
 BY TB Γ N V f σ V.nx a->Lex P TB Γ ops r K f σ V.nx->wpOps P ops Q (r.map (·.1)) a V.w
 | [],V,f,σ,a,d,h=>j V f σ a d h
 | (i,c)::r,V,f,σ,a,d,h=>by
  obtain⟨o,e,h⟩:=h;rw [nX,wpOps_cons];exact Mn e (λt ht=>Ub g e ht) (λV' f' σ' a' b hk=>J9 g j r V' f' σ' a' b hk) d h
theorem J8(v:Ga N ops=true){K:Env->Ab->Nat->Prop}{Q:Exit->Act->World->Prop}(y:Vv TB Γ N K Q):∀(n:Nat) (r:List (Nat×Nat)) (listed:Array Bool) (V:View) (f:Env) (σ:Ab) (a:Act),
 r.length=n->Fb ops listed->A5 ops r listed=true->DC ops r=true->BY TB Γ N V f σ V.nx a->Lex P TB Γ ops r K f σ V.nx->wpAny P .any ops Q n listed a V.w
 | 0,r,listed,V,f,σ,a,g,u,b,hk,p,h=>by
  have:r=[]:=m7.1 g;subst this;refine⟨?_,y V f σ a p h⟩
  simpa [A5] using b
 | n + 1,r,listed,V,f,σ,a,g,u,b,hk,p,h=>by
  refine⟨λe=>?_,λj s=>?_⟩
  ·cases r with
   | nil=>simp at g
   | cons x r=>
    obtain⟨i,c⟩:=x;simp only [A5,d6] at b;have:=b.1;rw [e] at this;simp at this
  ·obtain⟨l,c,k,o,rfl,d,z⟩:=EL K r listed f σ V.nx u b hk h j s
   refine Mn d (λt ht=>Ub v d ht) (λV' f' σ' a' m q=>?_) p z;exact J8 v y n (l++k) _ V' f' σ' a' (by simp at g |-;omega) (GX u s) (Nz l k j c listed b s) (JK l k _ hk) m q
def Au(P:Program)(TB:Bi)(Γ:Ctx)(N:Nat)(c:Code)(Q:Exit->Env->Ab->Nat->Prop)(f:Env)(σ:Ab)(nx:Nat):Prop:=
 ∀V a,BY TB Γ N V f σ nx a->c.wp P (λe a' w'=>∃V' f' σ',V'.w=w'/\Q e f' σ' V'.nx/\BY TB Γ N V' f' σ' V'.nx a') a V.w
variable {Q:Exit->Env->Ab->Nat->Prop}{f:Env}{σ:Ab}{nx:Nat}
theorem Au.skip(h:Q .normal f σ nx):Au P TB Γ N .skip Q f σ nx:=λV _ a=>wp_skip ⟨V,f,σ,rfl,by rw [a.nx];exact h,by rw [a.nx];exact a⟩
theorem Au.exit{id:Nat}(h:Q (.exit id) f σ nx):Au P TB Γ N (.exit id) Q f σ nx:=λV _ a=>wp_exit ⟨V,f,σ,rfl,by rw [a.nx];exact h,by rw [a.nx];exact a⟩
theorem Au.ret(h:Q .ret f σ nx):Au P TB Γ N .ret Q f σ nx:=λV _ a=>wp_ret ⟨V,f,σ,rfl,by rw [a.nx];exact h,by rw [a.nx];exact a⟩
def JZ(K:Env->Ab->Nat->Prop)(Q:Exit->Env->Ab->Nat->Prop):Exit->Env->Ab->Nat->Prop
 | .normal=>K
 | e=>Q e
theorem Au.seq{x y:Code}(h:Au P TB Γ N x (JZ (Au P TB Γ N y Q) Q) f σ nx):Au P TB Γ N (.seq x y) Q f σ nx:=by
 intro V a d;refine wp_seq (wp_mono (h V a d) ?_);rintro e a' w' ⟨V',f',σ',rfl,c,b⟩
 cases e with
 | normal=>exact c V' a' b
 | exit id=>exact⟨V',f',σ',rfl,c,b⟩
 | goto l=>exact⟨V',f',σ',rfl,c,b⟩
 | ret=>exact⟨V',f',σ',rfl,c,b⟩
 | panic ch=>exact⟨V',f',σ',rfl,c,b⟩
 | outgrown=>exact⟨V',f',σ',rfl,c,b⟩
def kX(id:Nat)(Q:Exit->Env->Ab->Nat->Prop):Exit->Env->Ab->Nat->Prop
 | .exit id'=>bif Nat.beq id' id then Q .normal else Q (.exit id')
 | e=>Q e
theorem Au.block{id:Nat}{c:Code}(h:Au P TB Γ N c (kX id Q) f σ nx):Au P TB Γ N (.block id c) Q f σ nx:=by
 intro V a g;refine wp_block (wp_mono (h V a g) ?_);rintro e a' w' ⟨V',f',σ',rfl,b,d⟩
 cases e with
 | exit id'=>
  simp only [Exit.inBlock];by_cases hid:id'=id
  ·subst hid
   simp only [kX,qi,cond_true] at b;rw [if_pos rfl];exact⟨V',f',σ',rfl,b,d⟩
  ·have:Nat.beq id' id=false:=by
    cases hb:Nat.beq id' id
    ·rfl
    ·exact absurd (i7 hb) hid
   simp only [kX,this,cond_false] at b;rw [if_neg hid];exact⟨V',f',σ',rfl,b,d⟩
 | normal=>exact⟨V',f',σ',rfl,b,d⟩
 | goto l=>exact⟨V',f',σ',rfl,b,d⟩
 | ret=>exact⟨V',f',σ',rfl,b,d⟩
 | panic ch=>exact⟨V',f',σ',rfl,b,d⟩
 | outgrown=>exact⟨V',f',σ',rfl,b,d⟩
def cE:Value->Option E
 | .slice none 0 0=>some (.o (.d (.l [])))
 | v=>bif NT v then some (.o (.d (.v v))) else none
def ev(f:Env):Operand->Option E
 | .tmp t=>f t
 | .const v=>cE v
 | .global _=>none
 | .func f=>some (.o (.fn f []))
theorem Zx{V:View}{v:Value}{e:E}(h:cE v=some e):A2 V e v:=by
 unfold cE at h;split at h
 ·injection h with h;subst h;exact .d .nil
 ·cases a:NT v
  ·rw [a] at h;cases h
  ·rw [a] at h;injection h with h;subst h;exact .d (.v a)
theorem gy{V:View}{o:Oper}{f:Env}{a:Act}(h:HF V o f a){x:Operand}(d:x∈o.op.operands){e:E}(b:ev f x=some e):A2 V e (a.eval x):=by
 cases x with
 | tmp t=>exact h t e d b
 | const v=>exact Zx b
 | global g=>cases b
 | func g=>
  injection b with b;subst b
  exact .fn rfl (λj c v i=>by simp at i)
theorem gx{V:View}{f:Env}{a:Act}(h:DS V f a.tmps){x:Operand}{e:E}(b:ev f x=some e):A2 V e (a.eval x):=by
 cases x with
 | tmp t=>exact h t e b
 | const v=>exact Zx b
 | global g=>cases b
 | func g=>
  injection b with b;subst b
  exact .fn rfl (λj c v d=>by simp at d)
theorem Au.cond{c:Operand}{x y:Code}{b:Bool}(i:ev f c=some (.o (.d (.v (.bool b)))))(ht:b=true->Au P TB Γ N x Q f σ nx)(g:b=false->Au P TB Γ N y Q f σ nx) :
 Au P TB Γ N (.cond c x y) Q f σ nx:=by
 intro V a e;have j:a.eval c=.bool b:=AA.val (gx e.env i);exact wp_cond_split j (λh=>ht h V a e) (λh=>g h V a e)
theorem Au.region{id:Nat}(r:List (Nat×Nat))(e:Ga N ops=true)(d:r.map (·.1)=List.range ops.size)(h:Lex P TB Γ ops r (λf σ nx=>Q .normal f σ nx) f σ nx) :
 Au P TB Γ N (.region id ops false) Q f σ nx:=by
 intro V a b;refine wp_region ?_;rw [<-d];have c:=b.nx;subst c;exact J9 e (λV f σ a b hk=>⟨V,f,σ,rfl,hk,b⟩) r V f σ a b h
theorem Le(ops:Array Oper):Fb ops (Array.replicate ops.size false):=by
 intro j a
 have:(Array.replicate ops.size false).getD j false=false:=by
  rcases nh j ops.size with h|h
  ·simp [h]
  ·simp [h]
 rw [this] at a;cases a
theorem Inv.drew{V:View}(h:Inv TB Γ V σ):Inv TB Γ { V with w:={ V.w with drawn:=V.w.drawn+1 } } σ/\Ext V { V with w:={ V.w with drawn:=V.w.drawn+1 } } := by
 have e:Ext V { V with w:={ V.w with drawn:=V.w.drawn+1 } } := ⟨λ_ h=>h,λ_ _=>rfl,io _,λ_ _=>rfl,λ_ _=>rfl,λ_ _=>Iff.rfl,io _⟩
 refine⟨⟨h.os,h.tape,h.output,h.old,h.iLt,h.iNew,h.ext.trans e,⟨λid o d=>?_,h.st.lt,h.st.free,h.st.inj⟩,h.live,h.tabs,h.hid.step (λ_ h=>h) (λ_ _=>rfl) (io _) (λ_ _ _ _=>rfl) (λ_ h=>.inl h) (λb hb=>.inl (HO e h.st.lt hb))⟩,e⟩;have a:=h.st.obj id o d
 cases o with
 | cells T k rows=>
  rcases a with a|⟨u,cur,t,s,q,p,n,m⟩
  ·exact .inl a
  ·exact .inr ⟨u,cur,t,s,q,p,n,λi r j c hi f=>let ⟨v,l,g⟩:=m i r j c hi f;⟨v,l,g.ext e⟩⟩
 | mp=>exact a
 | sld=>exact a
theorem Au.fc{id:Nat}(r:List (Nat×Nat))(i:P.follows .mixedOrders=true)(j:Ga N ops=true)(g:r.length=ops.size)(d:(A5 ops r (Array.replicate ops.size false) && DC ops r)=true)
 (h:Lex P TB Γ ops r (λf σ nx=>Q .normal f σ nx) f σ nx):Au P TB Γ N (.region id ops true) Q f σ nx:=by
 intro V a b;rw [d6] at d;refine wp_region_any i ?_;obtain⟨l,k⟩:=b.inv.drew
 have c:BY TB Γ N { V with w:={ V.w with drawn:=V.w.drawn+1 } } f σ V.nx a:=⟨b.env.ext k,b.lt,b.size,l,rfl,b.defers⟩
 have e:=b.nx;subst e;exact J8 j (λV f σ a b hk=>⟨V,f,σ,rfl,hk,b⟩) ops.size r _ { V with w:={ V.w with drawn:=V.w.drawn+1 } } f σ a g (Le ops) d.1 d.2 c h
theorem Au.loop{U:Type}{c:Code}(S:U->Env×Ab×Nat)(μ:U->Nat)(back:U->Env->Ab->Nat->Prop)
 (g:∀y f σ nx V a,back y f σ nx->BY TB Γ N V f σ nx a->∃V',V'.w=V.w/\BY TB Γ N V' (S y).1 (S y).2.1 (S y).2.2 a)
 (x:U) (u:back x f σ nx) (round:∀x,Au P TB Γ N c (JZ (λf σ nx=>∃y,μ y < μ x/\back y f σ nx) Q) (S x).1 (S x).2.1 (S x).2.2) :
 Au P TB Γ N (.loop c) Q f σ nx:=by
 intro V a o b k cs;have key:∀n y,μ y=n->∀V a,BY TB Γ N V (S y).1 (S y).2.1 (S y).2.2 a->
  ∃e a' w',(∃V' f' σ',V'.w=w'/\Q e f' σ' V'.nx/\BY TB Γ N V' f' σ' V'.nx a')/\Arrives P (lone (b.at a (.code c::.inLoop c::k)) cs V.w) b k cs e a' w':=by
  intro n
  induction n using Nat.strongRecOn with
  | _ n r=>
   intro y t V a o;obtain⟨e,a₁,w₁,p,d⟩:=round y V a o b (.inLoop c::k) cs;obtain⟨V',f',σ',rfl,i,h⟩:=p
   cases e with
   | normal=>
    obtain⟨z,s,hb⟩:=i;obtain⟨V'',q,j⟩:=g z f' σ' V'.nx V' a₁ hb h;obtain⟨e₂,a₂,w₂,hq₂,harr₂⟩:=r (μ z) (t ▸ s) z rfl V'' a₁ j;rw [q] at harr₂;exact⟨e₂,a₂,w₂,hq₂,.of_steps (Steps.trans d (.one step_inLoop)) harr₂⟩
   | exit id=>exact⟨_,a₁,_,⟨V',f',σ',rfl,i,h⟩,.pass (x:=.inLoop c) rfl (λ_ _=>.inl (by simp)) d⟩
   | goto l=>exact⟨_,a₁,_,⟨V',f',σ',rfl,i,h⟩,.pass (x:=.inLoop c) rfl (λ_ _=>.inl (by simp)) d⟩
   | ret=>exact⟨_,a₁,_,⟨V',f',σ',rfl,i,h⟩,.pass (x:=.inLoop c) rfl (λ_ _=>.inl (by simp)) d⟩
   | panic ch=>exact⟨_,a₁,_,⟨V',f',σ',rfl,i,h⟩,.pass (x:=.inLoop c) rfl (λ_ _=>.inl (by simp)) d⟩
   | outgrown=>exact⟨_,a₁,_,⟨V',f',σ',rfl,i,h⟩,.pass (x:=.inLoop c) rfl (λ_ _=>.inl (by simp)) d⟩
 obtain⟨V',q,m⟩:=g x f σ nx V a u o;obtain⟨e,a',w',p,d⟩:=key _ x rfl V' a m;rw [q] at d;exact⟨e,a',w',p,.of_steps (.one step_loop) d⟩
end
end Go.Am
namespace Go.Proofs.YtgpbfllcjdfelaaGreatDoor
open Go
theorem Ox:mapsRowed Tryz.prog=true:=by kernel_rfl
theorem Xu:(Tryz.prog.stops == [])=true:=by kernel_rfl
theorem Xs:(Tryz.prog.stopKnobs == [])=true:=by kernel_rfl
theorem Xr:Tryz.prog.stopsHeard=true:=by kernel_rfl
theorem Oy:(false == Tryz.prog.plainKeys)=true:=by kernel_rfl
end Go.Proofs.YtgpbfllcjdfelaaGreatDoor
