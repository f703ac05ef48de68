/-
  A machine of pure data over the kit's machine: values without addresses, their reading in a world, the walk of code over them, any order of a region that draws.
-/
import Derived.Still
import Derived.Laws.AppendOwn
import Derived.IntWalk
import Derived.Laws.Cells
import Derived.Laws.Entries
import Derived.Laws.CopyRow
import Derived.Laws.IdiomStrings
import Derived.ChangeKeysEq
import Derived.Test.YtdipaikojjjebaaGreatDoorRows
import Derived.JoinedCond
import Derived.KernelRfl
set_option linter.all false
namespace Go.Am
abbrev am:=@List.getElem?_eq_some_iff
abbrev ce:=@List.mem_of_getElem?
abbrev co:=@Nat.le_of_ble_eq_true
abbrev d4:=@Bool.and_eq_true
abbrev d5:=@List.getElem?_eq_getElem
abbrev d6:=@Function.comp_def
abbrev d7:=@Option.map_eq_some_iff
abbrev d8:=@List.mem_map
abbrev d9:=@List.take_add_one
abbrev f6:=@Int.toNat_natCast
abbrev f7:=@List.mem_append
abbrev f9:=@List.getElem?_map
abbrev gc:=@List.getElem?_append_left
abbrev ge:=@List.all_eq_true
abbrev gt:=@Nat.eq_of_beq_eq_true
abbrev i7:=@List.getElem?_append_right
abbrev i8:=@List.take_of_length_le
abbrev i9:=@List.take_length
abbrev io:=@List.length_map
abbrev jp:=@Nat.le_refl
abbrev kw:=@List.getD_eq_getElem?_getD
abbrev l3:=@Nat.le_trans
abbrev lc:=@List.mem_cons
abbrev lm:=@Nat.zero_add
abbrev lw:=@Result.andThen_ok
abbrev ms:=@List.getElem?_eq_none
abbrev mt:=@List.mem_range
abbrev ol:=@Nat.lt_of_lt_of_le
abbrev pi:=@List.length_eq_zero_iff
abbrev pm:=@Array.getElem?_eq_getElem
abbrev pp:=@Sem.run_bind
abbrev pu:=@Option.bind_eq_some_iff
abbrev ro:=@List.pairwise_iff_getElem
abbrev rt:=@Array.getElem?_eq_some_iff
abbrev rx:=@List.mem_append_left
abbrev t6:=@Bool.or_eq_true
abbrev t7:=@List.mem_of_mem_take
abbrev t8:=@List.mem_filter
abbrev t9:=@Array.getElem?_append_left
abbrev u6:=@List.nodup_append
abbrev u7:=@List.getElem?_toArray
abbrev uA:=@List.map_congr_left
abbrev uB:=@Int.mul_le_mul_of_nonneg_left
abbrev uC:=@Nat.mul_le_mul_right
abbrev uD:=@List.length_append
abbrev uE:=@List.take_append_drop
abbrev uF:=@Int.mul_le_mul
abbrev uG:=@List.map_map
abbrev uH:=@List.idxOf_lt_length_iff
abbrev uI:=@List.pairwise_cons
abbrev uJ:=@Option.map_some
abbrev uK:=@Int.mul_nonneg
abbrev uL:=@Nat.zero_le
abbrev uM:=@List.getElem?_set_self
abbrev uN:=@List.getElem?_set_ne
abbrev uO:=@Nat.pow_le_pow_right
abbrev uP:=@Nat.eq_zero_or_pos
abbrev uQ:=@Int.emod_lt_of_pos
abbrev uR:=@List.drop_zero
abbrev uS:=@List.map_cons
abbrev uT:=@Array.getElem?_toList
abbrev uU:=@List.pairwise_map
abbrev uV:=@List.ext_getElem?
abbrev uW:=@Bool.not_true
abbrev uX:=@Bool.not_false
abbrev uY:=@Int.emod_nonneg
abbrev uZ:=@Bool.false_ne_true
abbrev ui:=@List.mem_cons_of_mem
abbrev uj:=@Bool.true_and
abbrev uk:=@List.getElem?_take
abbrev ul:=@List.getElem?_drop
abbrev um:=@List.getElem_of_mem
abbrev uo:=@Nat.lt_or_ge
abbrev ur:=@List.mem_append_right
abbrev us:=@Nat.mod_eq_of_lt
abbrev ut:=@List.length_cons
abbrev uu:=@Nat.add_assoc
abbrev uv:=@List.append_nil
abbrev uw:=@List.length_set
abbrev ux:=@Nat.add_mul
abbrev uy:=@List.getElem_mem
abbrev uz:=@List.map_append
abbrev v6:=@List.getElem?_of_mem
abbrev v7:=@Nat.pow_lt_pow_right
abbrev v8:=@List.getElem?_eq_none_iff
abbrev v9:=@Int.add_mul
abbrev vA:=@Nat.testBit_two_pow
abbrev vB:=@Nat.zero_mul
abbrev vC:=@List.drop_length
abbrev vD:=@List.length_filter_le
abbrev vE:=@Array.getElem?_setIfInBounds_ne
abbrev vF:=@List.eq_of_mem_replicate
abbrev vG:=@Array.eq_empty_of_size_eq_zero
abbrev vH:=@List.range_succ
abbrev vI:=@List.pairwise_append
abbrev vJ:=@Nat.lt_succ_of_lt
abbrev vK:=@Bool.not_eq_true'
abbrev vL:=@List.map_inj_left
abbrev vM:=@Nat.or_lt_two_pow
abbrev vN:=@Int.mul_assoc
abbrev vO:=@List.replicate_succ
abbrev vP:=@Int.ediv_le_self
abbrev vQ:=@List.prefix_refl
abbrev vR:=@List.any_eq_true
abbrev vS:=@Nat.testBit_succ
abbrev vT:=@List.mem_cons_self
abbrev vU:=@List.find?_eq_none
abbrev vV:=@List.getElem_idxOf
abbrev vW:=@Int.ediv_nonneg
abbrev vX:=@List.set_append_right
abbrev vY:=@List.append_assoc
abbrev vZ:=@List.drop_eq_getElem_cons
abbrev vb:=@Array.getElem?_setIfInBounds
abbrev vd:=@List.map_set
abbrev ve:=@List.mem_iff_getElem?
abbrev vf:=@List.foldl_cons
abbrev vg:=@Array.getElem?_append_right
abbrev vh:=@List.filter_append
abbrev vi:=@List.filter_cons_of_pos
abbrev vj:=@Option.getD_some
abbrev vk:=@List.cons_append
abbrev vl:=@List.mem_flatMap
abbrev vm:=@List.drop_of_length_le
abbrev vn:=@Int.mul_le_mul_of_nonneg_right
abbrev vo:=@List.length_take
abbrev vp:=@List.mem_of_mem_drop
abbrev vq:=@Nat.testBit_or
abbrev vr:=@Nat.eq_of_testBit_eq
abbrev vt:=@Nat.le_mul_of_pos_right
abbrev vu:=@List.idxOf_append
abbrev vw:=@Bool.eq_iff_iff
abbrev vz:=@List.nodup_cons
abbrev w6:=@Nat.lt_trichotomy
abbrev w7:=@Array.getElem?_extract
abbrev w8:=@Int.le_refl
abbrev wA:=@List.flatMap_cons
abbrev wB:=@List.foldl_append
abbrev wC:=@List.getElem?_inj
abbrev wD:=@List.filter_congr
abbrev wE:=@Nat.ble_eq_true_of_le
abbrev wF:=@Nat.add_zero
abbrev wG:=@List.dropLast_concat_getLast
abbrev wH:=@Bool.or_true
abbrev wI:=@List.filter_cons
abbrev wJ:=@List.idxOf_cons_self
abbrev wK:=@List.not_mem_nil
abbrev wL:=@List.take_succ_cons
abbrev wM:=@Int.toNat_of_nonneg
abbrev wN:=@List.nil_append
abbrev wO:=@Array.mapM_eq_mapM_toList
abbrev wP:=@List.length_nil
abbrev wQ:=@Nat.two_pow_pos
abbrev wR:=@Nat.beq_refl
abbrev wS:=@Nat.add_comm
abbrev wT:=@Nat.mul_comm
abbrev wU:=@List.Pairwise.imp_of_mem
abbrev wV:=@List.mem_singleton
abbrev wW:=@Nat.pow_succ
abbrev wX:=@List.getElem?_replicate
abbrev wY:=@List.getElem?_cons_succ
abbrev wZ:=@Array.any_eq_true
abbrev wa:=@List.mapM_cons
abbrev we:=@Bool.false_and
abbrev wg:=@Option.bind_some
abbrev wh:=@Nat.lt_succ_self
abbrev wj:=@Int.mul_comm
abbrev wk:=@Array.toList_map
abbrev wl:=@Nat.lt_succ_iff_lt_or_eq
abbrev wm:=@List.getElem?_range
abbrev wo:=@Int.ediv_ediv_of_nonneg
abbrev wq:=@List.filter_cons_of_neg
abbrev wu:=@Bool.false_or
abbrev wv:=@Nat.lt_or_gt_of_ne
abbrev ww:=@Bool.false_eq_true
abbrev wx:=@List.prefix_append
abbrev wy:=@Nat.testBit_and
abbrev wz:=@Sem.run_map
abbrev xA:=@List.length_range
abbrev xB:=@List.all_eq_false
abbrev xC:=@List.find?_append
abbrev xD:=@Bool.eq_false_iff
abbrev xF:=@Nat.le_of_lt
abbrev xG:=@List.map_toArray
abbrev xH:=@List.map_nil
abbrev xI:=@Nat.sub_zero
abbrev xJ:=@List.length_drop
abbrev xK:=@Nat.zero_testBit
abbrev xL:=@Nat.zero_lt_one
abbrev xM:=@List.find?_cons
abbrev xN:=@List.idxOf_cons
abbrev xO:=@List.any_append
abbrev xP:=@Nat.le_succ
abbrev xQ:=@Nat.mul_one
abbrev xb:=@List.filter_eq_nil_iff
abbrev xd:=@Bool.and_self
abbrev xe:=@Nat.testBit_eq_decide_div_mod_eq
abbrev xf:=@List.length_replicate
abbrev xg:=@List.getElem?_zipWith
abbrev xh:=@Classical.choose_spec
abbrev xi:=@List.length_singleton
abbrev xj:=@List.eraseIdx_eq_take_drop_succ
abbrev xk:=@List.mk_mem_zipIdx_iff_getElem?
abbrev xl:=@Nat.and_le_left
abbrev xm:=@List.length_flatten
abbrev xn:=@Option.bind_eq_bind
abbrev xo:=@List.length_pos_iff
abbrev xp:=@Int.one_mul
abbrev xq:=@List.set_cons_zero
abbrev xr:=@List.filter_filter
abbrev xt:=@List.map_take
abbrev xu:=@Array.getElem_mem
abbrev xw:=@List.getElem?_set
abbrev xy:=@List.size_toArray
abbrev xz:=@List.flatten_cons
open Go
inductive D where
 | v (x:Value)
 | l (rows:List (List D))
 | p (cells:List D)
inductive C where
 | d (x:D)
 | arr (id k off len:Nat)
 | ptr (id k i j:Nat)
 | fn (f:FuncId) (cap:List C)
 | mp (id:Nat)
 | mv (f:FuncId) (recv:List C)
abbrev C.ip(cells:List D):C:=.d (.p cells)
inductive E where
 | o (c:C)
 | a (cs:List C)
 | t (xs:List (Bool×List C))
 | e
def RC:Value->Bool
 | .bool _|.int ..|.float ..|.complex ..|.string _|.pointer _|.map none|.chan none|.nilFunc|.nilIface|.slice .. => true
 | .func (.func _) ⟨[]⟩ ⟨[]⟩=>true
 | _=>false
structure View where
 I:Nat->Prop
 ρ:Nat->Nat
 cap:Nat->Nat
 nl:Nat->Prop
 nx:Nat
 w:World
inductive Dn (I:Nat->Prop) (w:World):D->Value->Prop
 | v {x:Value}:RC x=true->Dn I w (.v x) x
 | nil:Dn I w (.l []) (.slice none 0 0)
 | e {a:Addr} {cap:Nat}:cap<=maxLen->Dn I w (.l []) (.slice (some a) 0 cap)
 | l {rows:List (List D)} {b o k cap:Nat} {vs:Nat->Nat->Value}:I b->rows.length<=cap->cap<=maxLen->
  (∀(i:Nat) (r:List D),rows[i]?=some r->r.length=k)->
  (∀(i:Nat) (r:List D) (j:Nat) (d:D),rows[i]?=some r->r[j]?=some d->w.cell? ⟨b,o+i*k+j,none⟩=some (vs i j))->
  (∀(i:Nat) (r:List D) (j:Nat) (d:D),rows[i]?=some r->r[j]?=some d->Dn I w d (vs i j))->
  Dn I w (.l rows) (.slice (some ⟨b,o,none⟩) rows.length cap)
 | p {cells:List D} {b o:Nat} {vs:Nat->Value}:I b->(∀(j:Nat) (d:D),cells[j]?=some d->w.cell? ⟨b,o+j,none⟩=some (vs j))->(∀(j:Nat) (d:D),cells[j]?=some d->Dn I w d (vs j))->
  Dn I w (.p cells) (.pointer (some ⟨b,o,none⟩))
theorem Qf{w w':World}{b:Nat}(h:w'.heap[b]?=w.heap[b]?)(o:Nat):w'.cell? ⟨b,o,none⟩=w.cell? ⟨b,o,none⟩:=by
 simp[World.cell?,h]
theorem Dn.mono{I I':Nat->Prop}{w w':World}{d:D}{v:Value}(hI:∀b,I b->I' b)(g:∀b,I b->w'.heap[b]?=w.heap[b]?)(h:Dn I w d v):Dn I' w' d v:=by
 induction h with
 | v h=>exact .v h
 | nil=>exact .nil
 | e h=>exact .e h
 | @l rows b o k cap vs hb f q n m _ c=>
  exact .l (hI b hb) f q n (λi r j d hi a=>by rw[Qf (g b hb)];exact m i r j d hi a) (λi r j d hi a=>c i r j d hi a)
 | @p cells b o vs hb f _ c=>exact .p (hI b hb) (λj d a=>by rw[Qf (g b hb)];exact f j d a) (λj d a=>c j d a)
inductive AD (V:View):C->Value->Prop
 | d {x:D} {v:Value}:Dn V.I V.w x v->AD V (.d x) v
 | nil {id k:Nat}:id<V.nx->V.nl id->AD V (.arr id k 0 0) (.slice none 0 0)
 | arr {id k off len:Nat}:id<V.nx->¬V.nl id->off+len<=V.cap id->AD V (.arr id k off len) (.slice (some ⟨V.ρ id,off*k,none⟩) len (V.cap id-off))
 | ptr {id k i j:Nat}:id<V.nx->¬V.nl id->AD V (.ptr id k i j) (.pointer (some ⟨V.ρ id,i*k+j,none⟩))
 | fn {f:FuncId} {cap:List C} {vs:Array Value}:vs.size=cap.length->(∀(j:Nat) (c:C) (v:Value),cap[j]?=some c->vs[j]?=some v->AD V c v)->AD V (.fn f cap) (.func (.func f) #[] vs)
 | mp {id:Nat}:id<V.nx->AD V (.mp id) (.map (some (V.ρ id)))
 | mv {f:FuncId} {recv:List C} {vs:Array Value}:vs.size=recv.length->(∀(j:Nat) (c:C) (v:Value),recv[j]?=some c->vs[j]?=some v->AD V c v)->AD V (.mv f recv) (.func (.func f) vs #[])
theorem AD.ip{V:View}{cells:List D}{b o:Nat}{vs:Nat->Value}(hb:V.I b)(c:∀(j:Nat) (d:D),cells[j]?=some d->V.w.cell? ⟨b,o+j,none⟩=some (vs j))(a:∀(j:Nat) (d:D),cells[j]?=some d->Dn V.I V.w d (vs j)) :
 AD V (.ip cells) (.pointer (some ⟨b,o,none⟩)):=.d (.p hb c a)
theorem Dn.val{I:Nat->Prop}{w:World}{x v:Value}(h:Dn I w (.v x) v):v=x:=by cases h;rfl
theorem AD.val{V:View}{x v:Value}(h:AD V (.d (.v x)) v):v=x:=by cases h with|d h=>exact h.val
structure Ext (V V':View):Prop where
 i:∀b,V.I b->V'.I b
 heap:∀b,V.I b->V'.w.heap[b]?=V.w.heap[b]?
 size:V.w.heap.size<=V'.w.heap.size
 ρ:∀id,id<V.nx->V'.ρ id=V.ρ id
 cap:∀id,id<V.nx->V'.cap id=V.cap id
 nl:∀id,id<V.nx->(V'.nl id↔V.nl id)
 nx:V.nx<=V'.nx
theorem Ext.refl(V:View):Ext V V:=⟨λ_ h=>h,λ_ _=>rfl,jp _,λ_ _=>rfl,λ_ _=>rfl,λ_ _=>Iff.rfl,jp _⟩
theorem Ext.trans{A B C:View}(h:Ext A B)(k:Ext B C):Ext A C:=
 ⟨λb hb=>k.i b (h.i b hb),λb hb=>(k.heap b (h.i b hb)).trans (h.heap b hb),l3 h.size k.size,
  λi hi=>(k.ρ i (ol hi h.nx)).trans (h.ρ i hi),λi hi=>(k.cap i (ol hi h.nx)).trans (h.cap i hi),λi hi=>(k.nl i (ol hi h.nx)).trans (h.nl i hi),l3 h.nx k.nx⟩
theorem Dn.ext{V V':View}{d:D}{v:Value}(e:Ext V V')(h:Dn V.I V.w d v):Dn V'.I V'.w d v:=h.mono e.i e.heap
theorem AD.ext{V V':View}{c:C}{v:Value}(e:Ext V V')(h:AD V c v):AD V' c v:=by
 induction h with
 | d h=>exact .d (h.ext e)
 | @nil id k a f=>exact .nil (ol a e.nx) ((e.nl id a).2 f)
 | @arr id k off len a g f=>rw[<-e.ρ id a,<-e.cap id a];exact .arr (ol a e.nx) (λh=>g ((e.nl id a).1 h)) (by rw[e.cap id a];exact f)
 | @ptr id k i j a g=>rw[<-e.ρ id a];exact .ptr (ol a e.nx) (λh=>g ((e.nl id a).1 h))
 | fn a _ b=>exact .fn a b
 | @mp id a=>rw[<-e.ρ id a];exact .mp (ol a e.nx)
 | mv a _ b=>exact .mv a b
def Df(V:View)(cs:List C)(vs:Array Value):Prop:=vs.size=cs.length/\∀(j:Nat) c v,cs[j]?=some c->vs[j]?=some v->AD V c v
theorem Df.ext{V V':View}{cs:List C}{vs:Array Value}(e:Ext V V')(h:Df V cs vs):Df V' cs vs:=⟨h.1,λj c v a b=>(h.2 j c v a b).ext e⟩
def NF(V:View):Bool×List C->Value->Prop
 | (true,cs),v=>∃vs,v=.agg vs/\Df V cs vs
 | (false,cs),v=>∃c,cs=[c]/\AD V c v
theorem NF.ext{V V':View}{x:Bool×List C}{v:Value}(e:Ext V V')(h:NF V x v):NF V' x v:=by
 obtain⟨b,cs⟩:=x;cases b
 .obtain⟨c,d,a⟩:=h;exact⟨c,d,a.ext e⟩
 .obtain⟨vs,d,a⟩:=h;exact⟨vs,d,a.ext e⟩
def Bh(V:View):E->Value->Prop
 | .o c,v=>AD V c v
 | .a cs,v=>∃vs,v=.agg vs/\Df V cs vs
 | .t xs,v=>∃vs:Array Value,v=.tuple vs/\vs.size=xs.length/\∀(j:Nat) x v,xs[j]?=some x->vs[j]?=some v->NF V x v
 | .e,v=>∃b,v=.slice b 0 0
theorem Bh.ext{V V':View}{x:E}{v:Value}(e:Ext V V')(h:Bh V x v):Bh V' x v:=by
 cases x with
 | o c=>exact AD.ext e h
 | a cs=>obtain⟨vs,f,d⟩:=h;exact⟨vs,f,d.ext e⟩
 | t xs=>obtain⟨vs,f,d,g⟩:=h;exact⟨vs,f,d,λj x v a b=>(g j x v a b).ext e⟩
 | e=>exact h
inductive O where
 | cells (T k:Nat) (rows:List (List C))
 | mp (es:List (Value×Value))
 | sld (T:Nat) (l:List (Value×List Value))
abbrev Ac:=List (Nat×O)
def look{α:Type}:List (Nat×α)->Nat->Option α
 | [],_=>none
 | (k,x)::r,i=>bif Nat.beq k i then some x else look r i
theorem Ay{α:Type}(k:Nat)(x:α)(r:List (Nat×α))(i:Nat):look ((k,x)::r) i=if k=i then some x else look r i:=by
 simp only[look];by_cases h:k=i
 .subst h;simp
 .have:Nat.beq k i=false:=by
   cases hb:Nat.beq k i
   .rfl
   .exact absurd (gt hb) h
  simp[this,h]
def Lq(v:Value)(b:Nat):Prop:=∃o n c,v=.slice (some ⟨b,o,none⟩) n c
def Fb(V:View)(id:Nat):O->Nat->Prop
 | .cells ..,b=>b=V.ρ id
 | .mp _,b=>b=V.ρ id
 | .sld _ l,b=>∃x∈l,Lq x.1 b
def Mf(w:World)(T:Nat)(v:Value)(row:List Value):Prop:=(v=.slice none 0 0/\row=[])\/
 ∃b cap cur,v=.slice (some ⟨b,0,none⟩) row.length cap/\w.heap[b]?=some (.cells cur T (0,0))/\cur.size=cap/\row.length<=cap/\cap<=maxLen/\∀(j:Nat) (x:Value),row[j]?=some x->cur[j]?=some x/\RC x=true
def kx(w:World)(T:Nat)(l:List (Value×List Value)):Prop:=l.Pairwise (λx y=>∀b,Lq x.1 b->¬Lq y.1 b)/\∀x∈l,Mf w T x.1 x.2
theorem Mf.AM{w w':World}{T:Nat}{v:Value}{row:List Value}(a:∀b,Lq v b->w'.heap[b]?=w.heap[b]?)(h:Mf w T v row):Mf w' T v row:=by
 rcases h with h|⟨b,cap,cur,rfl,d,c⟩
 .exact .inl h
 .exact .inr ⟨b,cap,cur,rfl,by rw[a b ⟨_,_,_,rfl⟩];exact d,c⟩
theorem Mf.blt{w:World}{T:Nat}{v:Value}{row:List Value}(h:Mf w T v row){b:Nat}(hb:Lq v b):b<w.heap.size:=by
 obtain⟨o,n,c,hb⟩:=hb
 rcases h with ⟨h,_⟩|⟨b',cap,cur,rfl,a,_⟩
 .rw[h]at hb;cases hb
 .injection hb with hb;injection hb with hb;injection hb with hb;subst hb;exact(rt.1 a).1
theorem kx.AM{w w':World}{T:Nat}{l:List (Value×List Value)}(c:∀x∈l,∀b,Lq x.1 b->w'.heap[b]?=w.heap[b]?)(h:kx w T l):kx w' T l:=
 ⟨h.1,λx a=>(h.2 x a).AM (c x a)⟩
def CL(V:View)(id:Nat):O->Prop
 | .cells T k rows=>(V.nl id/\rows=[])\/¬V.nl id/\∃cur,V.w.heap[V.ρ id]?=some (.cells cur T (0,0))/\cur.size=V.cap id*k/\rows.length<=V.cap id/\V.cap id<=maxLen/\(∀r∈rows,r.length=k)/\
  ∀i r j c,rows[i]?=some r->r[j]?=some c->∃v,cur[i*k+j]?=some v/\AD V c v
 | .mp es=>¬V.nl id/\∃ents clock,V.w.heap[V.ρ id]?=some (.map ents clock)/\ents.toList.map (λe=>(e.key,e.val))=es
 | .sld T l=>¬V.nl id/\kx V.w T l
theorem Az{V V':View}(e:Ext V V'){id:Nat}(a:id<V.nx){o:O}{b:Nat}:Fb V' id o b↔Fb V id o b:=by
 cases o<;>simp[Fb,e.ρ id a]
structure Il (V:View) (σ:Ac):Prop where
 obj:∀id o,look σ id=some o->CL V id o
 lt:∀id o,look σ id=some o->id<V.nx
 free:∀id o,look σ id=some o->¬V.nl id->∀b,Fb V id o b->¬V.I b
 inj:∀id id' o o',look σ id=some o->look σ id'=some o'->id≠id'->¬V.nl id->¬V.nl id'->∀b,Fb V id o b->¬Fb V id' o' b
structure VS where
 B:Nat->Prop
 J:Nat->Prop
structure Ctx where
 V:View
 F:Nat->Prop
 J:Nat->Prop
def DT(V:View)(σ:Ac)(b:Nat):Prop:=∃id o,look σ id=some o/\¬V.nl id/\Fb V id o b
theorem CL.AM{V V':View}(e:Ext V V'){id:Nat}(a:id<V.nx){o:O}(hb:¬V.nl id->∀b,Fb V id o b->V'.w.heap[b]?=V.w.heap[b]?)(h:CL V id o):CL V' id o:=by
 cases o with
 | cells T k rows=>
  replace hb:=λg=>hb g _ (show Fb V id (.cells T k rows) (V.ρ id) from rfl)
  rcases h with ⟨n,d⟩|⟨f,cur,d,B,A,z,y,u⟩
  .exact .inl ⟨(e.nl id a).2 n,d⟩
  .refine .inr ⟨λh=>f ((e.nl id a).1 h),cur,by rw[e.ρ id a,hb f];exact d,by rw[e.cap id a];exact B,by rw[e.cap id a];exact A,by rw[e.cap id a];exact z,y,λi r j c hi q=>?_⟩
   obtain⟨v,t,s⟩:=u i r j c hi q;exact⟨v,t,s.ext e⟩
 | mp es=>
  replace hb:=λg=>hb g _ (show Fb V id (.mp es) (V.ρ id) from rfl);obtain⟨f,ents,clock,n,d⟩:=h;exact⟨λh=>f ((e.nl id a).1 h),ents,clock,by rw[e.ρ id a,hb f];exact n,d⟩
 | sld T l=>exact⟨λF=>h.1 ((e.nl id a).1 F),h.2.AM λx p b m=>hb h.1 b ⟨x,p,m⟩⟩
theorem CL.blt{V:View}{id:Nat}{o:O}(h:CL V id o)(d:¬V.nl id){b:Nat}(hb:Fb V id o b):b<V.w.heap.size:=by
 cases o with
 | sld T l=>obtain⟨x,c,hb⟩:=hb;exact(h.2.2 x c).blt hb
 | cells T k rows=>
  subst hb
  rcases h with ⟨a,_⟩|⟨_,cur,e,_⟩
  .exact absurd a d
  .exact(rt.1 e).1
 | mp=>
  subst hb;obtain⟨_,ents,clock,a,_⟩:=h;exact(rt.1 a).1
theorem JQ{V V':View}(e:Ext V V'){σ:Ac}(a:∀id o,look σ id=some o->id<V.nx){b:Nat}(h:DT V' σ b):DT V σ b:=by
 obtain⟨id,o,d,i,g⟩:=h;have c:=a id o d;exact⟨id,o,d,λf=>i ((e.nl id c).2 f),(Az e c).1 g⟩
structure Hid where
 S:Type
 st:S->Ac
 nx:Nat
structure BB where
 tabs:List (Nat×Obj)
 hid:Option (Hid×Nat)
instance:Membership (Nat×Obj) BB:=⟨λa x=>x∈a.tabs⟩
def Uc(TB:BB)(S:VS)(w:World):Prop:=match TB.hid with
 | none=>∀b,¬S.B b
 | some (H,r)=>∃(s:H.S) (V:View),V.I=S.J/\V.w=w/\V.nx=H.nx/\Il V (H.st s)/\(0<V.nx/\V.ρ 0=r/\¬V.nl 0/\∀x∈TB,V.I x.1)/\∀b,S.B b↔DT V (H.st s) b
theorem Uc.blt{TB:BB}{S:VS}{w:World}(h:Uc TB S w){b:Nat}(hb:S.B b):b<w.heap.size:=by
 unfold Uc at h;split at h
 .exact absurd hb (h b)
 .obtain⟨s,V,k,d,j,c,i,a⟩:=h
  obtain⟨id,o,g,f,e⟩:=(a b).1 hb;rw[<-d];exact(c.obj id o g).blt f e
theorem Uc.AM{TB:BB}{S:VS}{w w':World}(h:Uc TB S w)(t:∀b,S.J b->w'.heap[b]?=w.heap[b]?)(u:w.heap.size<=w'.heap.size)(v:∀b,S.B b->w'.heap[b]?=w.heap[b]?):Uc TB S w':=by
 unfold Uc at *;split at h
 .exact h
 .obtain⟨s,V,r,q,y,d,x,p⟩:=h
  have e:Ext V { V with w:=w' } := by
   subst q;exact⟨λ_ h=>h,λb hb=>t b (by rw[<-r];exact hb),u,λ_ _=>rfl,λ_ _=>rfl,λ_ _=>Iff.rfl,jp _⟩
  have bw:∀ {i o b},Fb { V with w:=w' } i o b↔Fb V i o b:=λ{i o b} => by cases o<;>exact Iff.rfl
  refine⟨s,{ V with w:=w' },r,rfl,y,⟨λid o a=>?_,d.lt,λid o a c b hb=>d.free id o a c b (bw.1 hb),λid id' o o' a f g c j b hb k=>d.inj id id' o o' a f g c j b (bw.1 hb) (bw.1 k)⟩,x,λb=>?_⟩
  .exact(d.obj id o a).AM e (d.lt id o a) λc b hb=>by
    have:=v b ((p b).2 ⟨id,o,a,c,hb⟩);rw[q];exact this
  .rw[p b]
   exact⟨λ⟨id,o,n,m,l⟩=>⟨id,o,n,m,bw.2 l⟩,λ⟨id,o,n,m,l⟩=>⟨id,o,n,m,bw.1 l⟩⟩
structure Pc (TB:BB) (V:View) (σ:Ac) (S:VS):Prop where
 r:Uc TB S V.w
 ji:∀b,S.J b->V.I b
 bi:∀b,S.B b->¬V.I b
 ap:∀b,DT V σ b->¬S.B b
def YN(TB:BB)(Γ:Ctx)(V:View)(σ:Ac):Prop:=∃S,Pc TB V σ S/\(∀b,S.J b->Γ.J b\/Γ.V.w.heap.size<=b\/Γ.F b)/\∀b,S.B b->Γ.V.w.heap.size<=b\/Γ.F b
theorem Pc.step{TB:BB}{S:VS}{V V':View}{σ σ':Ac}(h:Pc TB V σ S)(hI:∀b,V.I b->V'.I b)(d:∀b,V.I b->V'.w.heap[b]?=V.w.heap[b]?)(f:V.w.heap.size<=V'.w.heap.size)
 (e:∀b,b<V.w.heap.size->¬V.I b->¬DT V σ b->V'.w.heap[b]?=V.w.heap[b]?) (i:∀b,V'.I b->V.I b\/DT V σ b\/V.w.heap.size<=b) (j:∀b,DT V' σ' b->DT V σ b\/V.w.heap.size<=b):Pc TB V' σ' S:=by
 have g:∀b,S.B b->¬DT V σ b:=λb hb c=>h.ap b c hb;refine⟨h.r.AM (λb hb=>d b (h.ji b hb)) f (λb hb=>e b (h.r.blt hb) (h.bi b hb) (g b hb)),λb hb=>hI b (h.ji b hb),λb hb hi=>?_,λb c hb=>?_⟩
 .rcases i b hi with a|a|a
  .exact h.bi b hb a
  .exact h.ap b a hb
  .have:=h.r.blt hb;omega
 .rcases j b c with a|a
  .exact h.ap b a hb
  .have:=h.r.blt hb;omega
theorem YN.step{TB:BB}{Γ:Ctx}{V V':View}{σ σ':Ac}(h:YN TB Γ V σ)(hI:∀b,V.I b->V'.I b)(a:∀b,V.I b->V'.w.heap[b]?=V.w.heap[b]?)(d:V.w.heap.size<=V'.w.heap.size)
 (c:∀b,b<V.w.heap.size->¬V.I b->¬DT V σ b->V'.w.heap[b]?=V.w.heap[b]?) (e:∀b,V'.I b->V.I b\/DT V σ b\/V.w.heap.size<=b) (f:∀b,DT V' σ' b->DT V σ b\/V.w.heap.size<=b):YN TB Γ V' σ':=by
 obtain⟨S,i,g⟩:=h;exact⟨S,i.step hI a d c e f,g⟩
theorem YN.same{TB:BB}{Γ:Ctx}{V V':View}{σ σ':Ac}(h:YN TB Γ V σ)(a:V'.w=V.w)(hI:∀b,V.I b->V'.I b)(c:∀b,V'.I b->V.I b\/DT V σ b)(d:∀b,DT V' σ' b->DT V σ b):YN TB Γ V' σ':=
 h.step hI (λb _=>by rw[a]) (by rw[a];exact jp _) (λb _ _ _=>by rw[a]) (λb hb=>(c b hb).elim .inl λh=>.inr (.inl h)) (λb hb=>.inl (d b hb))
structure Inv (TB:BB) (Γ:Ctx) (V:View) (σ:Ac):Prop where
 os:V.w.os=Γ.V.w.os
 tape:V.w.tape=Γ.V.w.tape
 output:V.w.output=Γ.V.w.output
 old:∀b,b<Γ.V.w.heap.size->¬Γ.F b->V.w.heap[b]?=Γ.V.w.heap[b]?
 iLt:∀b,V.I b->b<V.w.heap.size
 iNew:∀b,V.I b->Γ.V.I b\/Γ.V.w.heap.size<=b\/Γ.F b
 ext:Ext Γ.V V
 st:Il V σ
 live:∀id o,look σ id=some o->¬V.nl id->∀b,Fb V id o b->Γ.V.w.heap.size<=b\/Γ.F b
 tabs:∀x∈TB,V.I x.1/\V.w.heap[x.1]?=some x.2
 hid:YN TB Γ V σ
abbrev Env:=Nat->Option E
def BV(f:Env)(d:Option Tmp)(x:E):Env:=match d with
 | some d=>λt=>if t=d then some x else f t
 | none=>f
def EA(V:View)(f:Env)(tmps:Array Value):Prop:=∀t e,f t=some e->Bh V e (tmps.getD t undef)
def JG(V:View)(o:Oper)(f:Env)(a:Act):Prop:=∀t e,.tmp t∈o.op.operands->f t=some e->Bh V e (a.tmps.getD t undef)
theorem EA.op{V:View}{f:Env}{a:Act}(h:EA V f a.tmps)(o:Oper):JG V o f a:=λt e _ b=>h t e b
theorem EA.ext{V V':View}{f:Env}{tmps:Array Value}(e:Ext V V')(h:EA V f tmps):EA V' f tmps:=λt x a=>(h t x a).ext e
def rT:Exit->Act->World->Prop:=λ_ _ _=>False
section
variable (P:Program)(TB:BB)(Γ:Ctx)
def A5(o:Oper)(f:Env)(σ:Ac)(nx:Nat)(x:E):Prop:=
 ∀V a,JG V o f a->Inv TB Γ V σ->V.nx=nx->o.wp P a V.w (λa' w'=>∃V' v,V'.w=w'/\a'=a.put o.dst v/\Ext V V'/\Inv TB Γ V' σ/\V'.nx=nx/\Bh V' x v) rT
def CQ(o:Oper)(f:Env)(σ:Ac)(nx:Nat)(K:E->Ac->Nat->Prop):Prop:=
 ∀V a,JG V o f a->Inv TB Γ V σ->V.nx=nx->o.wp P a V.w (λa' w'=>∃V' v x σ',V'.w=w'/\a'=a.put o.dst v/\Ext V V'/\Inv TB Γ V' σ'/\Bh V' x v/\K x σ' V'.nx) rT
theorem aq{o:Oper}{a:Act}{w:World}{K:Act->World->Prop}{Q:Exit->Act->World->Prop}(h:o.wp P a w K rT):o.wp P a w K Q:=by
 unfold Oper.wp at *;generalize (execOp a.eval o).run P w=r at *
 cases r with
 | ok n w'=>
  cases n<;>simp only[Oper.upon]at h |-
  case value=>exact h
  case skip=>exact h
  case defer=>exact h
  case enter f args=>
   refine h.mono λe w'' b=>?_
   cases e with
   | returned v=>exact b
   | panicked c=>exact b.elim
   | outgrown=>obtain⟨_,_,h⟩:=b;exact h.elim
  case row=>exact h
 | halt x w'=>
  cases x<;>simp only[Oper.upon]at h |-
  case panic v=>exact h.elim
theorem A5.r6{o:Oper}{f:Env}{σ:Ac}{nx:Nat}{x:E}{K:E->Ac->Nat->Prop}(h:A5 P TB Γ o f σ nx x)(b:K x σ nx):CQ P TB Γ o f σ nx K:=by
 intro V a e d c;refine Oper.wp_mono ?_ (h V a e d c);rintro a' w' ⟨V',v,m,l,k,j,i,g⟩;exact⟨V',v,x,σ,m,l,k,j,g,i▸b⟩
def Bx(ops:Array Oper)(o:Oper)(f:Env):Option Bool:=
 match o.guard with
 | none=>some true
 | some (g,want)=>
  match ((ops[g]?).bind (·.dst)).bind f with
  | some (.o (.d (.v (.bool b))))=>some (b == want)
  | some (.t _)=>some false
  | _=>none
theorem IW{V:View}{ops:Array Oper}{o:Oper}{f:Env}{a:Act}{b:Bool}(r:EA V f a.tmps)(c:∀t e,f t=some e->t<a.tmps.size)(h:Bx ops o f=some b) :
 Region.wanted o (yielded ops a.tmps)=b:=by
 unfold Bx at h;unfold Region.wanted;split at h
 .rename_i m;simp only[m];exact Option.some.inj h
 .rename_i g want m
  simp only[m];split at h
  .rename_i b' hb
   have l:∃t,((ops[g]?).bind (·.dst))=some t/\f t=some (.o (.d (.v (.bool b')))):=by
    cases ht:((ops[g]?).bind (·.dst)) with
    | none=>rw[ht]at hb;cases hb
    | some t=>exact⟨t,rfl,by rw[ht]at hb;exact hb⟩
   obtain⟨t,q,j⟩:=l;have k:=r t _ j;have i:=c t _ j;have s:a.tmps.getD t undef=.bool b':=AD.val k
   have p:a.tmps[t]?=some (.bool b'):=by
    rw[pm i];rw[Array.getD,dif_pos i]at s;exact congrArg some s
   have n:yielded ops a.tmps g=some b':=by
    unfold yielded;rw[q];simp[p]
   rw[n];cases b'<;>cases want<;>simp_all
  .rename_i xs hb
   have l:∃t,((ops[g]?).bind (·.dst))=some t/\f t=some (.t xs):=by
    cases ht:((ops[g]?).bind (·.dst)) with
    | none=>rw[ht]at hb;cases hb
    | some t=>exact⟨t,rfl,by rw[ht]at hb;exact hb⟩
   obtain⟨t,q,j⟩:=l;obtain⟨vs,k,_⟩:=r t _ j;have i:=c t _ j
   have p:a.tmps[t]?=some (.tuple vs):=by
    rw[pm i];rw[Array.getD,dif_pos i]at k;exact congrArg some k
   have n:yielded ops a.tmps g=none:=by
    unfold yielded;rw[q];simp[p]
   rw[n];exact Option.some.inj h
  .cases h
end
theorem NW{f:Env}{d d':Option Tmp}{x y:E}(h:∀t,d=some t->d'≠some t):BV (BV f d x) d' y=BV (BV f d' y) d x:=by
 cases d with
 | none=>rfl
 | some t=>
  cases d' with
  | none=>rfl
  | some t'=>
   have a:t≠t':=λe=>h t rfl (by rw[e]);funext s;simp only[BV];by_cases c:s=t<;>by_cases b:s=t'<;>simp_all
theorem DL{f:Env}{d:Option Tmp}{x:E}{t:Tmp}(h:d≠some t):BV f d x t=f t:=by
 cases d with
 | none=>rfl
 | some d=>
  have:t≠d:=λe=>h (by rw[e]);simp[BV,this]
section
variable (P:Program)(TB:BB)(Γ:Ctx)(ops:Array Oper)
def aM(n:Bool)(o:Oper)(K:Env->Ac->Nat->Prop)(f:Env)(σ:Ac)(nx:Nat):Prop:=
 (Bx ops o f=some false/\K (BV f o.dst (.t [])) σ nx)\/
 (Bx ops o f=some true/\bif n then CQ P TB Γ o f σ nx (λx σ' nx'=>K (BV f o.dst x) σ' nx') else ∃x,A5 P TB Γ o f σ nx x/\K (BV f o.dst x) σ nx)
def Kept(m:Nat)(σ σ':Ac):Prop:=∀id,Nat.testBit m id=true->look σ' id=look σ id
def rI(c:Nat)(o:Oper)(K:Env->Ac->Nat->Prop)(f:Env)(σ:Ac)(nx:Nat):Prop:=
 (Bx ops o f=some false/\K (BV f o.dst (.t [])) σ nx)\/
 (Bx ops o f=some true/\bif Nat.ble 1000 c then CQ P TB Γ o f σ nx (λx σ' nx'=>Kept (c-1000) σ σ'/\K (BV f o.dst x) σ' nx')
  else ∃x,(∀σ' nx',look σ' (c-10)=look σ (c-10)->A5 P TB Γ o f σ' nx' x)/\K (BV f o.dst x) σ nx)
def Lex : List (Nat×Nat)->(Env->Ac->Nat->Prop)->Env->Ac->Nat->Prop
 | [],K,f,σ,nx=>K f σ nx
 | (i, c)::r,K,f,σ,nx=>∃o,ops[i]?=some o/\
  bif Nat.ble 10 c then rI P TB Γ ops c o (Lex r K) f σ nx else bif Nat.beq c 2 then
   (Bx ops o f=some false/\Lex r K (BV f o.dst (.t [])) σ nx)\/
   (Bx ops o f=some true/\∃x,(∀σ nx,A5 P TB Γ o f σ nx x)/\Lex r K (BV f o.dst x) σ nx)
  else aM P TB Γ ops (Nat.beq c 1) o (Lex r K) f σ nx
end
def Uj(c:Nat):Bool:=Nat.beq c 0 || Nat.beq c 1
def Fj(c:Nat):Bool:=Nat.beq c 1 || Nat.ble 1000 c
def Ql(c cj:Nat):Bool:=Nat.beq c 2 || (!Fj cj || (Nat.ble 10 c && (Nat.ble 1000 cj && Nat.testBit (cj-1000) (c-10))))
section
variable {P:Program}{TB:BB}{Γ:Ctx}{ops:Array Oper}
theorem JG.congr{V:View}{o:Oper}{f f':Env}{a:Act}(h:∀t,.tmp t∈o.op.operands->f t=f' t)(b:JG V o f a):JG V o f' a:=
 λt e ht c=>b t e ht (by rw[h t ht];exact c)
theorem A5.congr{o:Oper}{f f':Env}{σ:Ac}{nx:Nat}{x:E}(h:∀t,.tmp t∈o.op.operands->f t=f' t)(b:A5 P TB Γ o f σ nx x):A5 P TB Γ o f' σ nx x:=
 λV a c=>b V a (c.congr λt ht=>(h t ht).symm)
theorem CQ.congr{o:Oper}{f f':Env}{σ:Ac}{nx:Nat}{K:E->Ac->Nat->Prop}(h:∀t,.tmp t∈o.op.operands->f t=f' t)(b:CQ P TB Γ o f σ nx K):CQ P TB Γ o f' σ nx K:=
 λV a c=>b V a (c.congr λt ht=>(h t ht).symm)
theorem CQ.mono{o:Oper}{f:Env}{σ:Ac}{nx:Nat}{K K':E->Ac->Nat->Prop}(b:CQ P TB Γ o f σ nx K)(h:∀x σ nx,K x σ nx->K' x σ nx):CQ P TB Γ o f σ nx K':=by
 intro V a e d c;refine Oper.wp_mono ?_ (b V a e d c);rintro a' w' ⟨V',v,x,σ',m,l,k,j,i,g⟩;exact⟨V',v,x,σ',m,l,k,j,i,h _ _ _ g⟩
theorem IE{o:Oper}{t:Tmp}(h:.tmp t∈o.op.operands):t∈o.looksAt ops:=
 rx _ (List.mem_filterMap.2 ⟨.tmp t,by simpa using h,rfl⟩)
theorem Iw{o:Oper}{f:Env}{d:Option Tmp}{x:E}(h:∀t,d=some t->t∉o.looksAt ops):Bx ops o (BV f d x)=Bx ops o f:=by
 unfold Bx
 cases b:o.guard with
 | none=>rfl
 | some gw=>
  obtain⟨g,want⟩:=gw
  cases ht:(ops[g]?).bind (·.dst) with
  | none=>simp only[ht];rfl
  | some t=>
   have a:d≠some t:=λe=>h t e (by simp[Oper.looksAt,b,ht]);simp only[ht,wg,DL a]
theorem Hj{o:Oper}{f:Env}{d:Option Tmp}{x:E}(h:∀t,d=some t->t∉o.looksAt ops):∀t,.tmp t∈o.op.operands->BV f d x t=f t:=
 λt ht=>DL λe=>h t e (IE ht)
def waits(ops:Array Oper)(i:Nat):Nat->Nat->Bool
 | 0,_=>false
 | n+1,j=>((ops[j]?).map (·.after.any λe=>Region.binds .any e && (Nat.beq e.on i || waits ops i n e.on))).getD false
def GS(ops:Array Oper)(listed:Array Bool):Prop:=
 ∀j,listed.getD j false=true->∀o,ops[j]?=some o->∀e∈o.after,Region.binds .any e=true->listed.getD e.on false=true
theorem Nu{listed:Array Bool}(c:GS ops listed){i:Nat}:∀(n j:Nat),waits ops i n j=true->listed.getD j false=true->listed.getD i false=true
 | 0,_,h,_=>by cases h
 | n+1,j,h,e=>by
  unfold waits at h
  cases a:ops[j]? with
  | none=>rw[a]at h;cases h
  | some o=>
   rw[a]at h;simp only[uJ,vj]at h;rw[wZ]at h;obtain⟨k,hk,h⟩:=h;simp only[d4,t6]at h;have d:=c j e o a _ (xu hk) h.1
   rcases h.2 with b|b
   .have:=gt b;rw[<-this];exact d
   .exact Nu c n _ b d
theorem O7{listed:Array Bool}(f:GS ops listed){i:Nat}(hi:listed.getD i false=false){n j:Nat}(h:waits ops i n j=true):j∉Region.ready .any ops listed:=by
 intro d;obtain⟨_,o,e,a⟩:=mem_ready.1 d
 cases n with
 | zero=>cases h
 | succ n=>
  unfold waits at h;rw[e]at h;simp only[uJ,vj]at h;rw[wZ]at h;obtain⟨k,hk,h⟩:=h;simp only[d4,t6]at h;have c:=a _ (xu hk) h.1
  rcases h.2 with b|b
  .have:=gt b;rw[this,hi]at c;cases c
  .have:=Nu f n _ b c;rw[hi]at this;cases this
def UW(ops:Array Oper)(i c:Nat)(r:List (Nat×Nat)):Bool:=
 (r.all λ(j,cj)=>waits ops i ops.size j || (!Fj c && (match ops[i]?,ops[j]? with|some x,some y=>x.apart ops y|_,_=>false) && Ql c cj))
def Eo(ops:Array Oper):List (Nat×Nat)->Bool
 | []=>true
 | (i,c)::r=>UW ops i c r && Eo ops r
def Bq(ops:Array Oper):List (Nat×Nat)->Array Bool->Bool
 | [],listed=>(Region.ready .any ops listed).isEmpty
 | (i,_)::r,listed=>(Region.ready .any ops listed).contains i && Bq ops r (listed.setIfInBounds i true)
end
section
variable {P:Program}{TB:BB}{Γ:Ctx}{ops:Array Oper}
theorem Sx(listed:Array Bool)(i:Nat):(listed.setIfInBounds i true).getD i true=true:=by
 by_cases h:i<listed.size
 .simp[h]
 .simp[h]
theorem Rr{listed:Array Bool}{j:Nat}(h:j∈Region.ready .any ops listed):listed.getD j true=false:=(mem_ready.1 h).1
theorem Yv{listed:Array Bool}{j:Nat}(h:listed.getD j true=false):listed.getD j false=false:=by
 rcases uo j listed.size with a|a
 .simpa[a]using h
 .simp[Array.getElem?_eq_none a]
theorem I7{listed:Array Bool}{j:Nat}(h:GS ops listed)(g:j∈Region.ready .any ops listed):GS ops (listed.setIfInBounds j true):=by
 intro i hi o d e f hb;by_cases b:j=i
 .subst b
  obtain⟨_,o',a,c⟩:=mem_ready.1 g;rw[d]at a
  injection a with a
  subst a;exact getD_set_true (c e f hb)
 .rw[getD_set_ne false b]at hi
  exact getD_set_true (h i hi o d e f hb)
theorem MU:∀(r:List (Nat×Nat)) (listed:Array Bool),Bq ops r listed=true->∀j,j∈Region.ready .any ops listed->j∈r.map (·.1)
 | [],listed,h,j,b=>by
  simp only[Bq,List.isEmpty_iff]at h;rw[h]at b;cases b
 | (i,c)::r,listed,h,j,b=>by
  simp only[Bq,d4]at h;by_cases a:j=i
  .subst a;simp
  .have:=MU r _ h.2 j (ready_mono b a)
   simp only[uS,lc];exact .inr this
theorem bW:∀(r:List (Nat×Nat)) (listed:Array Bool),Bq ops r listed=true->∀j,listed.getD j true=true->j∉r.map (·.1)
 | [],_,_,_,_=>by simp
 | (i,c)::r,listed,h,j,b=>by
  simp only[Bq,d4]at h
  have hi:i∈Region.ready .any ops listed:=by simpa using h.1
  have a:i≠j:=λe=>by subst e;rw[Rr hi]at b;cases b
  have:=bW r _ h.2 j (by rw[getD_set_ne true a];exact b);simp only[uS,lc,not_or];exact⟨λe=>a e.symm,this⟩
theorem QZ:∀(f b:List (Nat×Nat)) (j c:Nat) (listed:Array Bool),Bq ops (f++(j,c)::b) listed=true->j∈Region.ready .any ops listed->
 Bq ops (f++b) (listed.setIfInBounds j true)=true
 | [],b,j,c,listed,h,_=>by
  simp only[wN,Bq,d4]at h;exact h.2
 | (i,d)::f,b,j,c,listed,h,g=>by
  simp only[vk,Bq,d4]at h |-
  have hi:i∈Region.ready .any ops listed:=by simpa using h.1
  have a:j≠i:=by
   intro e;subst e;have:=bW _ _ h.2 j (Sx _ _);exact this (by simp)
  refine⟨by simpa using ready_mono hi (Ne.symm a),?_⟩;rw[Array.setIfInBounds_comm _ _ a];exact QZ f b j c _ h.2 (ready_mono g a)
theorem MS:∀(e a:List (Nat×Nat)) (x:Nat×Nat),Eo ops (e++x::a)=true->Eo ops (e++a)=true
 | [],a,(j,c),h=>by
  simp only[wN,Eo,d4]at h;exact h.2
 | (i,d)::e,a,x,h=>by
  simp only[vk,Eo,d4]at h |-;refine⟨?_,MS e a x h.2⟩;have f:=h.1;unfold UW at f |-;rw[ge]at f |-;intro y b;refine f y ?_
  rcases f7.1 b with b|b
  .exact rx _ b
  .exact ur _ (ui _ b)
def QC(P:Program)(TB:BB)(Γ:Ctx)(c:Nat)(o:Oper)(x:E)(f:Env)(σ:Ac)(nx:Nat):Prop:=
 bif Nat.ble 10 c then ∀σ' nx',look σ' (c-10)=look σ (c-10)->A5 P TB Γ o f σ' nx' x else bif Nat.beq c 2 then ∀σ nx,A5 P TB Γ o f σ nx x else A5 P TB Γ o f σ nx x
def Yl(P:Program)(TB:BB)(Γ:Ctx)(ops:Array Oper)(c:Nat)(o:Oper)(x:E)(f:Env)(σ:Ac)(nx:Nat):Prop:=
 (Bx ops o f=some false/\x=.t [])\/(Bx ops o f=some true/\QC P TB Γ c o x f σ nx)
theorem QC.congr{c:Nat}{o:Oper}{x:E}{f f':Env}{σ:Ac}{nx:Nat}(h:∀t,.tmp t∈o.op.operands->f t=f' t)(q:QC P TB Γ c o x f σ nx):QC P TB Γ c o x f' σ nx:=by
 unfold QC at q |-;cases b:Nat.ble 10 c
 .rw[b]at q
  cases a:Nat.beq c 2
  .rw[a]at q;exact A5.congr h q
  .rw[a]at q;exact λσ nx=>A5.congr h (q σ nx)
 .rw[b]at q;exact λσ' nx' d=>A5.congr h (q σ' nx' d)
theorem QC.move{c:Nat}{o:Oper}{x:E}{f:Env}{σ σ':Ac}{nx nx':Nat}(q:QC P TB Γ c o x f σ nx)(g:(Nat.ble 10 c=false/\Nat.beq c 2=true)\/(σ'=σ/\nx'=nx)\/(Nat.ble 10 c=true/\look σ' (c-10)=look σ (c-10))):QC P TB Γ c o x f σ' nx':=by
 rcases g with ⟨e,d⟩|⟨rfl,rfl⟩|⟨e,d⟩
 .unfold QC at q |-;rw[e,d]at q |-;exact q
 .exact q
 .unfold QC at q |-;rw[e]at q |-;exact λa b h=>q a b (h.trans d)
def Ii(P:Program)(TB:BB)(Γ:Ctx)(ops:Array Oper)(c:Nat)(o:Oper)(K:Env->Ac->Nat->Prop)(f:Env)(σ:Ac)(nx:Nat):Prop:=
 bif Nat.ble 10 c then rI P TB Γ ops c o K f σ nx else bif Nat.beq c 2 then
  (Bx ops o f=some false/\K (BV f o.dst (.t [])) σ nx)\/
  (Bx ops o f=some true/\∃x,(∀σ nx,A5 P TB Γ o f σ nx x)/\K (BV f o.dst x) σ nx)
 else aM P TB Γ ops (Nat.beq c 1) o K f σ nx
theorem EE{c:Nat}{o:Oper}{K:Env->Ac->Nat->Prop}{f:Env}{σ:Ac}{nx:Nat}(a:Fj c=false) :
 Ii P TB Γ ops c o K f σ nx↔∃x,Yl P TB Γ ops c o x f σ nx/\K (BV f o.dst x) σ nx:=by
 unfold Fj at a;rw[Bool.or_eq_false_iff]at a;unfold Ii Yl aM rI QC;rw[a.1,a.2];have key:∀ {q:E->Prop},((Bx ops o f=some false/\K (BV f o.dst (.t [])) σ nx)\/(Bx ops o f=some true/\∃x,q x/\K (BV f o.dst x) σ nx))↔
  ∃x,((Bx ops o f=some false/\x=.t [])\/(Bx ops o f=some true/\q x))/\K (BV f o.dst x) σ nx:=by
  intro q;constructor
  .rintro(⟨h,k⟩|⟨h,x,q,k⟩)
   .exact⟨_,.inl ⟨h,rfl⟩,k⟩
   .exact⟨x,.inr ⟨h,q⟩,k⟩
  .rintro⟨x,⟨h,rfl⟩|⟨h,q⟩,k⟩
   .exact .inl ⟨h,k⟩
   .exact .inr ⟨h,x,q,k⟩
 cases d:Nat.ble 10 c
 .cases b:Nat.beq c 2
  .exact key
  .exact key
 .exact key
theorem Hs{c:Nat}{o:Oper}{K:Env->Ac->Nat->Prop}{f:Env}{σ:Ac}{nx:Nat}(b:Fj c=true) :
 Ii P TB Γ ops c o K f σ nx↔(Bx ops o f=some false/\K (BV f o.dst (.t [])) σ nx)\/(Bx ops o f=some true/\CQ P TB Γ o f σ nx (λx σ' nx'=>(Nat.ble 1000 c=true->Kept (c-1000) σ σ')/\K (BV f o.dst x) σ' nx')):=by
 unfold Fj at b;unfold Ii aM rI;cases g:Nat.ble 1000 c
 .rw [g,Bool.or_false]at b
  have a:=gt b;subst a;constructor
  .rintro(h|⟨h,q⟩)
   .exact .inl h
   .exact .inr ⟨h,CQ.mono q λx σ' nx' k=>⟨λe=>by simp at e,k⟩⟩
  .rintro(h|⟨h,q⟩)
   .exact .inl h
   .exact .inr ⟨h,CQ.mono q λx σ' nx' k=>k.2⟩
 .have d:Nat.ble 10 c=true:=wE (by have:=co g;omega)
  rw[d];simp only[cond_true];constructor
  .rintro(h|⟨h,q⟩)
   .exact .inl h
   .exact .inr ⟨h,CQ.mono q λx σ' nx' k=>⟨λ_=>k.1,k.2⟩⟩
  .rintro(h|⟨h,q⟩)
   .exact .inl h
   .exact .inr ⟨h,CQ.mono q λx σ' nx' k=>⟨k.1 trivial,k.2⟩⟩
theorem Ii.mono{c:Nat}{o:Oper}{K K':Env->Ac->Nat->Prop}{f:Env}{σ:Ac}{nx:Nat}(hk:∀f σ nx,K f σ nx->K' f σ nx)(h:Ii P TB Γ ops c o K f σ nx):Ii P TB Γ ops c o K' f σ nx:=by
 cases d:Fj c
 .rw[EE d]at h |-
  obtain⟨x,b,a⟩:=h;exact⟨x,b,hk _ _ _ a⟩
 .rw[Hs d]at h |-
  rcases h with ⟨b,a⟩|⟨b,a⟩
  .exact .inl ⟨b,hk _ _ _ a⟩
  .exact .inr ⟨b,CQ.mono a λx σ' nx' k=>⟨k.1,hk _ _ _ k.2⟩⟩
theorem dY{ci cj:Nat}{oi oj:Oper}{x:E}{f:Env}{σ:Ac}{nx:Nat}{K:Env->Ac->Nat->Prop}
 (g:Fj ci=false) (i:oi.apart ops oj=true) (b:Ql ci cj=true) (d:Yl P TB Γ ops ci oi x f σ nx)
 (h:Ii P TB Γ ops cj oj K (BV f oi.dst x) σ nx):Ii P TB Γ ops cj oj (Ii P TB Γ ops ci oi K) f σ nx:=by
 obtain⟨m,n,l⟩:=Oper.apart_spec i;have k:Bx ops oj (BV f oi.dst x)=Bx ops oj f:=Iw m;have ag:∀t,.tmp t∈oj.op.operands->BV f oi.dst x t=f t:=Hj m
 have back:∀(y:E) (σ':Ac) (nx':Nat),((Nat.ble 10 ci=false/\Nat.beq ci 2=true)\/(σ'=σ/\nx'=nx)\/(Nat.ble 10 ci=true/\look σ' (ci-10)=look σ (ci-10)))->K (BV (BV f oi.dst x) oj.dst y) σ' nx'->Ii P TB Γ ops ci oi K (BV f oj.dst y) σ' nx':=by
  intro y σ' nx' e hk;rw[EE g];refine⟨x,?_,by rw[NW n]at hk;exact hk⟩;unfold Yl at d |-;rw[Iw l]
  rcases d with d|⟨d,q⟩
  .exact .inl d
  .exact .inr ⟨d,(q.move e).congr λt ht=>(Hj l t ht).symm⟩
 cases c:Fj cj
 .rw[EE c]at h |-
  obtain⟨y,a,hk⟩:=h;refine⟨y,?_,back y σ nx (.inr (.inl ⟨rfl,rfl⟩)) hk⟩;unfold Yl at a |-;rw[k]at a
  rcases a with a|⟨a,q⟩
  .exact .inl a
  .exact .inr ⟨a,q.congr ag⟩
 .rw [Hs c]at h |-
  rw[k]at h
  have e:∀σ' nx',(Nat.ble 1000 cj=true->Kept (cj-1000) σ σ')->(Nat.ble 10 ci=false/\Nat.beq ci 2=true)\/(σ'=σ/\nx'=nx)\/(Nat.ble 10 ci=true/\look σ' (ci-10)=look σ (ci-10)):=λσ' nx' hk=>by
   unfold Ql at b;rw[c]at b;simp only[uW,wu,t6,d4]at b
   rcases b with b|⟨r,p,o⟩
   .have:=gt b
    subst this;exact .inl ⟨rfl,rfl⟩
   .exact .inr (.inr ⟨r,hk p _ o⟩)
  rcases h with ⟨j,hk⟩|⟨j,hk⟩
  .exact .inl ⟨j,back _ σ nx (.inr (.inl ⟨rfl,rfl⟩)) hk⟩
  .exact .inr ⟨j,(CQ.congr ag hk).mono λy σ' nx' hk=>⟨hk.1,back y σ' nx' (e σ' nx' hk.1) hk.2⟩⟩
theorem Gx(K:Env->Ac->Nat->Prop):∀(r:List (Nat×Nat)) (listed:Array Bool) (f:Env) (σ:Ac) (nx:Nat),GS ops listed->Bq ops r listed=true->Eo ops r=true->
 Lex P TB Γ ops r K f σ nx->∀j,j∈Region.ready .any ops listed->∃k c g o,r=k++(j,c)::g/\ops[j]?=some o/\Ii P TB Γ ops c o (Lex P TB Γ ops (k++g) K) f σ nx
 | [],listed,_,_,_,_,q,_,_,j,t=>by have:=MU _ _ q j t;simp at this
 | (i, ci)::r,listed,f,σ,nx,F,q,hk,h,j,t=>by
  obtain⟨oi,m,h⟩:=h;by_cases n:j=i
  .subst n
   exact⟨[],ci,r,oi,rfl,m,h⟩
  .simp only [Bq,d4]at q
   simp only[Eo,d4]at hk
   have hi:i∈Region.ready .any ops listed:=by simpa using q.1
   have y:j∈r.map (·.1):=MU r _ q.2 j (ready_mono t n);obtain⟨⟨j',cj⟩,s,rfl⟩:=d8.1 y;have p:=hk.1;unfold UW at p;rw[ge]at p
   have l:∀c',(j',c')∈r->Fj ci=false/\(∃oj,ops[j']?=some oj/\oi.apart ops oj=true)/\Ql ci c'=true:=by
    intro c' w;have d:=p _ w;simp only[t6,d4]at d
    rcases d with d|⟨⟨Q,v⟩,N⟩
    .exact absurd t (O7 F (Yv (Rr hi)) d)
    .refine⟨by simpa using Q,?_,N⟩
     rw[m]at v
     cases b:ops[j']? with
     | none=>rw[b]at v;cases v
     | some oj=>rw[b]at v;exact⟨oj,rfl,v⟩
   have u:=(l cj s).1;have G:Ii P TB Γ ops ci oi (Lex P TB Γ ops r K) f σ nx:=h;rw[EE u]at G;obtain⟨x,H,I⟩:=G;obtain⟨k,c,g,oj,B,b,M⟩:=Gx K r (listed.setIfInBounds i true) _ σ nx (I7 F hi) q.2 hk.2 I j' (ready_mono t n);obtain⟨_,⟨oj',a,A⟩,z⟩:=l c (by rw[B];simp);rw[b]at a
   injection a with a
   subst a;refine⟨(i,ci)::k,c,g,oj,by rw[B];rfl,b,?_⟩;have L:=dY u A z H M;have e:Lex P TB Γ ops ((i,ci)::k++g) K=λf σ nx=>∃o,ops[i]?=some o/\Ii P TB Γ ops ci o (Lex P TB Γ ops (k++g) K) f σ nx:=rfl;rw[e]
   have J:∀f σ nx,Ii P TB Γ ops ci oi (Lex P TB Γ ops (k++g) K) f σ nx->∃o,ops[i]?=some o/\Ii P TB Γ ops ci o (Lex P TB Γ ops (k++g) K) f σ nx:=λf σ nx h=>⟨oi,m,h⟩
   exact Ii.mono J L
end
structure Cw (TB:BB) (Γ:Ctx) (N:Nat) (V:View) (f:Env) (σ:Ac) (nx:Nat) (a:Act):Prop where
 env:EA V f a.tmps
 lt:∀t e,f t=some e->t<N
 size:a.tmps.size=N
 inv:Inv TB Γ V σ
 nx:V.nx=nx
 defers:a.defers=[]
def HJ(N:Nat)(ops:Array Oper):Bool:=ops.all λo=>match o.dst with|some d=>Nat.blt d N|none=>true
section
variable {P:Program}{TB:BB}{Γ:Ctx}{N:Nat}{ops:Array Oper}
theorem Y3(h:HJ N ops=true){i:Nat}{o:Oper}(a:ops[i]?=some o){d:Tmp}(b:o.dst=some d):d<N:=by
 unfold HJ at h;rw[Array.all_eq_true]at h;obtain⟨hi,rfl⟩:=rt.1 a;have:=h i hi;rw[b]at this;exact co this
theorem Cw.put{V V':View}{f:Env}{σ σ':Ac}{nx nx':Nat}{a:Act}{d:Option Tmp}{x:E}{v:Value}(h:Cw TB Γ N V f σ nx a)(g:∀t,d=some t->t<N)
 (e:Ext V V') (hi:Inv TB Γ V' σ') (c:V'.nx=nx') (i:Bh V' x v):Cw TB Γ N V' (BV f d x) σ' nx' (a.put d v):=by
 cases d with
 | none=>exact⟨h.env.ext e,h.lt,h.size,hi,c,h.defers⟩
 | some d=>
  refine⟨?_,?_,by simp[Act.put,h.size],hi,c,h.defers⟩
  .intro t y b
   simp only[BV]at b;by_cases ht:t=d
   .subst ht
    simp only[if_true]at b
    injection b with b
    subst b
    have:t<a.tmps.size:=by rw[h.size];exact g t rfl
    simpa[Act.put,this]using i
   .rw[if_neg ht]at b
    have:=(h.env t y b).ext e
    simpa[Act.put,vE (Ne.symm ht)]using this
  .intro t y b
   simp only[BV]at b;by_cases ht:t=d
   .subst ht;exact g t rfl
   .rw[if_neg ht]at b;exact h.lt t y b
theorem Oz(V:View):Bh V (.t []) undef:=⟨#[],rfl,rfl,λj x v h=>by simp at h⟩
def aI(TB:BB)(Γ:Ctx)(N:Nat)(K:Env->Ac->Nat->Prop)(Q:Exit->Act->World->Prop):Prop:=
 ∀V f σ a,Cw TB Γ N V f σ V.nx a->K f σ V.nx->Q .normal a V.w
theorem PY{c:Nat}{i:Nat}{o:Oper}(A:ops[i]?=some o)(k:∀t,o.dst=some t->t<N){K:Env->Ac->Nat->Prop}{K':Act->World->Prop}{Q:Exit->Act->World->Prop}
 (l:∀V f σ a,Cw TB Γ N V f σ V.nx a->K f σ V.nx->K' a V.w)
 {V:View} {f:Env} {σ:Ac} {nx:Nat} {a:Act} (b:Cw TB Γ N V f σ nx a) (h:Ii P TB Γ ops c o K f σ nx):wpOp P ops Q i K' a V.w:=by
 have g:∀t e,f t=some e->t<a.tmps.size:=λt e B=>by rw[b.size];exact b.lt t e B
 unfold wpOp;simp only[A]
 have no:Bx ops o f=some false->K (BV f o.dst (.t [])) σ nx->(if Region.wanted o (yielded ops a.tmps) then o.wp P a V.w K' Q\/(o.asks P a V.w/\LetsOut Q) else K' (a.put o.dst undef) V.w):=by
  intro d hk;rw[IW b.env g d];have j:Cw TB Γ N V (BV f o.dst (.t [])) σ V.nx (a.put o.dst undef):=b.put k (Ext.refl _) b.inv rfl (Oz V)
  simpa using l _ _ _ _ j (by rw[b.nx];exact hk)
 have yes:Bx ops o f=some true->(∃x,A5 P TB Γ o f σ nx x/\K (BV f o.dst x) σ nx)->(if Region.wanted o (yielded ops a.tmps) then o.wp P a V.w K' Q\/(o.asks P a V.w/\LetsOut Q) else K' (a.put o.dst undef) V.w):=by
  rintro d ⟨x,z,hk⟩;rw[IW b.env g d];simp only[if_true];refine .inl (aq P (Oper.wp_mono ?_ (z V a (b.env.op o) b.inv b.nx)));rintro a' w' ⟨V',v,rfl,rfl,r,p,n,m⟩;exact l V' _ σ _ (b.put k r p rfl m) (by rw[n];exact hk)
 cases s:Fj c
 .rw [EE s]at h
  obtain⟨x,y,hk⟩:=h
  rcases y with ⟨d,rfl⟩|⟨d,q⟩
  .exact no d hk
  .refine yes d ⟨x,?_,hk⟩
   unfold QC at q;cases j:Nat.ble 10 c
   .rw[j]at q
    cases u:Nat.beq c 2
    .rw[u]at q;exact q
    .rw[u]at q;exact q σ nx
   .rw[j]at q;exact q σ nx rfl
 .rw [Hs s]at h
  rcases h with ⟨d,hk⟩|⟨d,hk⟩
  .exact no d hk
  .rw[IW b.env g d]
   simp only[if_true];refine .inl (aq P (Oper.wp_mono ?_ (hk V a (b.env.op o) b.inv b.nx)));rintro a' w' ⟨V',v,x,σ',rfl,rfl,r,p,n,m⟩;exact l V' _ σ' _ (b.put k r p rfl n) m.2
theorem Nx(g:HJ N ops=true){K:Env->Ac->Nat->Prop}{Q:Exit->Act->World->Prop}(j:aI TB Γ N K Q):∀(r:List (Nat×Nat)) (V:View) (f:Env) (σ:Ac) (a:Act),
 Cw TB Γ N V f σ V.nx a->Lex P TB Γ ops r K f σ V.nx->wpOps P ops Q (r.map (·.1)) a V.w
 | [],V,f,σ,a,d,h=>j V f σ a d h
 | (i,c)::r,V,f,σ,a,d,h=>by
  obtain⟨o,e,h⟩:=h;rw[uS,wpOps_cons];exact PY e (λt ht=>Y3 g e ht) (λV' f' σ' a' b hk=>Nx g j r V' f' σ' a' b hk) d h
theorem Nw(v:HJ N ops=true){K:Env->Ac->Nat->Prop}{Q:Exit->Act->World->Prop}(y:aI TB Γ N K Q):∀(n:Nat) (r:List (Nat×Nat)) (listed:Array Bool) (V:View) (f:Env) (σ:Ac) (a:Act),
 r.length=n->GS ops listed->Bq ops r listed=true->Eo ops r=true->Cw TB Γ N V f σ V.nx a->Lex P TB Γ ops r K f σ V.nx->wpAny P .any ops Q n listed a V.w
 | 0,r,listed,V,f,σ,a,g,u,b,hk,p,h=>by
  have:r=[]:=pi.1 g;subst this;refine⟨?_,y V f σ a p h⟩
  simpa[Bq]using b
 | n + 1,r,listed,V,f,σ,a,g,u,b,hk,p,h=>by
  refine⟨λe=>?_,λj s=>?_⟩
  .cases r with
   | nil=>simp at g
   | cons x r=>
    obtain⟨i,c⟩:=x;simp only[Bq,d4]at b;have:=b.1;rw[e]at this;simp at this
  .obtain⟨l,c,k,o,rfl,d,z⟩:=Gx K r listed f σ V.nx u b hk h j s
   refine PY d (λt ht=>Y3 v d ht) (λV' f' σ' a' m q=>?_) p z;exact Nw v y n (l++k) _ V' f' σ' a' (by simp at g |-;omega) (I7 u s) (QZ l k j c listed b s) (MS l k _ hk) m q
def Al(P:Program)(TB:BB)(Γ:Ctx)(N:Nat)(c:Code)(Q:Exit->Env->Ac->Nat->Prop)(f:Env)(σ:Ac)(nx:Nat):Prop:=
 ∀V a,Cw TB Γ N V f σ nx a->c.wp P (λe a' w'=>∃V' f' σ',V'.w=w'/\Q e f' σ' V'.nx/\Cw TB Γ N V' f' σ' V'.nx a') a V.w
variable {Q:Exit->Env->Ac->Nat->Prop}{f:Env}{σ:Ac}{nx:Nat}
theorem Al.skip(h:Q .normal f σ nx):Al P TB Γ N .skip Q f σ nx:=λV _ a=>wp_skip ⟨V,f,σ,rfl,by rw[a.nx];exact h,by rw[a.nx];exact a⟩
theorem Al.exit{id:Nat}(h:Q (.exit id) f σ nx):Al P TB Γ N (.exit id) Q f σ nx:=λV _ a=>wp_exit ⟨V,f,σ,rfl,by rw[a.nx];exact h,by rw[a.nx];exact a⟩
theorem Al.ret(h:Q .ret f σ nx):Al P TB Γ N .ret Q f σ nx:=λV _ a=>wp_ret ⟨V,f,σ,rfl,by rw[a.nx];exact h,by rw[a.nx];exact a⟩
def Nm(K:Env->Ac->Nat->Prop)(Q:Exit->Env->Ac->Nat->Prop):Exit->Env->Ac->Nat->Prop
 | .normal=>K
 | e=>Q e
theorem Al.seq{x y:Code}(h:Al P TB Γ N x (Nm (Al P TB Γ N y Q) Q) f σ nx):Al P TB Γ N (.seq x y) Q f σ nx:=by
 intro V a d;refine wp_seq (wp_mono (h V a d) ?_);rintro e a' w' ⟨V',f',σ',rfl,c,b⟩
 cases e with
 | normal=>exact c V' a' b
 | exit id=>exact⟨V',f',σ',rfl,c,b⟩
 | goto l=>exact⟨V',f',σ',rfl,c,b⟩
 | ret=>exact⟨V',f',σ',rfl,c,b⟩
 | panic ch=>exact⟨V',f',σ',rfl,c,b⟩
 | outgrown=>exact⟨V',f',σ',rfl,c,b⟩
def qp(id:Nat)(Q:Exit->Env->Ac->Nat->Prop):Exit->Env->Ac->Nat->Prop
 | .exit id'=>bif Nat.beq id' id then Q .normal else Q (.exit id')
 | e=>Q e
theorem Al.block{id:Nat}{c:Code}(h:Al P TB Γ N c (qp id Q) f σ nx):Al P TB Γ N (.block id c) Q f σ nx:=by
 intro V a i;refine wp_block (wp_mono (h V a i) ?_);rintro e a' w' ⟨V',f',σ',rfl,b,g⟩
 cases e with
 | exit id'=>
  simp only[Exit.inBlock];by_cases d:id'=id
  .subst d
   simp only[qp,wR,cond_true]at b;rw[if_pos rfl];exact⟨V',f',σ',rfl,b,g⟩
  .have:Nat.beq id' id=false:=by
    cases hb:Nat.beq id' id
    .rfl
    .exact absurd (gt hb) d
   simp only[qp,this,cond_false]at b;rw[if_neg d];exact⟨V',f',σ',rfl,b,g⟩
 | normal=>exact⟨V',f',σ',rfl,b,g⟩
 | goto l=>exact⟨V',f',σ',rfl,b,g⟩
 | ret=>exact⟨V',f',σ',rfl,b,g⟩
 | panic ch=>exact⟨V',f',σ',rfl,b,g⟩
 | outgrown=>exact⟨V',f',σ',rfl,b,g⟩
def cE:Value->Option E
 | .slice none 0 0=>some (.o (.d (.l [])))
 | v=>bif RC v then some (.o (.d (.v v))) else none
def ev(f:Env):Operand->Option E
 | .tmp t=>f t
 | .const v=>cE v
 | .global _=>none
 | .func f=>some (.o (.fn f []))
theorem gj{V:View}{v:Value}{e:E}(h:cE v=some e):Bh V e v:=by
 unfold cE at h;split at h
 .injection h with h;subst h;exact .d .nil
 .cases a:RC v
  .rw[a]at h;cases h
  .rw[a]at h;injection h with h;subst h;exact .d (.v a)
theorem nS{V:View}{o:Oper}{f:Env}{a:Act}(h:JG V o f a){x:Operand}(d:x∈o.op.operands){e:E}(b:ev f x=some e):Bh V e (a.eval x):=by
 cases x with
 | tmp t=>exact h t e d b
 | const v=>exact gj b
 | global g=>cases b
 | func g=>
  injection b with b;subst b
  exact .fn rfl (λj c v i=>by simp at i)
theorem nR{V:View}{f:Env}{a:Act}(h:EA V f a.tmps){x:Operand}{e:E}(b:ev f x=some e):Bh V e (a.eval x):=by
 cases x with
 | tmp t=>exact h t e b
 | const v=>exact gj b
 | global g=>cases b
 | func g=>
  injection b with b;subst b
  exact .fn rfl (λj c v d=>by simp at d)
theorem Al.cond{c:Operand}{x y:Code}{b:Bool}(i:ev f c=some (.o (.d (.v (.bool b)))))(ht:b=true->Al P TB Γ N x Q f σ nx)(g:b=false->Al P TB Γ N y Q f σ nx) :
 Al P TB Γ N (.cond c x y) Q f σ nx:=by
 intro V a e;have j:a.eval c=.bool b:=AD.val (nR e.env i);exact wp_cond_split j (λh=>ht h V a e) (λh=>g h V a e)
theorem Al.region{id:Nat}(r:List (Nat×Nat))(e:HJ N ops=true)(d:r.map (·.1)=List.range ops.size)(h:Lex P TB Γ ops r (λf σ nx=>Q .normal f σ nx) f σ nx) :
 Al P TB Γ N (.region id ops false) Q f σ nx:=by
 intro V a b;refine wp_region ?_;rw[<-d];have c:=b.nx;subst c;exact Nx e (λV f σ a b hk=>⟨V,f,σ,rfl,hk,b⟩) r V f σ a b h
theorem OF(ops:Array Oper):GS ops (Array.replicate ops.size false):=by
 intro j a
 have:(Array.replicate ops.size false).getD j false=false:=by
  rcases uo j ops.size with h|h
  .simp[h]
  .simp[h]
 rw[this]at a;cases a
theorem Inv.drew{V:View}(h:Inv TB Γ V σ):Inv TB Γ { V with w:={ V.w with drawn:=V.w.drawn+1 } } σ/\Ext V { V with w:={ V.w with drawn:=V.w.drawn+1 } } := by
 have e:Ext V { V with w:={ V.w with drawn:=V.w.drawn+1 } } := ⟨λ_ h=>h,λ_ _=>rfl,jp _,λ_ _=>rfl,λ_ _=>rfl,λ_ _=>Iff.rfl,jp _⟩
 refine⟨⟨h.os,h.tape,h.output,h.old,h.iLt,h.iNew,h.ext.trans e,⟨λid o d=>?_,h.st.lt,h.st.free,h.st.inj⟩,h.live,h.tabs,h.hid.step (λ_ h=>h) (λ_ _=>rfl) (jp _) (λ_ _ _ _=>rfl) (λ_ h=>.inl h) (λb hb=>.inl (JQ e h.st.lt hb))⟩,e⟩;have a:=h.st.obj id o d
 cases o with
 | cells T k rows=>
  rcases a with a|⟨u,cur,t,s,q,p,n,m⟩
  .exact .inl a
  .exact .inr ⟨u,cur,t,s,q,p,n,λi r j c hi f=>let ⟨v,l,g⟩:=m i r j c hi f;⟨v,l,g.ext e⟩⟩
 | mp=>exact a
 | sld=>exact a
theorem Al.l8{id:Nat}(r:List (Nat×Nat))(i:P.follows .mixedOrders=true)(j:HJ N ops=true)(g:r.length=ops.size)(d:(Bq ops r (Array.replicate ops.size false) && Eo ops r)=true)
 (h:Lex P TB Γ ops r (λf σ nx=>Q .normal f σ nx) f σ nx):Al P TB Γ N (.region id ops true) Q f σ nx:=by
 intro V a b;rw[d4]at d;refine wp_region_any i ?_;obtain⟨l,k⟩:=b.inv.drew
 have c:Cw TB Γ N { V with w:={ V.w with drawn:=V.w.drawn+1 } } f σ V.nx a:=⟨b.env.ext k,b.lt,b.size,l,rfl,b.defers⟩
 have e:=b.nx;subst e;exact Nw j (λV f σ a b hk=>⟨V,f,σ,rfl,hk,b⟩) ops.size r _ { V with w:={ V.w with drawn:=V.w.drawn+1 } } f σ a g (OF ops) d.1 d.2 c h
theorem Al.loop{α:Type}{c:Code}(S:α->Env×Ac×Nat)(μ:α->Nat)(back:α->Env->Ac->Nat->Prop)
 (g:∀y f σ nx V a,back y f σ nx->Cw TB Γ N V f σ nx a->∃V',V'.w=V.w/\Cw TB Γ N V' (S y).1 (S y).2.1 (S y).2.2 a)
 (x:α) (u:back x f σ nx) (round:∀x,Al P TB Γ N c (Nm (λf σ nx=>∃y,μ y<μ x/\back y f σ nx) Q) (S x).1 (S x).2.1 (S x).2.2) :
 Al P TB Γ N (.loop c) Q f σ nx:=by
 intro V a o b k cs;have key:∀n y,μ y=n->∀V a,Cw TB Γ N V (S y).1 (S y).2.1 (S y).2.2 a->
  ∃e a' w',(∃V' f' σ',V'.w=w'/\Q e f' σ' V'.nx/\Cw TB Γ N V' f' σ' V'.nx a')/\Arrives P (lone (b.at a (.code c::.inLoop c::k)) cs V.w) b k cs e a' w':=by
  intro n
  induction n using Nat.strongRecOn with
  | _ n r=>
   intro y t V a o;obtain⟨e,a₁,w₁,p,d⟩:=round y V a o b (.inLoop c::k) cs;obtain⟨V',f',σ',rfl,i,h⟩:=p
   cases e with
   | normal=>
    obtain⟨z,s,hb⟩:=i;obtain⟨V'',q,j⟩:=g z f' σ' V'.nx V' a₁ hb h;obtain⟨e₂,a₂,w₂,hq₂,harr₂⟩:=r (μ z) (t▸s) z rfl V'' a₁ j;rw[q]at harr₂;exact⟨e₂,a₂,w₂,hq₂,.of_steps (Steps.trans d (.one step_inLoop)) harr₂⟩
   | exit id=>exact⟨_,a₁,_,⟨V',f',σ',rfl,i,h⟩,.pass (x:=.inLoop c) rfl (λ_ _=>.inl (by simp)) d⟩
   | goto l=>exact⟨_,a₁,_,⟨V',f',σ',rfl,i,h⟩,.pass (x:=.inLoop c) rfl (λ_ _=>.inl (by simp)) d⟩
   | ret=>exact⟨_,a₁,_,⟨V',f',σ',rfl,i,h⟩,.pass (x:=.inLoop c) rfl (λ_ _=>.inl (by simp)) d⟩
   | panic ch=>exact⟨_,a₁,_,⟨V',f',σ',rfl,i,h⟩,.pass (x:=.inLoop c) rfl (λ_ _=>.inl (by simp)) d⟩
   | outgrown=>exact⟨_,a₁,_,⟨V',f',σ',rfl,i,h⟩,.pass (x:=.inLoop c) rfl (λ_ _=>.inl (by simp)) d⟩
 obtain⟨V',q,m⟩:=g x f σ nx V a u o;obtain⟨e,a',w',p,d⟩:=key _ x rfl V' a m;rw[q]at d;exact⟨e,a',w',p,.of_steps (.one step_loop) d⟩
end
mutual
def C.A6(r:Nat->Nat):C->C
 | .d x=>.d x
 | .arr id k off len=>.arr (r id) k off len
 | .ptr id k i j=>.ptr (r id) k i j
 | .fn f cap=>.fn f (C.Ch r cap)
 | .mp id=>.mp (r id)
 | .mv f l=>.mv f (C.Ch r l)
def C.Ch(r:Nat->Nat):List C->List C
 | []=>[]
 | c::l=>C.A6 r c::C.Ch r l
end
mutual
def C.Cg:C->Bool
 | .d _=>true
 | .fn _ cap=>C.Db cap
 | .mv _ l=>C.Db l
 | _=>false
def C.Db:List C->Bool
 | []=>true
 | c::l=>c.Cg && C.Db l
end
def E.A6(r:Nat->Nat):E->E
 | .o c=>.o (c.A6 r)
 | .a cs=>.a (C.Ch r cs)
 | .t xs=>.t (xs.map λx=>(x.1,C.Ch r x.2))
 | .e=>.e
def E.Cg:E->Bool
 | .o c=>c.Cg
 | .a cs=>C.Db cs
 | .t xs=>xs.all λx=>C.Db x.2
 | .e=>true
def O.A6(r:Nat->Nat):O->O
 | .cells T k rows=>.cells T k (rows.map (C.Ch r))
 | .mp es=>.mp es
 | .sld T l=>.sld T l
theorem Fm(r:Nat->Nat):∀(l:List C) (j:Nat),(C.Ch r l)[j]?=(l[j]?).map (C.A6 r)
 | [],j=>by simp[C.Ch]
 | c::l,0=>by simp[C.Ch]
 | c::l,j+1=>by simpa[C.Ch]using Fm r l j
theorem CY(r:Nat->Nat):∀(l:List C),(C.Ch r l).length=l.length
 | []=>rfl
 | c::l=>by simp[C.Ch,CY r l]
theorem GB:∀(l:List C),C.Db l=true->∀(j:Nat) (c:C),l[j]?=some c->c.Cg=true
 | [],_,j,c,h=>by simp at h
 | x::l,hp,0,c,h=>by
  simp only[C.Db,d4]at hp;simp at h;subst h;exact hp.1
 | x::l,hp,j+1,c,h=>by
  simp only[C.Db,d4]at hp;exact GB l hp.2 j c (by simpa using h)
def View.A6(V:View)(r:Nat->Nat)(nx:Nat):View:={ V with ρ:=λi=>V.ρ (r i),cap:=λi=>V.cap (r i),nl:=λi=>V.nl (r i),nx:=nx }
theorem AD.A6{V:View}{r:Nat->Nat}{nx:Nat}(e:∀id,r id<V.nx->id<nx){n:C}{v:Value}(h:AD V n v):∀c,n=c.A6 r->AD (V.A6 r nx) c v:=by
 induction h with
 | d h=>intro c a;cases c<;>simp only[C.A6]at a<;>first|(injection a with a;subst a;exact .d h)|cases a
 | nil b k=>
  intro c a
  cases c<;>simp only[C.A6]at a<;>try cases a
  exact .nil (e _ b) k
 | arr b m k=>
  intro c a
  cases c<;>simp only[C.A6]at a<;>try cases a
  exact .arr (V:=V.A6 r nx) (e _ b) m k
 | ptr b m=>
  intro c a
  cases c<;>simp only[C.A6]at a<;>try cases a
  exact .ptr (V:=V.A6 r nx) (e _ b) m
 | fn b _ f=>
  intro c a
  cases c<;>simp only[C.A6]at a<;>try cases a
  rename_i cap;refine .fn (by rw[b,CY]) (λj c v i g=>f j (c.A6 r) v (by rw[Fm,i];rfl) g c rfl)
 | mp b=>
  intro c a
  cases c<;>simp only[C.A6]at a<;>try cases a
  exact .mp (V:=V.A6 r nx) (e _ b)
 | mv b _ f=>
  intro c a
  cases c<;>simp only[C.A6]at a<;>try cases a
  rename_i l;refine .mv (by rw[b,CY]) (λj c v i g=>f j (c.A6 r) v (by rw[Fm,i];rfl) g c rfl)
theorem AD.Cg{V V':View}(hI:V'.I=V.I)(g:V'.w=V.w){c:C}{v:Value}(h:AD V c v)(hp:c.Cg=true):AD V' c v:=by
 induction h with
 | d h=>exact .d (by rw[hI,g];exact h)
 | nil=>simp[C.Cg]at hp
 | arr=>simp[C.Cg]at hp
 | ptr=>simp[C.Cg]at hp
 | fn f _ b=>
  simp only[C.Cg]at hp;exact .fn f λj c v a e=>b j c v a e (GB _ hp j c a)
 | mp=>simp[C.Cg]at hp
 | mv f _ b=>
  simp only[C.Cg]at hp;exact .mv f λj c v a e=>b j c v a e (GB _ hp j c a)
theorem Df.A6{V:View}{r:Nat->Nat}{nx:Nat}(b:∀id,r id<V.nx->id<nx){cs:List C}{vs:Array Value}(h:Df V (C.Ch r cs) vs):Df (V.A6 r nx) cs vs:=
 ⟨by rw[h.1,CY],λj c v d a=>AD.A6 b (h.2 j (c.A6 r) v (by rw[Fm,d];rfl) a) c rfl⟩
theorem Df.Cg{V V':View}(hI:V'.I=V.I)(b:V'.w=V.w){cs:List C}{vs:Array Value}(h:Df V cs vs)(hp:C.Db cs=true):Df V' cs vs:=
 ⟨h.1,λj c v a d=>(h.2 j c v a d).Cg hI b (GB _ hp j c a)⟩
theorem NF.Cg{V V':View}(hI:V'.I=V.I)(e:V'.w=V.w){x:Bool×List C}{v:Value}(h:NF V x v)(hp:C.Db x.2=true):NF V' x v:=by
 obtain⟨b,cs⟩:=x;cases b
 .obtain⟨c,a,d⟩:=h
  have a:cs=[c]:=a;subst a;exact⟨c,rfl,d.Cg hI e (by simpa[C.Db]using hp)⟩
 .obtain⟨vs,a,d⟩:=h;exact⟨vs,a,d.Cg hI e hp⟩
theorem Bh.Cg{V V':View}(hI:V'.I=V.I)(d:V'.w=V.w){x:E}{v:Value}(h:Bh V x v)(hp:x.Cg=true):Bh V' x v:=by
 cases x with
 | o c=>exact AD.Cg hI d h hp
 | a cs=>obtain⟨vs,g,f⟩:=h;exact⟨vs,g,f.Cg hI d hp⟩
 | t xs=>
  obtain⟨vs,g,f,i⟩:=h;simp only[E.Cg,ge]at hp;exact⟨vs,g,f,λj x v a b=>(i j x v a b).Cg hI d (hp x (ce a))⟩
 | e=>exact h
theorem Bh.A6{V:View}{r:Nat->Nat}{nx:Nat}(f:∀id,r id<V.nx->id<nx){x:E}{v:Value}(h:Bh V (x.A6 r) v):Bh (V.A6 r nx) x v:=by
 cases x with
 | e=>exact h
 | o c=>exact AD.A6 f h c rfl
 | a cs=>obtain⟨vs,k,i⟩:=h;exact⟨vs,k,i.A6 f⟩
 | t xs =>
  obtain⟨vs,k,i,q⟩:=h;refine⟨vs,k,by rw[i];simp,λj x v a b=>?_⟩;have:=q j (x.1,C.Ch r x.2) v (by simp[a]) b;obtain⟨bb,cs⟩:=x;cases bb
  .obtain⟨c,d,g⟩:=this
   cases cs with
   | nil=>simp[C.Ch]at d
   | cons m l=>
    simp only[C.Ch,List.cons.injEq]at d;obtain⟨p,n⟩:=d
    cases l with
    | nil=>exact⟨m,rfl,AD.A6 f g m p.symm⟩
    | cons=>simp[C.Ch]at n
  .obtain⟨ws,d,g⟩:=this;exact⟨ws,d,g.A6 f⟩
def DG(r:Nat->Nat)(f:Env):List (Nat×E)->Prop
 | []=>True
 | (t,e)::L=>f t=some (e.A6 r)/\DG r f L
def AX(r:Nat->Nat)(σ:Ac):Ac->Prop
 | []=>True
 | (id,o)::L=>look σ (r id)=some (o.A6 r)/\AX r σ L
theorem DG.get{r:Nat->Nat}{f:Env}:∀ {L:List (Nat×E)},DG r f L->∀t e,look L t=some e->f t=some (e.A6 r)
 | [],_,t,e,h=>by cases h
 | (k,x)::L,a,t,e,h=>by
  rw[Ay]at h;by_cases hk:k=t
  .rw[if_pos hk]at h;injection h with h;subst h;subst hk;exact a.1
  .rw[if_neg hk]at h;exact a.2.get t e h
theorem AX.get{r:Nat->Nat}{σ:Ac}:∀ {L:Ac},AX r σ L->∀t e,look L t=some e->look σ (r t)=some (e.A6 r)
 | [],_,t,e,h=>by cases h
 | (k,x)::L,a,t,e,h=>by
  rw[Ay]at h;by_cases hk:k=t
  .rw[if_pos hk]at h;injection h with h;subst h;subst hk;exact a.1
  .rw[if_neg hk]at h;exact AX.get a.2 t e h
theorem CL.A6{V:View}{r:Nat->Nat}{nx:Nat}(d:∀id,r id<V.nx->id<nx){id:Nat}{o:O}(h:CL V (r id) (o.A6 r)):CL (V.A6 r nx) id o:=by
 cases o with
 | cells T k rows=>
  rcases h with ⟨s,a⟩|⟨t,cur,a,q,p,n,m,l⟩
  .exact .inl ⟨s,by simpa using a⟩
  .refine .inr ⟨t,cur,a,q,by simpa[View.A6]using p,n,λx b=>?_,λi x j c hi e=>?_⟩
   .have:=m (C.Ch r x) (d8.2 ⟨x,b,rfl⟩)
    rwa[CY]at this
   .obtain⟨v,g,f⟩:=l i (C.Ch r x) j (c.A6 r) (by simp[hi]) (by rw[Fm,e];rfl)
    exact⟨v,g,AD.A6 d f c rfl⟩
 | mp es=>exact h
 | sld=>exact h
theorem Cy{V:View}{r:Nat->Nat}{nx id:Nat}{o:O}{b:Nat}:Fb (V.A6 r nx) id o b↔Fb V (r id) (o.A6 r) b:=by
 cases o<;>exact Iff.rfl
section
variable {P:Program}{TB:BB}{Γ:Ctx}{N:Nat}
def nm(l:List Nat)(nx:Nat)(i:Nat):Nat:=match l[i]? with|some j=>j|none=>nx+i
theorem TH{l:List Nat}{nx id:Nat}(h:nm l nx id<nx):id<l.length:=by
 unfold nm at h;split at h
 .rename_i a;exact(am.1 a).1
 .omega
theorem Cw.A6{V:View}{f:Env}{σ:Ac}{nx:Nat}{a:Act}(h:Cw TB Γ N V f σ nx a)(l:List Nat)(L:List (Nat×E))(σ':Ac)
 (B:∀i,i<Γ.V.nx->l[i]?=some i) (u:l.Nodup) (G:DG (nm l nx) f L) (k:AX (nm l nx) σ σ'):∃V',V'.w=V.w/\Cw TB Γ N V' (look L) σ' l.length a:=by
 have r:=h.nx;subst r;have q:∀id,nm l V.nx id<V.nx->id<l.length:=λid=>TH
 have j:∀i,i<Γ.V.nx->nm l V.nx i=i:=λi hi=>by unfold nm;rw[B i hi]
 have g:∀id o,look σ' id=some o->id<l.length:=λid o c=>q id (h.inv.st.lt _ _ (AX.get k id o c))
 have e:Ext Γ.V (V.A6 (nm l V.nx) l.length):=by
  refine⟨h.inv.ext.i,h.inv.ext.heap,h.inv.ext.size,λi hi=>?_,λi hi=>?_,λi hi=>?_,?_⟩
  .show V.ρ (nm l V.nx i)=_
   rw[j i hi];exact h.inv.ext.ρ i hi
  .show V.cap (nm l V.nx i)=_
   rw[j i hi];exact h.inv.ext.cap i hi
  .show V.nl (nm l V.nx i)↔_
   rw[j i hi];exact h.inv.ext.nl i hi
  .show Γ.V.nx<=l.length
   rcases uP Γ.V.nx with H|H
   .omega
   .have:=(am.1 (B (Γ.V.nx-1) (by omega))).1;omega
 refine⟨V.A6 (nm l V.nx) l.length,rfl,⟨λt x p=>(h.env t _ (G.get t x p)).A6 q,λt x p=>h.lt t _ (G.get t x p),h.size,?_,rfl,h.defers⟩⟩
 refine⟨h.inv.os,h.inv.tape,h.inv.output,h.inv.old,h.inv.iLt,h.inv.iNew,e,⟨λid o c=>CL.A6 q (h.inv.st.obj _ _ (AX.get k id o c)),g,λid o c d b hb=>h.inv.st.free _ _ (AX.get k id o c) d b (Cy.1 hb),?_⟩,
  λid o c d b hb=>h.inv.live _ _ (AX.get k id o c) d b (Cy.1 hb),h.inv.tabs,h.inv.hid.same rfl (λ_ h=>h) (λ_ h=>.inl h) λb ⟨id,o,c,u,hb⟩=>⟨_,_,AX.get k id o c,u,Cy.1 hb⟩⟩
 intro id id' o o' c m s d n b hb v;refine h.inv.st.inj _ _ _ _ (AX.get k id o c) (AX.get k id' o' m) ?_ d n b (Cy.1 hb) (Cy.1 v);have A:=g id o c;have z:=g id' o' m;unfold nm;rw[d5 A,d5 z];simp only;intro F;have hp:=ro.1 u
 rcases wv s with y|y
 .exact hp _ _ A z y F
 .exact hp _ _ z A y F.symm
theorem Al.A0{c:Code}{Q:Exit->Env->Ac->Nat->Prop}{f:Env}{σ:Ac}{nx:Nat}{α:Type}(L:α->List (Nat×E))(S:α->Ac)(n:Nat)(μ:α->Nat)
 (x:α) (d:List Nat) (b:(∀i,i<Γ.V.nx->d[i]?=some i)/\d.Nodup/\d.length=n) (e:DG (nm d nx) f (L x)/\AX (nm d nx) σ (S x))
 (round:∀x,Al P TB Γ N c (Nm (λf σ nx=>∃y,μ y<μ x/\∃l:List Nat,(∀i,i<Γ.V.nx->l[i]?=some i)/\l.Nodup/\l.length=n/\DG (nm l nx) f (L y)/\AX (nm l nx) σ (S y)) Q) (look (L x)) (S x) n) :
 Al P TB Γ N (.loop c) Q f σ nx:=by
 refine Al.loop (α:=α) (λy=>(look (L y),S y,n)) μ (λy f σ nx=>∃l:List Nat,(∀i,i<Γ.V.nx->l[i]?=some i)/\l.Nodup/\l.length=n/\DG (nm l nx) f (L y)/\AX (nm l nx) σ (S y))
  ?_ x ⟨d,b.1,b.2.1,b.2.2,e.1,e.2⟩ round
 rintro y f σ nx V a ⟨l,p,o,m,k,j⟩ h;obtain⟨V',q,g⟩:=h.A6 l (L y) (S y) p o k j;exact⟨V',q,by rw[m]at g;exact g⟩
theorem Al.names{c:Code}{Q:Exit->Env->Ac->Nat->Prop}{f:Env}{σ:Ac}{nx:Nat}(l:List Nat)(L:List (Nat×E))(σ':Ac)
 (e:∀i,i<Γ.V.nx->l[i]?=some i) (d:l.Nodup) (j:DG (nm l nx) f L) (g:AX (nm l nx) σ σ') (h:Al P TB Γ N c Q (look L) σ' l.length):Al P TB Γ N c Q f σ nx:=by
 intro V a b;obtain⟨V',m,k⟩:=b.A6 l L σ' e d j g;have:=h V' a k;rw[m]at this;exact this
def O9(V:View)(args:List E)(vs:Array Value):Prop:=vs.size=args.length/\∀(j:Nat) e v,args[j]?=some e->vs[j]?=some v->Bh V e v
abbrev FO(V V0:View)(σ:Ac)(S:VS):Ctx:=⟨V0,λb=>DT V σ b\/S.B b,S.J⟩
structure Good (TB:BB) (V:View) (σ:Ac) (nx:Nat) (S:VS):Prop where
 iLt:∀b,V.I b->b<V.w.heap.size
 st:Il V σ
 tabs:∀x∈TB,V.I x.1/\V.w.heap[x.1]?=some x.2
 nx:V.nx=nx
 hid:Pc TB V σ S
def fK (P:Program) (f:FuncId):Prop:=∃fn,P.funcs[f]?=some fn/\(fn.name == "runtime.NumGoroutine")=false/\fn.body.isNone=false
def Spec(P:Program)(TB:BB)(g:FuncId)(σ:Ac)(nx:Nat)(args:List E)(post:E->Ac->Nat->Prop):Prop:=
 fK P g/\∀V vs S,Good TB V σ nx S->O9 V args vs->Calls P g vs V.w λe w'=>∃V' v x σ',e=.returned v/\V'.w=w'/\Inv TB (FO V V σ S) V' σ'/\Bh V' x v/\post x σ' V'.nx
def Pure(P:Program)(TB:BB)(g:FuncId)(args:List E)(r:E):Prop:=Spec P TB g [] 0 args (λx _ _=>x=r)
theorem Good.inv{V:View}{σ:Ac}{nx:Nat}{S:VS}(h:Good TB V σ nx S):Inv TB (FO V V σ S) V σ:=
 ⟨rfl,rfl,rfl,λ_ _ _=>rfl,h.iLt,λ_ h=>.inl h,Ext.refl _,h.st,λid o c a b hb=>.inr (.inl ⟨id,o,c,a,hb⟩),h.tabs,⟨S,h.hid,λb hb=>.inl hb,λb hb=>.inr (.inr hb)⟩⟩
def Cs:Nat->List E->List (Nat×E)
 | _,[]=>[]
 | k,e::l=>(k,e)::Cs (k+1) l
theorem Cm:∀(l:List E) (k t:Nat) (e:E),look (Cs k l) t=some e->k<=t/\l[t-k]?=some e
 | [],_,_,_,h=>by cases h
 | x :: l,k,t,e,h=>by
  simp only[Cs]at h;rw[Ay]at h;by_cases hk:k=t
  .rw[if_pos hk]at h;injection h with h;subst h;subst hk;simp
  .rw[if_neg hk]at h
   obtain⟨b,a⟩:=Cm l (k+1) t e h;refine⟨by omega,?_⟩
   have:t-k=(t-(k+1))+1:=by omega
   rw[this];simpa using a
def Of:E->Option (Bool×List C)
 | .o c=>some (false,[c])
 | .a cs=>some (true,cs)
 | .t _=>none
 | .e=>none
theorem GA{V:View}{e:E}{x:Bool×List C}{v:Value}(h:Of e=some x)(b:Bh V e v):NF V x v:=by
 cases e with
 | o c=>injection h with h;subst h;exact⟨c,rfl,b⟩
 | a cs=>injection h with h;subst h;exact b
 | t=>cases h
 | e=>cases h
def l9(rs:Array ResultVar)(f:Env):Option E:=
 match rs.toList with
 | []=>some (.t [])
 | [.tmp t]=>f t
 | [.tmp t,.tmp u]=>(f t).bind λx=>(f u).bind λy=>(Of x).bind λx=>(Of y).map λy=>.t [x,y]
 | [.tmp t,.tmp u,.tmp s]=>(f t).bind λx=>(f u).bind λy=>(f s).bind λz=>(Of x).bind λx=>(Of y).bind λy=>(Of z).map λz=>.t [x,y,z]
 | _=>none
def pP(rs:Array ResultVar)(post:E->Ac->Nat->Prop):Exit->Env->Ac->Nat->Prop
 | .ret,f,σ,nx|.normal,f,σ,nx=>∃x,l9 rs f=some x/\post x σ nx
 | _,_,_,_=>False
theorem cD{fn:Func}{V:View}{f:Env}{a:Act}{x:E}{w:World}(d:EA V f a.tmps)(h:l9 fn.results f=some x):∃v,(results fn a.tmps).run P w=.ok v w/\Bh V x v:=by
 have key:∀l:List ResultVar,fn.results=l.toArray->l9 l.toArray f=some x->∃v,(results fn a.tmps).run P w=.ok v w/\Bh V x v:=by
  intro l e h;unfold l9 at h;simp only at h;split at h
  .injection h with h;subst h
   refine⟨.tuple #[],by simp[results,e,go_sem],⟨#[],rfl,rfl,λj x v b=>by simp at b⟩⟩
  .rename_i t
   exact⟨_,by simp[results,e,go_sem],d t x h⟩
  .rename_i t u
   simp only[pu,d7]at h;obtain⟨y,k,z,g,p,hp,q,m,rfl⟩:=h;refine⟨.tuple #[a.tmps.getD t undef,a.tmps.getD u undef],by simp[results,e,go_sem],⟨_,rfl,rfl,?_⟩⟩;intro j x v b c
   match j with
   | 0=>simp at b c;subst b c;exact GA hp (by simpa using d t y k)
   | 1=>simp at b c;subst b c;exact GA m (by simpa using d u z g)
   | j+2=>simp at b
  .rename_i t u s
   simp only[pu,d7]at h;obtain⟨y,k,z,g,o,i,p,hp,q,m,r,n,rfl⟩:=h;refine⟨.tuple #[a.tmps.getD t undef,a.tmps.getD u undef,a.tmps.getD s undef],by simp[results,e,go_sem],⟨_,rfl,rfl,?_⟩⟩;intro j x v b c
   match j with
   | 0=>simp at b c;subst b c;exact GA hp (by simpa using d t y k)
   | 1=>simp at b c;subst b c;exact GA m (by simpa using d u z g)
   | 2=>simp at b c;subst b c;exact GA n (by simpa using d s o i)
   | j+3=>simp at b
  .cases h
 exact key fn.results.toList (by simp) (by simpa using h)
theorem Spec.of {g:FuncId} {fn:Func} {c:Code} {σ:Ac} {nx:Nat} {args:List E} {post:E->Ac->Nat->Prop} (p:P.funcs[g]?=some fn) (hb:fn.body=some c) (d:(fn.name == "runtime.NumGoroutine")=false)
 (j:args.length<=fn.ntmps) (h:∀Γ:Ctx,Γ.V.nx=nx->Al P TB Γ fn.ntmps c (pP fn.results post) (look (Cs 0 args)) σ nx):Spec P TB g σ nx args post:=by
 refine⟨⟨fn,p,d,by rw[hb];rfl⟩,?_⟩;intro V vs S o ha;refine calls_of_wp p hb ?_
 have s:vs.size<=fn.ntmps:=by rw[ha.1];exact j
 have q:Cw TB (FO V V σ S) fn.ntmps V (look (Cs 0 args)) σ nx { tmps:=vs++Array.replicate (fn.ntmps-vs.size) undef,defers:=[] } := by
  refine⟨?_,?_,by simp;omega,o.inv,o.nx,rfl⟩
  .intro t e i
   obtain⟨_,b⟩:=Cm args 0 t e i
   have b:args[t]?=some e:=by simpa using b
   have f:t<vs.size:=by rw[ha.1];exact(am.1 b).1
   have r:=ha.2 t e vs[t] b (pm f)
   simpa[t9 f,f]using r
  .intro t e i
   obtain⟨_,b⟩:=Cm args 0 t e i
   have b:args[t]?=some e:=by simpa using b
   have:=(am.1 b).1;omega
 refine wp_mono (h (FO V V σ S) o.nx V _ q) ?_;rintro e a' w' ⟨V',f',σ',rfl,k,a⟩
 cases e with
 | normal=>
  obtain⟨x,m,hp⟩:=k;obtain⟨v,n,i⟩:=cD (P:=P) (w:=V'.w) a.env m;exact⟨a.defers,v,n,V',v,x,σ',rfl,rfl,a.inv,i,hp⟩
 | ret=>
  obtain⟨x,m,hp⟩:=k;obtain⟨v,n,i⟩:=cD (P:=P) (w:=V'.w) a.env m;exact⟨a.defers,v,n,V',v,x,σ',rfl,rfl,a.inv,i,hp⟩
 | exit id=>exact k.elim
 | goto l=>exact k.elim
 | panic ch=>exact k.elim
 | outgrown=>exact k.elim
end
def Ze:TypeDesc->Bool
 | .struct _|.array _ _=>true
 | _=>false
def oc(P:Program)(t:TypeId):Option (Bool×Nat):=match P.underlying t,P.info? t with
 | some d,some i=>some (Ze d,i.size)
 | _,_=>none
def dJ(P:Program)(s k:Nat):Option Nat:=match P.underlying s with
 | some (.struct fs)=>match fs[k]? with
  | some f=>match P.info? f.type with
   | some i=>bif Nat.beq i.size 0 then none else some f.offset
   | none=>none
  | none=>none
 | _=>none
def dK(P:Program)(s k:Nat):Option (Nat×Bool×Nat):=match P.underlying s with
 | some (.struct fs)=>match fs[k]? with
  | some f=>(oc P f.type).map λx=>(f.offset,x)
  | none=>none
 | _=>none
def nc(P:Program)(t:TypeId):Option (TypeId×Nat×Nat):=match P.underlying t with
 | some (.slice e)=>(P.info? e).map λi=>(e,i.size,i.bytes)
 | _=>none
def pX(P:Program)(t:TypeId):Option (Nat×Nat):=match P.underlying t with
 | some (.array n e)=>(P.info? e).map λi=>(n,i.size)
 | _=>none
def fy(P:Program)(t:TypeId):Option (List Value):=(P.info? t).bind λi=>i.zero.map λz=>z.cells.toList
class D0 (P:Program) (t:TypeId) (ag:outParam Bool) (k:outParam Nat):Prop where
 out:oc P t=some (ag,k)
class Ub (P:Program) (s k:Nat) (off:outParam Nat):Prop where
 out:dJ P s k=some off
class Pq (P:Program) (s k:Nat) (off:outParam Nat) (ag:outParam Bool) (n:outParam Nat):Prop where
 out:dK P s k=some (off,ag,n)
class Dp (P:Program) (t:TypeId) (e:outParam TypeId) (k b:outParam Nat):Prop where
 out:nc P t=some (e,k,b)
class SW (P:Program) (t:TypeId) (n k:outParam Nat):Prop where
 out:pX P t=some (n,k)
class BP (P:Program) (t:TypeId) (z:outParam (List Value)):Prop where
 out:fy P t=some z
class De (P:Program) (t:TypeId):Prop where
 out:P.underlying t=some .string
class He (P:Program) (t:TypeId) (k:outParam IntKind):Prop where
 out:P.underlying t=some (.int k)
theorem og{P:Program}{t:TypeId}{ag:Bool}{k:Nat}(h:oc P t=some (ag,k)):∃d i,P.underlying t=some d/\Ze d=ag/\P.info? t=some i/\i.size=k:=by
 unfold oc at h;split at h
 .rename_i d i a hi
  injection h with h;injection h with c b
  exact⟨d,i,a,c,hi,b⟩
 .cases h
theorem BI{P:Program}{t:TypeId}{ag:Bool}{k:Nat}(h:oc P t=some (ag,k))(w:World):(isAgg t).run P w=.ok ag w/\(sizeOf t).run P w=.ok k w:=by
 obtain⟨d,i,e,c,b,a⟩:=og h;constructor
 .subst c
  cases d<;>simp[isAgg,run_underlying e,Ze,go_sem]
 .simp[sizeOf,typeInfo,b,a,go_sem]
theorem HA{P:Program}{t e:TypeId}{k b:Nat}(h:nc P t=some (e,k,b)):∃i,P.underlying t=some (.slice e)/\P.info? e=some i/\i.size=k/\i.bytes=b:=by
 unfold nc at h;split at h
 .rename_i e' c
  simp only[d7]at h;obtain⟨i,hi,h⟩:=h
  injection h with f a;injection a with a d
  subst f a d;exact⟨i,c,hi,rfl,rfl⟩
 .cases h
theorem YS{P:Program}{t:TypeId}{n k:Nat}(h:pX P t=some (n,k)):∃e i,P.underlying t=some (.array n e)/\P.info? e=some i/\i.size=k:=by
 unfold pX at h;split at h
 .rename_i n' e' a
  simp only[d7]at h;obtain⟨i,hi,h⟩:=h
  injection h with c b
  subst c b;exact⟨e',i,a,hi,rfl⟩
 .cases h
theorem BG(b o n:Nat):(⟨b,o,none⟩:Addr).add n=⟨b,o+n,none⟩:=by
 unfold Addr.add;split<;>simp_all
section
variable {P:Program}{TB:BB}{Γ:Ctx}{d:Option Tmp}{ty:TypeId}{pos:String}{af:Array Edge}{g:Option (Nat×Bool)}{f:Env}{σ:Ac}{nx:Nat}
def OC(V:View)(o:Oper)(f:Env)(ρ:Operand->Value):Prop:=∀x e,x∈o.op.operands->ev f x=some e->Bh V e (ρ x)
theorem JG.HK{V:View}{o:Oper}{f:Env}{a:Act}(h:JG V o f a):OC V o f a.eval:=λ_ _ b c=>Am.nS h b c
theorem OC.get{V:View}{o:Oper}{f:Env}{ρ:Operand->Value}(h:OC V o f ρ){x:Operand}(a:x∈o.op.operands){e:E}(b:ev f x=some e):Bh V e (ρ x):=h x e a b
theorem AK{o:Oper}{x:E}(h:∀V ρ,OC V o f ρ->Inv TB Γ V σ->∃v,(execOp ρ o).run P V.w=.ok (.value v) V.w/\Bh V x v):A5 P TB Γ o f σ nx x:=by
 intro V a g b e;obtain⟨v,c,d⟩:=h V a.eval g.HK b;unfold Oper.wp;rw[c];exact⟨V,v,rfl,rfl,Ext.refl V,b,e,d⟩
theorem oU{x:Operand}{e:E}(a:ev f x=some e):A5 P TB Γ ⟨d,.move x,ty,pos,af,g⟩ f σ nx e:=
 AK λV ρ b _=>⟨ρ x,by simp[execOp,go_sem],b.get (by simp[Op.operands]) a⟩
theorem CM{x:Operand}{e:E}(a:ev f x=some e):A5 P TB Γ ⟨d,.assign x,ty,pos,af,g⟩ f σ nx e:=
 AK λV ρ b _=>⟨ρ x,by simp[execOp,go_sem],b.get (by simp[Op.operands]) a⟩
theorem l6{c x y:Operand}{e:E}(h:ev f c=some (.o (.d (.v (.bool true)))))(b:ev f x=some e):A5 P TB Γ ⟨d,.pick c x y,ty,pos,af,g⟩ f σ nx e:=
 AK λV ρ a _=>⟨ρ x,by
  have i:ρ c=.bool true:=AD.val (a.get (by simp[Op.operands]) h)
  simp[execOp,i,asBool,go_sem],a.get (by simp[Op.operands]) b⟩
theorem l5{c x y:Operand}{e:E}(h:ev f c=some (.o (.d (.v (.bool false)))))(b:ev f y=some e):A5 P TB Γ ⟨d,.pick c x y,ty,pos,af,g⟩ f σ nx e:=
 AK λV ρ a _=>⟨ρ y,by
  have i:ρ c=.bool false:=AD.val (a.get (by simp[Op.operands]) h)
  simp[execOp,i,asBool,go_sem],a.get (by simp[Op.operands]) b⟩
abbrev eI(k:IntKind)(n:Int):E:=.o (.d (.v (.int k n)))
abbrev eB(b:Bool):E:=.o (.d (.v (.bool b)))
abbrev eS(s:ByteArray):E:=.o (.d (.v (.string s)))
theorem BM{op:BinOp}{t yt:TypeId}{x y:Operand}{vx vy v:Value}(c:ev f x=some (.o (.d (.v vx))))(b:ev f y=some (.o (.d (.v vy))))(e:RC v=true)
 (h:∀w,((do eqGuard op t x y vx vy;binOp op t vx vy:Sem Value)).run P w=.ok v w):A5 P TB Γ ⟨d,.binOp op t x y yt,ty,pos,af,g⟩ f σ nx (.o (.d (.v v))):=
 AK λV ρ a _=>⟨v,by
  have j:ρ x=vx:=AD.val (a.get (by simp[Op.operands]) c);have i:ρ y=vy:=AD.val (a.get (by simp[Op.operands]) b);have:=h V.w;simp only[execOp,j,i,pp]at this |-
  rw[this];rfl,.d (.v e)⟩
theorem qI{t yt:TypeId}{x y:Operand}{k:IntKind}{m n z:Int}(c:ev f x=some (eI k m))(b:ev f y=some (eI k n))(a:k.wrap (m+n)=z) :
 A5 P TB Γ ⟨d,.binOp .add t x y yt,ty,pos,af,g⟩ f σ nx (eI k z):=BM c b rfl λw=>by subst a;simp[eqGuard,binOp,Op.intArith,go_sem]
theorem q7{t yt:TypeId}{x y:Operand}{k:IntKind}{m n z:Int}(c:ev f x=some (eI k m))(b:ev f y=some (eI k n))(a:k.wrap (m-n)=z) :
 A5 P TB Γ ⟨d,.binOp .sub t x y yt,ty,pos,af,g⟩ f σ nx (eI k z):=BM c b rfl λw=>by subst a;simp[eqGuard,binOp,Op.intArith,go_sem]
theorem m9{t yt:TypeId}{x y:Operand}{k:IntKind}{m n z:Int}(c:ev f x=some (eI k m))(b:ev f y=some (eI k n))(a:k.wrap (m*n)=z) :
 A5 P TB Γ ⟨d,.binOp .mul t x y yt,ty,pos,af,g⟩ f σ nx (eI k z):=BM c b rfl λw=>by subst a;simp[eqGuard,binOp,Op.intArith,go_sem]
theorem qY{t yt:TypeId}{x y:Operand}{k:IntKind}{m n z:Int}(c:ev f x=some (eI k m))(b:ev f y=some (eI k n))(e:n≠0)(a:k.wrap (m.tdiv n)=z) :
 A5 P TB Γ ⟨d,.binOp .quo t x y yt,ty,pos,af,g⟩ f σ nx (eI k z):=BM c b rfl λw=>by subst a;simp[eqGuard,binOp,Op.intDiv,e,go_sem]
theorem qZ{t yt:TypeId}{x y:Operand}{k:IntKind}{m n z:Int}(c:ev f x=some (eI k m))(b:ev f y=some (eI k n))(e:n≠0)(a:m.tmod n=z) :
 A5 P TB Γ ⟨d,.binOp .rem t x y yt,ty,pos,af,g⟩ f σ nx (eI k z):=BM c b rfl λw=>by subst a;simp[eqGuard,binOp,Op.intDiv,e,go_sem]
theorem jt{t yt:TypeId}{x y:Operand}{k k':IntKind}{m n z:Int}(c:ev f x=some (eI k m))(b:ev f y=some (eI k' n))(e:0<=n)(a:k.wrap (m*2 ^ (min n.toNat k.bits))=z) :
 A5 P TB Γ ⟨d,.binOp .shl t x y yt,ty,pos,af,g⟩ f σ nx (eI k z):=BM c b rfl λw=>by
  have:¬n<0:=by omega
  subst a;simp[eqGuard,binOp,Op.shift,this,go_sem]
theorem q6{t yt:TypeId}{x y:Operand}{k k':IntKind}{m n z:Int}(c:ev f x=some (eI k m))(b:ev f y=some (eI k' n))(e:0<=n)(a:m.fdiv (2 ^ (min n.toNat k.bits))=z) :
 A5 P TB Γ ⟨d,.binOp .shr t x y yt,ty,pos,af,g⟩ f σ nx (eI k z):=BM c b rfl λw=>by
  have:¬n<0:=by omega
  subst a;simp[eqGuard,binOp,Op.shift,this,go_sem]
def GL(k:IntKind)(m n:Int):Int:=k.wrap ((BitVec.ofInt k.bits m &&& BitVec.ofInt k.bits n).toNat)
def GY(k:IntKind)(m n:Int):Int:=k.wrap ((BitVec.ofInt k.bits m ||| BitVec.ofInt k.bits n).toNat)
def Zc(k:IntKind)(m n:Int):Int:=k.wrap ((BitVec.ofInt k.bits m ^^^ BitVec.ofInt k.bits n).toNat)
def HO(k:IntKind)(m n:Int):Int:=k.wrap ((BitVec.ofInt k.bits m &&& ~~~ BitVec.ofInt k.bits n).toNat)
theorem m7{t yt:TypeId}{x y:Operand}{k:IntKind}{m n z:Int}(c:ev f x=some (eI k m))(b:ev f y=some (eI k n))(a:GL k m n=z) :
 A5 P TB Γ ⟨d,.binOp .and t x y yt,ty,pos,af,g⟩ f σ nx (eI k z):=BM c b rfl λw=>by subst a;simp[eqGuard,binOp,Op.intBits,GL,go_sem]
theorem oW{t yt:TypeId}{x y:Operand}{k:IntKind}{m n z:Int}(c:ev f x=some (eI k m))(b:ev f y=some (eI k n))(a:GY k m n=z) :
 A5 P TB Γ ⟨d,.binOp .or t x y yt,ty,pos,af,g⟩ f σ nx (eI k z):=BM c b rfl λw=>by subst a;simp[eqGuard,binOp,Op.intBits,GY,go_sem]
theorem q8{t yt:TypeId}{x y:Operand}{k:IntKind}{m n z:Int}(c:ev f x=some (eI k m))(b:ev f y=some (eI k n))(a:Zc k m n=z) :
 A5 P TB Γ ⟨d,.binOp .xor t x y yt,ty,pos,af,g⟩ f σ nx (eI k z):=BM c b rfl λw=>by subst a;simp[eqGuard,binOp,Op.intBits,Zc,go_sem]
theorem jb{t yt:TypeId}{x y:Operand}{k:IntKind}{m n z:Int}(c:ev f x=some (eI k m))(b:ev f y=some (eI k n))(a:HO k m n=z) :
 A5 P TB Γ ⟨d,.binOp .andNot t x y yt,ty,pos,af,g⟩ f σ nx (eI k z):=BM c b rfl λw=>by subst a;simp[eqGuard,binOp,Op.intBits,HO,go_sem]
theorem qT{t yt:TypeId}{x y:Operand}{k:IntKind}{m n:Int}(b:ev f x=some (eI k m))(a:ev f y=some (eI k n)) :
 A5 P TB Γ ⟨d,.binOp .lss t x y yt,ty,pos,af,g⟩ f σ nx (eB (decide (m<n))):=BM b a rfl λw=>by simp[eqGuard,binOp,Op.intCmp,go_sem]
theorem qS{t yt:TypeId}{x y:Operand}{k:IntKind}{m n:Int}(b:ev f x=some (eI k m))(a:ev f y=some (eI k n)) :
 A5 P TB Γ ⟨d,.binOp .leq t x y yt,ty,pos,af,g⟩ f σ nx (eB (decide (m<=n))):=BM b a rfl λw=>by simp[eqGuard,binOp,Op.intCmp,go_sem]
theorem qQ{t yt:TypeId}{x y:Operand}{k:IntKind}{m n:Int}(b:ev f x=some (eI k m))(a:ev f y=some (eI k n)) :
 A5 P TB Γ ⟨d,.binOp .gtr t x y yt,ty,pos,af,g⟩ f σ nx (eB (decide (n<m))):=BM b a rfl λw=>by simp[eqGuard,binOp,Op.intCmp,go_sem]
theorem qP{t yt:TypeId}{x y:Operand}{k:IntKind}{m n:Int}(b:ev f x=some (eI k m))(a:ev f y=some (eI k n)) :
 A5 P TB Γ ⟨d,.binOp .geq t x y yt,ty,pos,af,g⟩ f σ nx (eB (decide (n<=m))):=BM b a rfl λw=>by simp[eqGuard,binOp,Op.intCmp,go_sem]
theorem qN{t yt:TypeId}{x y:Operand}{k:IntKind}{m n:Int}(b:ev f x=some (eI k m))(a:ev f y=some (eI k n)) :
 A5 P TB Γ ⟨d,.binOp .eql t x y yt,ty,pos,af,g⟩ f σ nx (eB (decide (m=n))):=BM b a rfl λw=>by simp[eqGuard,binOp,Op.intCmp,go_sem];rfl
theorem qW{t yt:TypeId}{x y:Operand}{k:IntKind}{m n:Int}(b:ev f x=some (eI k m))(a:ev f y=some (eI k n)) :
 A5 P TB Γ ⟨d,.binOp .neq t x y yt,ty,pos,af,g⟩ f σ nx (eB (decide (m≠n))):=BM b a rfl λw=>by
  simp[eqGuard,binOp,Op.intCmp,go_sem];by_cases h:m=n<;>simp[h]
theorem qX{t:TypeId}{x:Operand}{b:Bool}(a:ev f x=some (eB b)):A5 P TB Γ ⟨d,.unOp .not t x,ty,pos,af,g⟩ f σ nx (eB (!b)):=
 AK λV ρ e _=>⟨.bool (!b),by
  have c:ρ x=.bool b:=AD.val (e.get (by simp[Op.operands]) a)
  simp[execOp,c,Op.unary,go_sem],.d (.v rfl)⟩
theorem XI{t:TypeId}{x:Operand}{k:IntKind}{m z:Int}(b:ev f x=some (eI k m))(a:k.wrap (-m)=z):A5 P TB Γ ⟨d,.unOp .neg t x,ty,pos,af,g⟩ f σ nx (eI k z):=
 AK λV ρ e _=>⟨.int k z,by
  have c:ρ x=.int k m:=AD.val (e.get (by simp[Op.operands]) b);subst a
  simp[execOp,c,Op.unary,go_sem],.d (.v rfl)⟩
theorem Vj{s t:TypeId}{x:Operand}{k k':IntKind}{m z:Int}[c:He P s k][ht:He P t k'](b:ev f x=some (eI k m))(a:k'.wrap m=z):A5 P TB Γ ⟨d,.convert s t x,ty,pos,af,g⟩ f σ nx (eI k' z):=
 AK λV ρ h _=>⟨.int k' z,by
  have e:ρ x=.int k m:=AD.val (h.get (by simp[Op.operands]) b);subst a
  simp[execOp,e,convert,run_underlying c.out,run_underlying ht.out,Conv.intToInt,go_sem],.d (.v rfl)⟩
theorem eF{s k off:Nat}{x:Operand}{cs:List D}[u:Ub P s k off](q:ev f x=some (.o (.ip cs))):A5 P TB Γ ⟨d,.fieldAddr s x k,ty,pos,af,g⟩ f σ nx (.o (.ip (cs.drop off))):=
 AK λV ρ z _=>by
  have h:=z.get (by simp[Op.operands]) q;generalize r:ρ x=v at h;obtain⟨h⟩:=h
  cases h with
  | @p _ b o vs hb y w=>
   have a:=u.out;unfold dJ at a;split at a
   .rename_i fs t
    split at a
    .rename_i fl n
     split at a
     .rename_i i hi
      cases c:Nat.beq i.size 0
      .rw[c]at a
       simp only[cond_false,Option.some.injEq]at a;subst a
       have l:i.size≠0:=λe=>by rw[e]at c;cases c
       refine⟨.pointer (some ⟨b,o+fl.offset,none⟩),?_,.ip (vs:=λj=>vs (fl.offset+j)) hb (λj d m=>?_) (λj d m=>?_)⟩
       .simp[execOp,r,Instr.fieldAt,run_underlying t,n,Instr.sureAddr,fieldPlace,sizeOf,typeInfo,hi,l,BG,go_sem]
       .rw[uu];exact y _ d (by simpa using m)
       .exact w _ d (by simpa using m)
      .rw[c]at a;cases a
     .cases a
    .cases a
   .cases a
theorem XF{t:TypeId}{x:Operand}{c:D}{cs:List D}{n:Nat}[j:D0 P t false n](h:ev f x=some (.o (.ip (c::cs)))):A5 P TB Γ ⟨d,.load t x,ty,pos,af,g⟩ f σ nx (.o (.d c)):=
 AK λV ρ m _=>by
  have a:=m.get (by simp[Op.operands]) h;generalize i:ρ x=v at a;obtain⟨a⟩:=a
  cases a with
  | @p _ b o vs hb l k=>
   have e:=l 0 c rfl;refine⟨vs 0,?_,.d (k 0 c rfl)⟩;simp only[wF]at e;simp[execOp,i,Instr.loadAt,Instr.sureAddr,loadVar,(BI j.out V.w).1,e,go_sem]
theorem eJ{t:TypeId}{x:Operand}{cs:List D}{n:Nat}[m:D0 P t true n](q:ev f x=some (.o (.ip cs)))(A:n<=cs.length):A5 P TB Γ ⟨d,.load t x,ty,pos,af,g⟩ f σ nx (.a ((cs.take n).map .d)):=
 AK λV ρ z _=>by
  have h:=z.get (by simp[Op.operands]) q;generalize r:ρ x=v at h;obtain⟨h⟩:=h
  cases h with
  | @p _ b o vs hb u s=>
   refine⟨.agg ((List.range n).map vs).toArray,?_,((List.range n).map vs).toArray,rfl,by simp;omega,?_⟩
   .have:(loadCells ⟨b,o,none⟩ n).run P V.w=.ok ((List.range n).map vs).toArray V.w:=run_loadCells V.w _ n vs λj l=>by
     rw[BG];exact u j cs[j] (d5 (by omega))
    unfold loadCells at this;simp[execOp,r,Instr.loadAt,Instr.sureAddr,loadVar,(BI m.out V.w).1,(BI m.out V.w).2,this,go_sem]
   .intro j c v l i
    simp only[f9,d7]at l;obtain⟨y,e,rfl⟩:=l;rw[uk]at e;split at e
    .rename_i k
     have:vs j=v:=by simpa[k]using i
     subst this;exact .d (s j y e)
    .cases e
theorem jh{t e:TypeId}{x y:Operand}{rows:List (List D)}{row:List D}{n:Int}{k b:Nat}{ik:IntKind}[A:Dp P t e k b](r:ev f x=some (.o (.d (.l rows))))(q:ev f y=some (eI ik n))
 (J:0<=n) (a:rows[n.toNat]?=some row) (hk:row.length=k):A5 P TB Γ ⟨d,.indexAddr t x y,ty,pos,af,g⟩ f σ nx (.o (.ip row)):=
 AK λV ρ p _=>by
  have c:=p.get (by simp[Op.operands]) r;have I:ρ y=.int ik n:=AD.val (p.get (by simp[Op.operands]) q);generalize s:ρ x=v at c;obtain⟨i,u,hi,w,_⟩:=HA A.out
  cases c with
  | d c=>
   cases c with
   | nil=>simp at a
   | e=>simp at a
   | @l _ b o k' cap vs hb K H G F B=>
    have z:=(am.1 a).1
    have h:k'=k:=by rw[<-G _ _ a,hk]
    subst h;refine⟨.pointer (some ⟨b,o+n.toNat*k',none⟩),?_,.ip (vs:=vs n.toNat) hb (λj d m=>F _ _ j d a m) (λj d m=>B _ _ j d a m)⟩
    have:n<(rows.length:Int):=by omega
    simp[execOp,s,I,Instr.indexAt,asIntOf,run_underlying u,J,this,sizeOf,typeInfo,hi,w,BG,go_sem]
theorem eH{t:TypeId}{x y:Operand}{cs:List D}{n:Int}{len k:Nat}{ik:IntKind}[w:SW P t len k](m:ev f x=some (.o (.ip cs)))(l:ev f y=some (eI ik n))
 (F:0<=n) (u:n<len):A5 P TB Γ ⟨d,.indexAddr t x y,ty,pos,af,g⟩ f σ nx (.o (.ip (cs.drop (n.toNat*k)))):=
 AK λV ρ h _=>by
  have a:=h.get (by simp[Op.operands]) m;have B:ρ y=.int ik n:=AD.val (h.get (by simp[Op.operands]) l);generalize q:ρ x=v at a;obtain⟨e,i,r,hi,s⟩:=YS w.out;obtain⟨a⟩:=a
  cases a with
  | @p _ b o vs hb A z=>
   refine⟨.pointer (some ⟨b,o+n.toNat*k,none⟩),?_,.ip (vs:=λj=>vs (n.toNat*k+j)) hb (λj d c=>?_) (λj d c=>?_)⟩
   .simp[execOp,q,B,Instr.indexAt,asIntOf,run_underlying r,Instr.sureAddr,F,u,sizeOf,typeInfo,hi,s,BG,go_sem]
   .rw[uu];exact A _ d (by simpa using c)
   .exact z _ d (by simpa using c)
theorem jk{t:TypeId}{x y:Operand}{s:ByteArray}{n:Int}{ik:IntKind}[h:De P t](e:ev f x=some (eS s))(c:ev f y=some (eI ik n))
 (k:0<=n) (a:n.toNat<s.size):A5 P TB Γ ⟨d,.index t x y,ty,pos,af,g⟩ f σ nx (eI .u8 ((s[n.toNat]'a).toNat:Int)):=
 AK λV ρ b _=>by
  have j:ρ x=.string s:=AD.val (b.get (by simp[Op.operands]) e);have i:ρ y=.int ik n:=AD.val (b.get (by simp[Op.operands]) c);refine⟨.int .u8 ((s[n.toNat]'a).toNat:Int),?_,.d (.v rfl)⟩;simp[execOp,j,i,Instr.index,asIntOf,run_underlying h.out,k,a,go_sem]
theorem oS{t:TypeId}{x:Operand}{s:ByteArray}[b:De P t](a:ev f x=some (eS s)):A5 P TB Γ ⟨d,.call ⟨.builtin .len,#[x],#[t]⟩,ty,pos,af,g⟩ f σ nx (eI .i64 s.size):=
 AK λV ρ e _=>by
  have c:ρ x=.string s:=AD.val (e.get (by simp[Op.operands,Call.operands]) a);refine⟨.int .i64 s.size,?_,.d (.v rfl)⟩;simp[execOp,resolve,invoke,builtin,c,Builtin.len_,run_underlying b.out,goInt,go_sem]
theorem jm{t e:TypeId}{x:Operand}{rows:List (List D)}{k b:Nat}[m:Dp P t e k b](c:ev f x=some (.o (.d (.l rows)))):A5 P TB Γ ⟨d,.call ⟨.builtin .len,#[x],#[t]⟩,ty,pos,af,g⟩ f σ nx (eI .i64 rows.length):=
 AK λV ρ n _=>by
  have a:=n.get (by simp[Op.operands,Call.operands]) c;obtain⟨i,j,hi,p,_⟩:=HA m.out;generalize h:ρ x=v at a;refine⟨.int .i64 rows.length,?_,.d (.v rfl)⟩
  cases a with
  | d a=>cases a<;>simp[execOp,resolve,invoke,builtin,h,Builtin.len_,run_underlying j,goInt,go_sem]
theorem oQ{t e:TypeId}{x:Operand}{id k' off len k b:Nat}[l:Dp P t e k b](c:ev f x=some (.o (.arr id k' off len))):A5 P TB Γ ⟨d,.call ⟨.builtin .len,#[x],#[t]⟩,ty,pos,af,g⟩ f σ nx (eI .i64 len):=
 AK λV ρ m _=>by
  have a:=m.get (by simp[Op.operands,Call.operands]) c;obtain⟨i,j,hi,n,_⟩:=HA l.out;generalize h:ρ x=v at a;refine⟨.int .i64 len,?_,.d (.v rfl)⟩;cases a<;>simp[execOp,resolve,invoke,builtin,h,Builtin.len_,run_underlying j,goInt,go_sem]
theorem eE{x:Operand}{k:Nat}{xs:List (Bool×List C)}{e:E}(l:ev f x=some (.t xs))(hk:(xs[k]?).bind (λy=>match y with|(false,[c])=>some (E.o c)|(true,cs)=>some (E.a cs)|_=>none)=some e) :
 A5 P TB Γ ⟨d,.extract x k,ty,pos,af,g⟩ f σ nx e:=
 AK λV ρ r _=>by
  obtain⟨vs,m,n,q⟩:=r.get (by simp[Op.operands]) l
  cases i:xs[k]? with
  | none=>rw[i]at hk;cases hk
  | some y=>
   rw[i]at hk
   have h:k<vs.size:=by rw[n];exact(am.1 i).1
   refine⟨vs[k],by simp[execOp,m,Instr.extract,h,go_sem],?_⟩;have j:=q k y vs[k] i (pm h);obtain⟨b,cs⟩:=y;cases b
   .obtain⟨c,rfl,p⟩:=j
    simp only[wg,Option.some.injEq]at hk;subst hk;exact p
   .simp only[wg,Option.some.injEq]at hk
    subst hk;exact j
theorem lV{t:TypeId}{x:Operand}{k off n:Nat}{cs:List C}{c:C}[r:Pq P t k off false n](l:ev f x=some (.a cs))(j:cs[off]?=some c):A5 P TB Γ ⟨d,.field t x k,ty,pos,af,g⟩ f σ nx (.o c):=
 AK λV ρ u _=>by
  obtain⟨vs,m,q,s⟩:=u.get (by simp[Op.operands]) l;have b:=r.out;unfold dK at b;split at b
  .rename_i fs p
   split at b
   .rename_i fl i
    simp only[d7,Prod.mk.injEq]at b;obtain⟨x',h,rfl,rfl⟩:=b
    have e:fl.offset<vs.size:=by rw[q];exact(am.1 j).1
    refine⟨vs[fl.offset],?_,s _ c _ j (pm e)⟩;simp[execOp,m,Instr.field,run_underlying p,i,asAgg,part,(BI h V.w).1,e,go_sem]
   .cases b
  .cases b
theorem jd{t:TypeId}{x:Operand}{k off n:Nat}{cs:List C}[r:Pq P t k off true n](m:ev f x=some (.a cs))(z:off+n<=cs.length):A5 P TB Γ ⟨d,.field t x k,ty,pos,af,g⟩ f σ nx (.a ((cs.drop off).take n)):=
 AK λV ρ u _=>by
  obtain⟨vs,o,y,s⟩:=u.get (by simp[Op.operands]) m;have e:=r.out;unfold dK at e;split at e
  .rename_i fs p
   split at e
   .rename_i fl l
    simp only[d7,Prod.mk.injEq]at e;obtain⟨x',h,rfl,rfl⟩:=e;refine⟨.agg (vs.extract fl.offset (fl.offset+n)),?_,_,rfl,by simp;omega,?_⟩
    .simp[execOp,o,Instr.field,run_underlying p,l,asAgg,part,(BI h V.w).1,(BI h V.w).2,go_sem]
    .intro j c v i b
     rw[uk]at i;split at i
     .rename_i q
      rw[ul]at i;refine s (fl.offset+j) c v i ?_;rw[w7]at b;split at b
      .exact b
      .cases b
     .cases i
   .cases e
  .cases e
end
def bQ(l:List Nat)(i:Nat):Nat:=match l with
 | []=>0
 | k::r=>bif Nat.beq k i then 1 else bQ r i
structure Fl where
 c:Nat->Nat
 p:Nat->Nat
instance:CoeFun Fl λ_=>Nat->Nat:=⟨λfl i=>fl.c (fl.p i)⟩
def gJ:Fl:=⟨λ_=>1,λi=>i⟩
def GI(l:List Nat):Fl:=⟨bQ l,λi=>i⟩
def mark(b a:List Nat)(i:Nat):Nat:=bif Nat.beq (bQ b i) 1 then 1 else bif Nat.beq (bQ a i) 1 then 2 else 0
def tS(b a:List Nat):Fl:=⟨mark b a,λi=>i⟩
def fB:List Nat->Nat->Nat
 | [],i=>i
 | k::_,0=>k
 | _::r,i+1=>fB r i
def tg(q b a:List Nat):Fl:=⟨mark b a,fB q⟩
def GK:List (Nat×Nat)->Nat->Nat
 | [],_=>2
 | (k,c)::r,i=>bif Nat.beq k i then c else GK r i
def Nz(l:List (Nat×Nat)):Fl:=⟨GK l,λi=>i⟩
def Ak(fl:Fl):Nat->Nat->List (Nat×Nat)
 | _,0=>[]
 | i,n+1=>(fl.p i,fl i)::Ak fl (i+1) n
theorem OU:∀(n i:Nat),(Ak gJ i n).map (·.1)=List.range' i n
 | 0,_=>rfl
 | n+1,i=>by simp[Ak,List.range'_succ,OU n (i+1)];rfl
theorem J5(fl:Fl):∀(n i:Nat),(Ak fl i n).length=n
 | 0,_=>rfl
 | n+1,i=>by simp[Ak,J5 fl n (i+1)]
def direct(ops:Array Oper)(i j:Nat):Bool:=((ops[j]?).map (·.after.any λe=>Region.binds .any e && Nat.beq e.on i)).getD false
theorem Ut{ops:Array Oper}{i j n:Nat}(h:direct ops i j=true):waits ops i (n+1) j=true:=by
 unfold direct at h;unfold waits
 cases a:ops[j]? with
 | none=>rw[a]at h;cases h
 | some o=>
  rw[a]at h;simp only[uJ,vj]at h |-;rw[wZ]at h |-;obtain⟨k,hk,h⟩:=h;simp only[d4]at h;exact⟨k,hk,by simp[h.1,h.2]⟩
def iR(ops:Array Oper)(i c:Nat)(r:List (Nat×Nat)):Bool:=
 r.all λ(j,cj)=>(!Fj c && (match ops[i]?,ops[j]? with|some x,some y=>x.apart ops y|_,_=>false) && Ql c cj) || (direct ops i j || waits ops i ops.size j)
def Oe(ops:Array Oper):List (Nat×Nat)->Bool
 | []=>true
 | (i,c)::r=>iR ops i c r && Oe ops r
theorem iS{ops:Array Oper}{i c:Nat}{r:List (Nat×Nat)}(h:iR ops i c r=true):UW ops i c r=true:=by
 unfold iR at h;unfold UW;rw[ge]at h |-;intro x b;have h:=h x b;rw[t6]at h |-
 rcases h with h|h
 .exact .inr h
 .rw [t6]at h
  rcases h with h|h
  .refine .inl ?_
   have a:∃n,ops.size=n+1:=by
    cases e:ops.size with
    | zero=>
     unfold direct at h;rw[Array.getElem?_eq_none (by omega)]at h;cases h
    | succ n=>exact⟨n,rfl⟩
   obtain⟨n,d⟩:=a;rw[d];exact Ut h
  .exact .inl h
theorem TK{ops:Array Oper}:∀ {r:List (Nat×Nat)},Oe ops r=true->Eo ops r=true
 | [],_=>rfl
 | (i,c)::r,h=>by
  simp only[Oe,d4]at h;simp only[Eo,d4];exact⟨iS h.1,TK h.2⟩
theorem ER(L:List (Nat×E))(d:Nat)(x:E):BV (look L) (some d) x=look ((d,x)::L):=by
 funext t;rw[Ay];simp only[BV];by_cases h:t=d
 .subst h;simp
 .rw[if_neg h,if_neg (λe=>h e.symm)]
section
variable {P:Program}{TB:BB}{Γ:Ctx}{N:Nat}{ops:Array Oper}{fl:Fl}{i n:Nat}{L:List (Nat×E)}{σ:Ac}{nx:Nat}{K:Env->Ac->Nat->Prop}{Q:Exit->Env->Ac->Nat->Prop}
theorem tu{id:Nat}{f:Env}(a:HJ N ops=true)(h:Lex P TB Γ ops (Ak gJ 0 ops.size) (λf σ nx=>Q .normal f σ nx) f σ nx):Al P TB Γ N (.region id ops false) Q f σ nx:=
 Al.region _ a (by rw[OU,List.range_eq_range']) h
theorem rf{id:Nat}{f:Env}(fl:Fl)(b:P.follows .mixedOrders=true)(c:HJ N ops=true)(a:(Bq ops (Ak fl 0 ops.size) (Array.replicate ops.size false) && Oe ops (Ak fl 0 ops.size))=true)
 (h:Lex P TB Γ ops (Ak fl 0 ops.size) (λf σ nx=>Q .normal f σ nx) f σ nx):Al P TB Γ N (.region id ops true) Q f σ nx:=
 Al.l8 _ b c (J5 _ _ _) (by rw[d4]at a |-;exact⟨a.1,TK a.2⟩) h
theorem Aa{f:Env}(h:K f σ nx):Lex P TB Γ ops (Ak fl i 0) K f σ nx:=h
theorem oN{c:Nat}{r:List (Nat×Nat)}{o:Oper}{x:E}{f:Env}(e:ops[i]?=some o)(d:Bx ops o f=some true)(a:∀σ nx,A5 P TB Γ o f σ nx x)(h:Lex P TB Γ ops r K (BV f o.dst x) σ nx):Lex P TB Γ ops ((i,c)::r) K f σ nx:=by
 refine⟨o,e,?_⟩
 show Ii P TB Γ ops c o (Lex P TB Γ ops r K) f σ nx
 cases b:Fj c
 .rw [EE b]
  refine⟨x,.inr ⟨d,?_⟩,h⟩;unfold QC;cases Nat.ble 10 c
  .cases Nat.beq c 2
   .exact a σ nx
   .exact a
  .exact λσ nx _=>a σ nx
 .rw[Hs b]
  exact .inr ⟨d,(a σ nx).r6 _ _ _ ⟨λ_ _ _=>rfl,h⟩⟩
theorem oO{c:Nat}{r:List (Nat×Nat)}{o:Oper}{x:E}{f:Env}(e:ops[i]?=some o)(d:Bx ops o f=some true)(a:Uj c=true)(b:A5 P TB Γ o f σ nx x)(h:Lex P TB Γ ops r K (BV f o.dst x) σ nx):Lex P TB Γ ops ((i,c)::r) K f σ nx:=by
 refine⟨o,e,?_⟩;unfold Uj at a;rw[t6]at a
 rcases a with a|a
 .have:=gt a
  subst this;exact .inr ⟨d,x,b,h⟩
 .have:=gt a
  subst this;exact .inr ⟨d,b.r6 _ _ _ h⟩
theorem iY{c:Nat}{r:List (Nat×Nat)}{o:Oper}{f:Env}(d:ops[i]?=some o)(b:Bx ops o f=some false)(h:Lex P TB Γ ops r K (BV f o.dst (.t [])) σ nx):Lex P TB Γ ops ((i,c)::r) K f σ nx:=by
 refine⟨o,d,?_⟩
 show Ii P TB Γ ops c o (Lex P TB Γ ops r K) f σ nx
 cases a:Fj c
 .rw[EE a];exact⟨_,.inl ⟨b,rfl⟩,h⟩
 .rw[Hs a];exact .inl ⟨b,h⟩
theorem XC{r:List (Nat×Nat)}{o:Oper}{f:Env}(a:ops[i]?=some o)(b:Bx ops o f=some true)(h:CQ P TB Γ o f σ nx (λx σ' nx'=>Lex P TB Γ ops r K (BV f o.dst x) σ' nx')):Lex P TB Γ ops ((i,1)::r) K f σ nx:=by
 refine⟨o,a,?_⟩;exact .inr ⟨b,h⟩
theorem qH{c:Nat}{r:List (Nat×Nat)}{o:Oper}{x:E}{f:Env}(d:ops[i]?=some o)(e:Bx ops o f=some true)(a:Nat.ble 10 c=true/\Nat.ble 1000 c=false)(b:∀σ' nx',look σ' (c-10)=look σ (c-10)->A5 P TB Γ o f σ' nx' x)(h:Lex P TB Γ ops r K (BV f o.dst x) σ nx):Lex P TB Γ ops ((i,c)::r) K f σ nx:=by
 refine⟨o,d,?_⟩;rw[a.1];refine .inr ⟨e,?_⟩;rw[a.2];exact⟨x,b,h⟩
theorem bX{c:Nat}{r:List (Nat×Nat)}{o:Oper}{f:Env}(b:ops[i]?=some o)(d:Bx ops o f=some true)(a:Nat.ble 10 c=true/\Nat.ble 1000 c=true)(h:CQ P TB Γ o f σ nx (λx σ' nx'=>Kept (c-1000) σ σ'/\Lex P TB Γ ops r K (BV f o.dst x) σ' nx')):Lex P TB Γ ops ((i,c)::r) K f σ nx:=by
 refine⟨o,b,?_⟩;rw[a.1];refine .inr ⟨d,?_⟩;rw[a.2];exact h
def QW:List Oper->Nat->Option Oper
 | [],_=>none
 | o::_,0=>some o
 | _::r,n+1=>QW r n
theorem QX:∀(l:List Oper) (i:Nat),QW l i=l[i]?
 | [],_=>by simp[QW]
 | o::_,0=>by simp[QW]
 | _::r,n+1=>by simp[QW,QX r n]
def BC(P:Program)(TB:BB)(Γ:Ctx)(ops:Array Oper)(o:Oper)(fl:Fl)(i n:Nat)(K:Env->Ac->Nat->Prop)(L:List (Nat×E))(σ:Ac)(nx:Nat):Prop:=
 ops[fl.p i]?=some o->Lex P TB Γ ops (Ak fl i (n+1)) K (look L) σ nx
theorem Ai{o:Oper}(a:QW ops.toList (fl.p i)=some o)(h:BC P TB Γ ops o fl i n K L σ nx):Lex P TB Γ ops (Ak fl i (n+1)) K (look L) σ nx:=h (by rw[QX]at a;simpa using a)
theorem CJ{d:Tmp}{op:Op}{ty:TypeId}{pos:String}{af:Array Edge}{g:Option (Nat×Bool)}{x:E}
 (a:∀σ nx,A5 P TB Γ ⟨some d,op,ty,pos,af,g⟩ (look L) σ nx x) (c:Bx ops ⟨some d,op,ty,pos,af,g⟩ (look L)=some true) (h:Lex P TB Γ ops (Ak fl (i+1) n) K (look ((d,x)::L)) σ nx):BC P TB Γ ops ⟨some d,op,ty,pos,af,g⟩ fl i n K L σ nx:=
 λb=>oN b c a (by rw[ER];exact h)
theorem lT{d:Tmp}{op:Op}{ty:TypeId}{pos:String}{af:Array Edge}{g:Option (Nat×Bool)}{x:E}
 (a:A5 P TB Γ ⟨some d,op,ty,pos,af,g⟩ (look L) σ nx x) (c:Bx ops ⟨some d,op,ty,pos,af,g⟩ (look L)=some true) (e:Uj (fl i)=true) (h:Lex P TB Γ ops (Ak fl (i+1) n) K (look ((d,x)::L)) σ nx):BC P TB Γ ops ⟨some d,op,ty,pos,af,g⟩ fl i n K L σ nx:=
 λb=>oO b c e a (by rw[ER];exact h)
theorem Lc{d:Tmp}{op:Op}{ty:TypeId}{pos:String}{af:Array Edge}{g:Option (Nat×Bool)}
 (h:CQ P TB Γ ⟨some d,op,ty,pos,af,g⟩ (look L) σ nx (λx σ' nx'=>Lex P TB Γ ops (Ak fl (i+1) n) K (look ((d,x)::L)) σ' nx')) (b:Bx ops ⟨some d,op,ty,pos,af,g⟩ (look L)=some true) (c:fl i=1):BC P TB Γ ops ⟨some d,op,ty,pos,af,g⟩ fl i n K L σ nx:=by
 intro a;unfold Ak;rw[c];exact XC a b (by simp only[ER];exact h)
theorem pW{d:Tmp}{op:Op}{ty:TypeId}{pos:String}{af:Array Edge}{g:Option (Nat×Bool)}(a:QW ops.toList (fl.p i)=some ⟨some d,op,ty,pos,af,g⟩)
 (h:CQ P TB Γ ⟨some d,op,ty,pos,af,g⟩ (look L) σ nx (λx σ' nx'=>Lex P TB Γ ops (Ak fl (i+1) n) K (look ((d,x)::L)) σ' nx')) (b:Bx ops ⟨some d,op,ty,pos,af,g⟩ (look L)=some true) (c:fl i=1):Lex P TB Γ ops (Ak fl i (n+1)) K (look L) σ nx:=Ai a (Lc h b c)
theorem FB{op:Op}{ty:TypeId}{pos:String}{af:Array Edge}{g:Option (Nat×Bool)}
 (h:CQ P TB Γ ⟨none,op,ty,pos,af,g⟩ (look L) σ nx (λ_ σ' nx'=>Lex P TB Γ ops (Ak fl (i+1) n) K (look L) σ' nx')) (b:Bx ops ⟨none,op,ty,pos,af,g⟩ (look L)=some true) (c:fl i=1):BC P TB Γ ops ⟨none,op,ty,pos,af,g⟩ fl i n K L σ nx:=by
 intro a;unfold Ak;rw[c];exact XC a b h
theorem ez{d:Tmp}{op:Op}{ty:TypeId}{pos:String}{af:Array Edge}{g:Option (Nat×Bool)}{c:Bool}
 (a:∀σ nx,A5 P TB Γ ⟨some d,op,ty,pos,af,g⟩ (look L) σ nx (eB c)) (e:Bx ops ⟨some d,op,ty,pos,af,g⟩ (look L)=some true) (h:∀b,c=b->Lex P TB Γ ops (Ak fl (i+1) n) K (look ((d,eB b)::L)) σ nx):BC P TB Γ ops ⟨some d,op,ty,pos,af,g⟩ fl i n K L σ nx:=
 CJ a e (h c rfl)
theorem qG{d:Tmp}{op:Op}{ty:TypeId}{pos:String}{af:Array Edge}{g:Option (Nat×Bool)}{x:E}
 (a:∀σ' nx',look σ' (fl i-10)=look σ (fl i-10)->A5 P TB Γ ⟨some d,op,ty,pos,af,g⟩ (look L) σ' nx' x) (c:Bx ops ⟨some d,op,ty,pos,af,g⟩ (look L)=some true) (e:Nat.ble 10 (fl i)=true/\Nat.ble 1000 (fl i)=false) (h:Lex P TB Γ ops (Ak fl (i+1) n) K (look ((d,x)::L)) σ nx):BC P TB Γ ops ⟨some d,op,ty,pos,af,g⟩ fl i n K L σ nx:=
 λb=>qH b c e a (by rw[ER];exact h)
theorem C8{d:Tmp}{op:Op}{ty:TypeId}{pos:String}{af:Array Edge}{g:Option (Nat×Bool)}
 (h:CQ P TB Γ ⟨some d,op,ty,pos,af,g⟩ (look L) σ nx (λx σ' nx'=>Kept (fl i-1000) σ σ'/\Lex P TB Γ ops (Ak fl (i+1) n) K (look ((d,x)::L)) σ' nx')) (b:Bx ops ⟨some d,op,ty,pos,af,g⟩ (look L)=some true) (c:Nat.ble 10 (fl i)=true/\Nat.ble 1000 (fl i)=true):BC P TB Γ ops ⟨some d,op,ty,pos,af,g⟩ fl i n K L σ nx:=
 λa=>bX a b c (by simp only[ER];exact h)
end
def kill(id:Nat):Ac->Ac
 | []=>[]
 | (k,o)::r=>bif Nat.beq k id then kill id r else (k,o)::kill id r
theorem FV:∀(σ:Ac) (id i:Nat),look (kill id σ) i=if i=id then none else look σ i
 | [],id,i=>by simp[kill,look]
 | (k, o)::r,id,i=>by
  simp only[kill];by_cases h:k=id
  .subst h
   simp only[wR,cond_true];rw[FV r k i,Ay];by_cases a:i=k
   .simp[a]
   .rw[if_neg a,if_neg a,if_neg (Ne.symm a)]
  .have:Nat.beq k id=false:=by
    cases hb:Nat.beq k id
    .rfl
    .exact absurd (gt hb) h
   rw[this,cond_false,Ay,Ay,FV r id i];by_cases a:i=id
   .subst a;simp[h]
   .simp[a]
def Aw(V:View)(b c:Nat)(nl:Prop)(w:World):View:=
 {I:=V.I,ρ:=λi=>if i=V.nx then b else V.ρ i,cap:=λi=>if i=V.nx then c else V.cap i,nl:=λi=>if i=V.nx then nl else V.nl i,nx:=V.nx+1,w:=w }
def MM(V:View)(w:World):View:={ V with I:=λb=>V.I b\/b=V.w.heap.size,w:=w }
section
variable {TB:BB}{Γ:Ctx}{V:View}{σ:Ac}
theorem Fi{b c:Nat}{nl:Prop}{w:World}(d:V.w.heap.size<=w.heap.size)(a:∀b,V.I b->w.heap[b]?=V.w.heap[b]?):Ext V (Aw V b c nl w):=by
 refine⟨λ_ h=>h,a,d,λi hi=>?_,λi hi=>?_,λi hi=>?_,xP _⟩<;>simp[Aw,Nat.ne_of_lt hi]
def O.one:O->Bool
 | .sld .. => false
 | _=>true
theorem O.PN{V:View}{id:Nat}{o:O}(h:o.one=true):Fb V id o=λb=>b=V.ρ id:=by
 cases o with
 | sld=>cases h
 | _=>rfl
theorem Inv.alloc(h:Inv TB Γ V σ){c:Nat}{nl:Prop}{w:World}{ob:O}(B:ob.one=true)(t:w.os=V.w.os)(ht:w.tape=V.w.tape)(z:w.output=V.w.output)(y:V.w.heap.size<=w.heap.size)
 (r:∀b,b<V.w.heap.size->w.heap[b]?=V.w.heap[b]?) (u:CL (Aw V V.w.heap.size c nl w) V.nx ob):Inv TB Γ (Aw V V.w.heap.size c nl w) ((V.nx,ob)::σ)/\Ext V (Aw V V.w.heap.size c nl w):=by
 have e:Ext V (Aw V V.w.heap.size c nl w):=Fi y λb hb=>r b (h.iLt b hb)
 have k:Fb (Aw V V.w.heap.size c nl w) V.nx ob=λb=>b=V.w.heap.size:=by rw[O.PN B];simp[Aw]
 refine⟨⟨t.trans h.os,ht.trans h.tape,z.trans h.output,λb hb v=>(r b (ol hb h.ext.size)).trans (h.old b hb v),λb hb=>ol (h.iLt b hb) y,h.iNew,h.ext.trans e,⟨?_,?_,?_,?_⟩,?_,?_,h.hid.step e.i e.heap e.size (λb hb _ _=>r b hb) (λb hb=>.inl hb) λb v=>?_⟩,e⟩
 .intro id o a
  rw[Ay]at a;by_cases d:V.nx=id
  .rw[if_pos d]at a;injection a with a;subst a;subst d;exact u
  .rw[if_neg d]at a
   exact(h.st.obj id o a).AM e (h.st.lt id o a) λl b hb=>r _ ((h.st.obj id o a).blt l hb)
 .intro id o a
  rw[Ay]at a;by_cases d:V.nx=id
  .subst d;exact wh _
  .rw[if_neg d]at a;exact vJ (h.st.lt id o a)
 .intro id o a l b hb
  rw[Ay]at a;by_cases d:V.nx=id
  .subst d
   rw[if_pos rfl]at a;injection a with a;subst a
   intro hI;rw[k]at hb;subst hb;exact Nat.lt_irrefl _ (h.iLt _ hI)
  .rw[if_neg d]at a
   have f:=h.st.lt id o a;exact h.st.free id o a (λm=>l ((e.nl id f).2 m)) b ((Az e f).1 hb)
 .intro id id' o o' a g s l m b hb n
  rw[Ay]at a g;by_cases d:V.nx=id
  .subst d
   rw[if_neg s]at g
   rw[if_pos rfl]at a;injection a with a;subst a
   have f:=h.st.lt id' o' g;have:=(h.st.obj id' o' g).blt (λj=>m ((e.nl id' f).2 j)) ((Az e f).1 n);rw[k]at hb;subst hb;omega
  .rw [if_neg d]at a
   have f:=h.st.lt id o a;have A:=(h.st.obj id o a).blt (λj=>l ((e.nl id f).2 j)) ((Az e f).1 hb);by_cases q:V.nx=id'
   .subst q
    rw[if_pos rfl]at g;injection g with g;subst g
    rw[k]at n;subst n;omega
   .rw[if_neg q]at g
    have p:=h.st.lt id' o' g;exact h.st.inj id id' o o' a g s (λj=>l ((e.nl id f).2 j)) (λj=>m ((e.nl id' p).2 j)) b ((Az e f).1 hb) ((Az e p).1 n)
 .intro id o a l b hb
  rw[Ay]at a;by_cases d:V.nx=id
  .subst d
   rw[if_pos rfl]at a;injection a with a;subst a
   left
   rw[k]at hb;subst hb;exact h.ext.size
  .rw[if_neg d]at a
   have f:=h.st.lt id o a;exact h.live id o a (λj=>l ((e.nl id f).2 j)) b ((Az e f).1 hb)
 .intro x j
  have:=h.tabs x j;exact⟨this.1,(r _ (h.iLt _ this.1)).trans this.2⟩
 .obtain⟨id,o,a,l,hb⟩:=v
  rw[Ay]at a;by_cases d:V.nx=id
  .subst d
   rw[if_pos rfl]at a;injection a with a;subst a
   rw[k]at hb;exact .inr (Nat.le_of_eq hb.symm)
  .rw[if_neg d]at a
   have f:=h.st.lt id o a;exact .inl ⟨id,o,a,λj=>l ((e.nl id f).2 j),(Az e f).1 hb⟩
theorem Inv.YR(h:Inv TB Γ V σ){w:World}(j:w.os=V.w.os)(ht:w.tape=V.w.tape)(l:w.output=V.w.output)(g:V.w.heap.size<w.heap.size)
 (c:∀b,b<V.w.heap.size->w.heap[b]?=V.w.heap[b]?):Inv TB Γ (MM V w) σ/\Ext V (MM V w):=by
 have e:Ext V (MM V w):=⟨λ_ h=>.inl h,λb hb=>c b (h.iLt b hb),xF g,λ_ _=>rfl,λ_ _=>rfl,λ_ _=>Iff.rfl,jp _⟩
 refine⟨⟨j.trans h.os,ht.trans h.tape,l.trans h.output,λb hb k=>(c b (ol hb h.ext.size)).trans (h.old b hb k),?_,?_,h.ext.trans e,⟨?_,h.st.lt,?_,h.st.inj⟩,h.live,?_,h.hid.step e.i e.heap e.size (λb hb _ _=>c b hb) (λb hb=>hb.elim .inl λf=>.inr (.inr (Nat.le_of_eq (show b=V.w.heap.size from f).symm))) λb k=>.inl (JQ e h.st.lt k)⟩,e⟩
 .intro b hb
  rcases hb with hb|hb
  .exact Nat.lt_trans (h.iLt b hb) g
  .subst hb;exact g
 .intro b hb
  rcases hb with hb|hb
  .exact h.iNew b hb
  .subst hb;exact .inr (.inl h.ext.size)
 .intro id o a
  exact(h.st.obj id o a).AM e (h.st.lt id o a) λd b hb=>c _ ((h.st.obj id o a).blt d hb)
 .intro id o a d b hb hI
  have hb:=(Az e (h.st.lt id o a)).1 hb
  rcases hI with hI|hI
  .exact h.st.free id o a d b hb hI
  .have hI:b=V.w.heap.size:=hI
   have:=(h.st.obj id o a).blt d hb;omega
 .intro x f
  have:=h.tabs x f;exact⟨.inl this.1,(c _ (h.iLt _ this.1)).trans this.2⟩
theorem Inv.po(h:Inv TB Γ V σ){id:Nat}{ob ob':O}(m:look σ id=some ob)(g:¬V.nl id){w:World}(q:w.os=V.w.os)(ht:w.tape=V.w.tape)(z:w.output=V.w.output)(v:w.heap.size=V.w.heap.size)
 (l:∀b,¬Fb V id ob b->w.heap[b]?=V.w.heap[b]?) (p:∀b,Fb V id ob' b->Fb V id ob b) (r:CL { V with w:=w } id ob'):Inv TB Γ { V with w:=w } ((id,ob')::σ)/\Ext V { V with w:=w } := by
 have f:∀b,V.I b->¬Fb V id ob b:=λb hb e=>h.st.free id ob m g b e hb
 have e:Ext V { V with w:=w } := ⟨λ_ h=>h,λb hb=>l b (f b hb),Nat.le_of_eq v.symm,λ_ _=>rfl,λ_ _=>rfl,λ_ _=>Iff.rfl,jp _⟩
 have bw:∀ {i o b},Fb { V with w:=w } i o b↔Fb V i o b:=λ{i o b} => by cases o<;>exact Iff.rfl
 have look':∀i o,look ((id,ob')::σ) i=some o->∃a,look σ i=some a/\∀b,Fb V i o b->Fb V i a b:=λi o hi=>by
  rw[Ay]at hi;by_cases c:id=i
  .subst c;rw[if_pos rfl]at hi;injection hi with hi;subst hi;exact⟨ob,m,p⟩
  .rw[if_neg c]at hi;exact⟨o,hi,λ_ h=>h⟩
 refine⟨⟨q.trans h.os,ht.trans h.tape,z.trans h.output,?_,λb hb=>by show b<w.heap.size;rw[v];exact h.iLt b hb,h.iNew,h.ext.trans e,⟨?_,?_,?_,?_⟩,?_,?_,h.hid.step e.i e.heap e.size (λb _ _ n=>l b λhb=>n ⟨id,ob,m,g,hb⟩) (λ_ h=>.inl h) (λb ⟨i,o,hi,d,hb⟩=>.inl (let ⟨a,k,j⟩:=look' i o hi;⟨i,a,k,d,j b (bw.1 hb)⟩))⟩,e⟩
 .intro b hb n
  have:¬Fb V id ob b:=by
   intro c
   rcases h.live id ob m g b c with j|j
   .omega
   .exact n j
  exact(l b this).trans (h.old b hb n)
 .intro i o hi
  rw[Ay]at hi;by_cases c:id=i
  .rw[if_pos c]at hi;injection hi with hi;subst hi;subst c;exact r
  .rw[if_neg c]at hi
   exact(h.st.obj i o hi).AM e (h.st.lt i o hi) λd b hb=>l _ λA=>h.st.inj id i ob o m hi c g d b A hb
 .intro i o hi;obtain⟨a,k,_⟩:=look' i o hi;exact h.st.lt i a k
 .intro i o hi g b hb;obtain⟨a,k,j⟩:=look' i o hi;exact h.st.free i a k g b (j b (bw.1 hb))
 .intro i i' o o' hi t s g d b hb u;obtain⟨a,k,F⟩:=look' i o hi;obtain⟨y,j,B⟩:=look' i' o' t;exact h.st.inj i i' a y k j s g d b (F b (bw.1 hb)) (B b (bw.1 u))
 .intro i o hi g b hb;obtain⟨a,k,j⟩:=look' i o hi;exact h.live i a k g b (j b (bw.1 hb))
 .intro x c
  have:=h.tabs x c;exact⟨this.1,(l _ (f _ this.1)).trans this.2⟩
theorem Inv.write(h:Inv TB Γ V σ){id:Nat}{ob ob':O}(j:look σ id=some ob)(i:¬V.nl id){w:World}(d:ob.one=true)(k:ob'.one=true)(a:w.os=V.w.os)(ht:w.tape=V.w.tape)(g:w.output=V.w.output)(f:w.heap.size=V.w.heap.size)
 (e:∀b,b≠V.ρ id->w.heap[b]?=V.w.heap[b]?) (c:CL { V with w:=w } id ob'):Inv TB Γ { V with w:=w } ((id,ob')::σ)/\Ext V { V with w:=w } :=
 h.po j i a ht g f (λb hb=>e b (by rw[O.PN d]at hb;exact hb)) (λb hb=>by rw[O.PN d];rw[O.PN k]at hb;exact hb) c
theorem Inv.alias(h:Inv TB Γ V σ){id:Nat}{ob:O}(u:look σ id=some ob):Inv TB Γ (Aw V (V.ρ id) (V.cap id) (V.nl id) V.w) ((V.nx,ob)::kill id σ)/\Ext V (Aw V (V.ρ id) (V.cap id) (V.nl id) V.w):=by
 have e:Ext V (Aw V (V.ρ id) (V.cap id) (V.nl id) V.w):=Fi (jp _) λ_ _=>rfl;have J:=h.st.lt id ob u
 have n:(Aw V (V.ρ id) (V.cap id) (V.nl id) V.w).ρ V.nx=V.ρ id:=by simp[Aw]
 have d:(Aw V (V.ρ id) (V.cap id) (V.nl id) V.w).nl V.nx=V.nl id:=by simp[Aw]
 have g:(Aw V (V.ρ id) (V.cap id) (V.nl id) V.w).cap V.nx=V.cap id:=by simp[Aw]
 have look':∀i o,look ((V.nx,ob)::kill id σ) i=some o->(i=V.nx/\o=ob)\/(i≠V.nx/\i≠id/\look σ i=some o):=λi o hi=>by
  rw[Ay]at hi;by_cases f:V.nx=i
  .rw[if_pos f]at hi;injection hi with hi;exact .inl ⟨f.symm,hi.symm⟩
  .rw[if_neg f,FV]at hi
   by_cases A:i=id
   .rw[if_pos A]at hi;cases hi
   .rw[if_neg A]at hi;exact .inr ⟨Ne.symm f,A,hi⟩
 have bnew:∀ {o b},Fb (Aw V (V.ρ id) (V.cap id) (V.nl id) V.w) V.nx o b↔Fb V id o b:=λ{o b} => by cases o<;>simp[Fb,n]
 refine⟨⟨h.os,h.tape,h.output,h.old,h.iLt,h.iNew,h.ext.trans e,⟨?_,?_,?_,?_⟩,?_,h.tabs,h.hid.same rfl (λ_ h=>h) (λ_ h=>.inl h) ?_⟩,e⟩
 .intro i o hi
  rcases look' i o hi with ⟨rfl,rfl⟩|⟨_,_,hi⟩
  .have s:=h.st.obj id o u
   cases o with
   | cells T k rows=>
    rcases s with ⟨s,z⟩|⟨H,cur,z,F,Q,P,N,M⟩
    .exact .inl ⟨by rw[d];exact s,z⟩
    .refine .inr ⟨by rw[d];exact H,cur,by rw[n];exact z,by rw[g];exact F,by rw[g];exact Q,by rw[g];exact P,N,λi r j c hi I=>?_⟩
     obtain⟨v,L,K⟩:=M i r j c hi I;exact⟨v,L,K.ext e⟩
   | mp=>
    obtain⟨H,ents,clock,z,F⟩:=s;exact⟨by rw[d];exact H,ents,clock,by rw[n];exact z,F⟩
   | sld T l=>exact⟨by rw[d];exact s.1,s.2⟩
  .exact(h.st.obj i o hi).AM e (h.st.lt i o hi) λ_ _ _=>rfl
 .intro i o hi
  rcases look' i o hi with ⟨rfl,rfl⟩|⟨_,_,hi⟩
  .exact wh _
  .exact vJ (h.st.lt i o hi)
 .intro i o hi m b hb
  rcases look' i o hi with ⟨rfl,rfl⟩|⟨_,_,hi⟩
  .exact h.st.free id o u (by rw[<-d];exact m) b (bnew.1 hb)
  .have a:=h.st.lt i o hi
   exact h.st.free i o hi (λf=>m ((e.nl i a).2 f)) b ((Az e a).1 hb)
 .intro i i' o o' hi B y m t b hb x
  rcases look' i o hi with ⟨rfl,rfl⟩|⟨_,s,hk⟩<;>rcases look' i' o' B with ⟨rfl,rfl⟩|⟨_,G,p⟩
  .exact absurd rfl y
  .have a:=h.st.lt i' o' p
   exact h.st.inj id i' o o' u p (Ne.symm G) (by rw[<-d];exact m) (λf=>t ((e.nl i' a).2 f)) b (bnew.1 hb) ((Az e a).1 x)
  .have a:=h.st.lt i o hk
   exact h.st.inj i id o o' hk u s (λf=>m ((e.nl i a).2 f)) (by rw[<-d];exact t) b ((Az e a).1 hb) (bnew.1 x)
  .have a:=h.st.lt i o hk
   have q:=h.st.lt i' o' p;exact h.st.inj i i' o o' hk p y (λf=>m ((e.nl i a).2 f)) (λf=>t ((e.nl i' q).2 f)) b ((Az e a).1 hb) ((Az e q).1 x)
 .intro i o hi m b hb
  rcases look' i o hi with ⟨rfl,rfl⟩|⟨_,_,hi⟩
  .exact h.live id o u (by rw[<-d];exact m) b (bnew.1 hb)
  .have a:=h.st.lt i o hi
   exact h.live i o hi (λf=>m ((e.nl i a).2 f)) b ((Az e a).1 hb)
 .rintro b ⟨i,o,hi,m,hb⟩
  rcases look' i o hi with ⟨rfl,rfl⟩|⟨_,_,hi⟩
  .exact⟨id,o,u,by rw[<-d];exact m,bnew.1 hb⟩
  .have a:=h.st.lt i o hi
   exact⟨i,o,hi,λf=>m ((e.nl i a).2 f),(Az e a).1 hb⟩
theorem Inv.sub(h:Inv TB Γ V σ){σ':Ac}(c:∀id o,look σ' id=some o->look σ id=some o):Inv TB Γ V σ':=
 ⟨h.os,h.tape,h.output,h.old,h.iLt,h.iNew,h.ext,⟨λid o a=>h.st.obj id o (c id o a),λid o a=>h.st.lt id o (c id o a),λid o a=>h.st.free id o (c id o a),
  λid id' o o' a d=>h.st.inj id id' o o' (c id o a) (c id' o' d)⟩,λid o a=>h.live id o (c id o a),h.tabs,h.hid.same rfl (λ_ h=>h) (λ_ h=>.inl h) λb ⟨i,o,hi,e,hb⟩=>⟨i,o,c i o hi,e,hb⟩⟩
end
def zC:Value->C
 | .slice none 0 0=>.d (.l [])
 | v=>.d (.v v)
def Pp:Value->Bool
 | .slice none 0 0=>true
 | v=>RC v
theorem LW{V:View}{v:Value}(h:Pp v=true):AD V (zC v) v:=by
 unfold zC;split
 .exact .d .nil
 .rename_i a
  unfold Pp at h;split at h
  .exact absurd rfl (a)
  .exact .d (.v h)
def eC:E->List C
 | .o c=>[c]
 | .a cs=>cs
 | .t _=>[]
 | .e=>[.d (.l [])]
def Uu:E->Bool
 | .t _=>false
 | _=>true
theorem Qp{V:View}{e:E}{v:Value}(k:Uu e=true)(h:Bh V e v):Df V (eC e) v.cells:=by
 cases e with
 | o c =>
  have h:AD V c v:=h
  have : v.cells = #[v]:=by cases h with
   | d h=>cases h with
    | v i=>cases v<;>first|rfl|(simp[RC]at i)
    | nil=>rfl
    | l=>rfl
    | e=>rfl
    | p=>rfl
   | _=>rfl
  rw[this];refine⟨rfl,λj c' v' f g=>?_⟩
  match j with
  | 0=>simp[eC]at f g;subst f g;exact h
  | j+1=>simp[eC]at f
 | a cs=>obtain⟨vs,rfl,h⟩:=h;exact h
 | t=>cases k
 | e =>
  obtain⟨b,rfl⟩:=h;refine⟨rfl,λj c' v' f g=>?_⟩
  match j with
  | 0=>
   simp[eC]at f;subst f;have g:v'=.slice b 0 0:=(Option.some.inj g).symm;subst g
   cases b with
   | none=>exact .d .nil
   | some a=>exact .d (.e (uL _))
  | j+1=>simp[eC]at f
theorem AD.one{V:View}{c:C}{v:Value}(h:AD V c v):v.oneCell'=true:=by
 cases h with
 | d h=>cases h with
  | v a=>cases v<;>first|rfl|(simp[RC]at a)
  | nil=>rfl
  | l=>rfl
  | e=>rfl
  | p=>rfl
 | _=>rfl
section
variable {P:Program}{TB:BB}{Γ:Ctx}{d:Option Tmp}{ty:TypeId}{pos:String}{af:Array Edge}{g:Option (Nat×Bool)}{f:Env}{σ:Ac}{nx:Nat}
variable {K:E->Ac->Nat->Prop}
theorem DM{o:Oper}(h:∀V ρ,OC V o f ρ->Inv TB Γ V σ->V.nx=nx->∃v V' x σ',(execOp ρ o).run P V.w=.ok (.value v) V'.w/\Ext V V'/\Inv TB Γ V' σ'/\Bh V' x v/\K x σ' V'.nx):CQ P TB Γ o f σ nx K:=by
 intro V a i g e;obtain⟨v,V',x,σ',c,d,hi,b,hk⟩:=h V a.eval i.HK g e;unfold Oper.wp;rw[c];exact⟨V',v,x,σ',rfl,rfl,d,hi,b,hk⟩
theorem KG{o:Oper}{x:E}(h:∀V ρ,OC V o f ρ->Inv TB Γ V σ->∃v V',(execOp ρ o).run P V.w=.ok (.value v) V'.w/\Ext V V'/\Inv TB Γ V' σ/\V'.nx=V.nx/\Bh V' x v):A5 P TB Γ o f σ nx x:=by
 intro V a j i g;obtain⟨v,V',c,e,hi,d,b⟩:=h V a.eval j.HK i;unfold Oper.wp;rw[c];exact⟨V',v,rfl,rfl,e,hi,d.trans g,b⟩
theorem cF{V:View}{cs:List C}{vs:Array Value}(h:Df V cs vs)(i:Nat)(r:List C)(j:Nat)(c:C)(hi:[cs][i]?=some r)(b:r[j]?=some c):∃v,vs[i*cs.length+j]?=some v/\AD V c v:=by
 match i with
 | 0=>
  simp at hi;subst hi
  have a:j<vs.size:=by rw[h.1];exact(am.1 b).1
  exact⟨vs[j],by simp[a],h.2 j c _ b (pm a)⟩
 | i+1=>simp at hi
theorem A8(w:World)(o:Obj)(b:Nat)(h:b<w.heap.size):(w.alloc o).heap[b]?=w.heap[b]?:=by
 show (w.heap.push o)[b]?=_
 rw[Array.getElem?_push,if_neg (by omega)]
theorem Cn(w:World)(o:Obj):(w.alloc o).heap[w.heap.size]?=some o:=by
 show (w.heap.push o)[w.heap.size]?=_
 simp
theorem PR{V:View}{b c k:Nat}{w:World}:AD (Aw V b c False w) (.ptr V.nx k 0 0) (.pointer (some ⟨b,0,none⟩)):=by
 have:=@AD.ptr (Aw V b c False w) V.nx k 0 0 (by simp[Aw]) (by simp[Aw])
 have h:(Aw V b c False w).ρ V.nx=b:=by simp[Aw]
 rw[h]at this
 simpa using this
theorem Ul{V:View}(h:Inv TB Γ V σ){T:TypeId}{cs:List C}{vs:Array Value}(d:Df V cs vs) :
 Inv TB Γ (Aw V V.w.heap.size 1 False (V.w.alloc (.cells vs T))) ((V.nx,.cells T cs.length [cs])::σ)/\Ext V (Aw V V.w.heap.size 1 False (V.w.alloc (.cells vs T))):=by
 have e:Ext V (Aw V V.w.heap.size 1 False (V.w.alloc (.cells vs T))):=Fi (by simp) λb hb=>A8 _ _ _ (h.iLt b hb);refine h.alloc rfl rfl rfl rfl (by simp) (λb hb=>A8 _ _ _ hb) (.inr ⟨by simp[Aw],vs,?_,?_,?_,?_,?_,?_⟩)
 .have:=Cn V.w (.cells vs T)
  simpa only[Aw,if_true]using this
 .simp[Aw,d.1]
 .simp[Aw]
 .simp[Aw,maxLen]
 .intro r a;simp at a;subst a;rfl
 .exact λi r j c hi f=>cF (d.ext e) i r j c hi f
theorem qz{T:TypeId}{x:Operand}{e:E}(a:ev f x=some e)(b:Uu e=true)(i:K (.o (.ptr nx (eC e).length 0 0)) ((nx,.cells T (eC e).length [eC e])::σ) (nx+1)):CQ P TB Γ ⟨d,.box T x,ty,pos,af,g⟩ f σ nx K:=
 DM λV ρ l k j=>by
  subst j;have h:=Qp b (l.get (by simp[Op.operands]) a);obtain⟨hi,c⟩:=Ul k (T:=T) h;refine⟨.pointer (some ⟨V.w.heap.size,0,none⟩),_,_,_,?_,c,hi,?_,i⟩
  .simp[execOp,Instr.box,newVar,newRow,Aw,go_sem]
  .exact PR
theorem lE{T:TypeId}{z:List Value}[p:BP P T z](l:z.all Pp=true)(s:K (.o (.ptr nx z.length 0 0)) ((nx,.cells T z.length [z.map zC])::σ) (nx+1)):CQ P TB Γ ⟨d,.alloc T,ty,pos,af,g⟩ f σ nx K:=
 DM λV ρ y x t=>by
  subst t;have b:=p.out;simp only[fy,pu,d7]at b;obtain⟨i,hi,zv,k,a⟩:=b
  have r:Df V (z.map zC) zv.cells:=by
   refine⟨by rw[io,<-a];simp,λj c v n m=>?_⟩;simp only[f9,d7]at n;obtain⟨u,h,rfl⟩:=n
   have:u=v:=by
    rw[<-a]at h;simp only[uT]at h;rw[h]at m;exact Option.some.inj m
   subst this;exact LW (ge.1 l u (ce h))
  obtain⟨e,q⟩:=Ul x (T:=T) r;rw[io]at e;refine⟨.pointer (some ⟨V.w.heap.size,0,none⟩),_,_,_,?_,q,e,?_,s⟩
  .simp[execOp,Instr.alloc,zeroValue,typeInfo,hi,k,newVar,newRow,Aw,go_sem]
  .exact PR
def SU:List C->Option (List D)
 | []=>some []
 | .d x::l=>(SU l).map (x :: ·)
 | _=>none
theorem Np:∀ {l:List C} {ds:List D},SU l=some ds->∀(j:Nat) (x:D),ds[j]?=some x->l[j]?=some (.d x)
 | [],ds,h,j,x,a=>by injection h with h;subst h;simp at a
 | c::l,ds,h,j,x,a=>by
  cases c<;>simp only[SU]at h<;>try cases h
  simp only[d7]at h;obtain⟨ds',b,rfl⟩:=h
  cases j with
  | zero=>simpa using a
  | succ j=>simpa using Np b j x (by simpa using a)
theorem O5:∀ {l:List C} {ds:List D},SU l=some ds->ds.length=l.length
 | [],ds,h=>by injection h with h;subst h;rfl
 | c::l,ds,h=>by
  cases c<;>simp only[SU]at h<;>try cases h
  simp only[d7]at h;obtain⟨ds',a,rfl⟩:=h;simp[O5 a]
theorem C9{T:TypeId}{x:Operand}{e:E}{ds:List D}(n:ev f x=some e)(p:Uu e=true)(m:SU (eC e)=some ds):A5 P TB Γ ⟨d,.box T x,ty,pos,af,g⟩ f σ nx (.o (.ip ds)):=
 KG λV ρ s r=>by
  have i:=Qp p (s.get (by simp[Op.operands]) n);obtain⟨hi,l⟩:=r.YR (w:=V.w.alloc (.cells (ρ x).cells T)) rfl rfl rfl (by simp) (λb hb=>A8 _ _ _ hb);refine⟨.pointer (some ⟨V.w.heap.size,0,none⟩),_,?_,l,hi,rfl,?_⟩
  .simp[execOp,Instr.box,newVar,newRow,MM,go_sem]
  .refine .ip (vs:=λj=>(ρ x).cells.getD j undef) (.inr rfl) (λj y h=>?_) (λj y h=>?_)
   .have c:=Np m j y h
    have a:j<(ρ x).cells.size:=by rw[i.1];exact(am.1 c).1
    have k:(MM V (V.w.alloc (.cells (ρ x).cells T))).w.heap[V.w.heap.size]?=some (.cells (ρ x).cells T):=Cn _ _;simp[World.cell?,k,a]
   .have c:=Np m j y h
    have a:j<(ρ x).cells.size:=by rw[i.1];exact(am.1 c).1
    have k:=i.2 j _ _ c (pm a)
    cases k with
    | d q=>simpa[a]using q.ext l
theorem Vm{t:TypeId}{x:Operand}{id k i j n:Nat}{T:TypeId}{rows:List (List C)}{r:List C}{c:C}[u:D0 P t false n](m:ev f x=some (.o (.ptr id k i j)))(s:look σ id=some (.cells T k rows))(q:rows[i]?=some r)(z:r[j]?=some c) :
 A5 P TB Γ ⟨d,.load t x,ty,pos,af,g⟩ f σ nx (.o c):=
 AK λV ρ F B=>by
  have l:=F.get (by simp[Op.operands]) m;generalize p:ρ x=v at l
  cases l with
  | ptr y a=>
   rcases B.st.obj id _ s with ⟨b,_⟩|⟨_,cur,b,J,I,H,G,A⟩
   .exact absurd b a
   .obtain⟨v,h,e⟩:=A i r j c q z
    refine⟨v,?_,e⟩
    have:V.w.cell? ⟨V.ρ id,i*k+j,none⟩=some v:=by simp[World.cell?,b,h]
    simp[execOp,p,Instr.loadAt,Instr.sureAddr,loadVar,(BI u.out V.w).1,this,go_sem]
theorem jn{t:TypeId}{x:Operand}{id k i j n:Nat}{T:TypeId}{rows:List (List C)}{r:List C}[A:D0 P t true n](F:ev f x=some (.o (.ptr id k i j)))(I:look σ id=some (.cells T k rows))(H:rows[i]?=some r)(N:j+n<=r.length) :
 A5 P TB Γ ⟨d,.load t x,ty,pos,af,g⟩ f σ nx (.a ((r.drop j).take n)):=
 AK λV ρ M L=>by
  have B:=M.get (by simp[Op.operands]) F;generalize G:ρ x=v at B
  cases B with
  | ptr J y=>
   rcases L.st.obj id _ I with ⟨z,_⟩|⟨_,cur,z,U,S,R,Q,K⟩
   .exact absurd z y
   .have b:∀q,q<n->∃v,cur[i*k+j+q]?=some v/\AD V (r[j+q]?.getD (.d (.l []))) v:=λq m=>by
     have p:j+q<r.length:=by omega
     obtain⟨v,e,h⟩:=K i r (j+q) r[j+q] H (d5 p);exact⟨v,by rw[uu];exact e,by rw[d5 p];exact h⟩
    refine⟨.agg ((List.range n).map λq=>cur.getD (i*k+j+q) undef).toArray,?_,_,rfl,by simp;omega,?_⟩
    .have:(loadCells ⟨V.ρ id,i*k+j,none⟩ n).run P V.w=.ok ((List.range n).map λq=>cur.getD (i*k+j+q) undef).toArray V.w:=run_loadCells V.w _ n _ λq m=>by
      rw[BG];obtain⟨v,e,_⟩:=b q m;simp[World.cell?,z,e]
     unfold loadCells at this;simp[execOp,G,Instr.loadAt,Instr.sureAddr,loadVar,(BI A.out V.w).1,(BI A.out V.w).2,this,go_sem]
    .intro q c v s u
     rw[uk]at s;split at s
     .rename_i m
      rw[ul]at s;obtain⟨v',e,h⟩:=b q m;rw[s]at h
      have:v=v':=by simpa[m,e]using u.symm
      rw[this];exact h
     .cases s
theorem je{s kf off:Nat}{x:Operand}{id k i j:Nat}[t:Ub P s kf off](p:ev f x=some (.o (.ptr id k i j))):A5 P TB Γ ⟨d,.fieldAddr s x kf,ty,pos,af,g⟩ f σ nx (.o (.ptr id k i (j+off))):=
 AK λV ρ u _=>by
  have n:=u.get (by simp[Op.operands]) p;generalize q:ρ x=v at n
  cases n with
  | ptr l h=>
   have a:=t.out;unfold dJ at a;split at a
   .rename_i fs r
    split at a
    .rename_i fl m
     split at a
     .rename_i ii hi
      cases b:Nat.beq ii.size 0
      .rw[b]at a
       simp only[cond_false,Option.some.injEq]at a;subst a
       have c:ii.size≠0:=λe=>by rw[e]at b;cases b
       refine⟨.pointer (some ⟨V.ρ id,i*k+j+fl.offset,none⟩),?_,by rw[uu];exact .ptr l h⟩;simp[execOp,q,Instr.fieldAt,run_underlying r,m,Instr.sureAddr,fieldPlace,sizeOf,typeInfo,hi,c,BG,go_sem]
      .rw[b]at a;cases a
     .cases a
    .cases a
   .cases a
theorem jf{t e:TypeId}{x y:Operand}{id k len b:Nat}{off:Nat}{n:Int}{ik:IntKind}[w:Dp P t e k b](m:ev f x=some (.o (.arr id k off len)))(l:ev f y=some (eI ik n))
 (A:0<=n) (s:n<len):A5 P TB Γ ⟨d,.indexAddr t x y,ty,pos,af,g⟩ f σ nx (.o (.ptr id k (off+n.toNat) 0)):=
 AK λV ρ j _=>by
  have h:=j.get (by simp[Op.operands]) m;have z:ρ y=.int ik n:=AD.val (j.get (by simp[Op.operands]) l);generalize p:ρ x=v at h;obtain⟨i,q,hi,r,_⟩:=HA w.out
  cases h with
  | nil=>omega
  | arr c a u=>
   refine⟨.pointer (some ⟨V.ρ id,(off+n.toNat)*k+0,none⟩),?_,.ptr c a⟩;simp[execOp,p,z,Instr.indexAt,asIntOf,run_underlying q,A,s,sizeOf,typeInfo,hi,r,BG,ux,go_sem]
theorem jj{t:TypeId}{x y:Operand}{id k i j:Nat}{n:Int}{len ke:Nat}{ik:IntKind}[u:SW P t len ke](m:ev f x=some (.o (.ptr id k i j)))(l:ev f y=some (eI ik n))
 (z:0<=n) (s:n<len):A5 P TB Γ ⟨d,.indexAddr t x y,ty,pos,af,g⟩ f σ nx (.o (.ptr id k i (j+n.toNat*ke))):=
 AK λV ρ h _=>by
  have c:=h.get (by simp[Op.operands]) m;have w:ρ y=.int ik n:=AD.val (h.get (by simp[Op.operands]) l);generalize p:ρ x=v at c;obtain⟨e,ii,q,hi,r⟩:=YS u.out
  cases c with
  | ptr b a=>
   refine⟨.pointer (some ⟨V.ρ id,i*k+(j+n.toNat*ke),none⟩),?_,.ptr b a⟩;simp[execOp,p,w,Instr.indexAt,asIntOf,run_underlying q,Instr.sureAddr,z,s,sizeOf,typeInfo,hi,r,BG,uu,go_sem]
theorem LP{t:TypeId}{n:Nat}{w:World}{a:Addr}{v:Value}(h:(sizeOf t).run P w=.ok n w)(b:v.cells.size=n):(storeVar t a v).run P w=(storeCells a v.cells.toList).run P w:=by
 unfold storeVar;simp only[pp,h,lw,b,ne_eq,not_true,if_false]
def Ae(r:List C)(j:Nat)(cs:List C):List C:=r.take j++cs++r.drop (j+cs.length)
theorem Ew{t:TypeId}{x y:Operand}{id k i j n:Nat}{T:TypeId}{rows:List (List C)}{r:List C}{e:E}{ag:Bool}[hl:D0 P t ag n](hx:ev f x=some (.o (.ptr id k i j)))(hy:ev f y=some e)(ho:Uu e=true)
 (J:look σ id=some (.cells T k rows)) (Z:rows[i]?=some r) (hn:(eC e).length=n) (hj:j+n<=k) (hK:K (.t []) ((id,.cells T k (rows.set i (Ae r j (eC e))))::σ) nx):CQ P TB Γ ⟨d,.store t x y,ty,pos,af,g⟩ f σ nx K:=by
 intro V a Y h2 h3;have Y:=Y.HK;unfold Oper.wp;generalize a.eval=ρ at Y |-;have N:=Y.get (by simp[Op.operands]) hx;have hc:=Qp ho (Y.get (by simp[Op.operands]) hy);generalize hv:ρ x=v at N
 cases N with
 | ptr hid F =>
  rcases h2.st.obj id _ J with ⟨h4,_⟩|⟨_,cur,h4,h5,h6,h7,h8,h9⟩
  .exact absurd h4 F
  .have hrk : r.length=k:=h8 r (ce Z)
   have U:=(am.1 Z).1
   have H:(ρ y).cells.size=n:=by rw[hc.1,hn]
   have B:(i+1)*k<=cur.size:=by rw[h5];exact uC _ (by omega)
   have hfit:i*k+j+n<=cur.size:=by rw[ux]at B;omega
   have I:=run_storeCells_at P (V.ρ id) (i*k+j) T (ρ y).cells.toList 0 cur V.w h4 (by simp;omega) (λv hv=>by
    obtain⟨q,A,rfl⟩:=um hv
    have hq':q<(eC e).length:=by simpa[hc.1]using A
    exact(hc.2 q (eC e)[q] _ (d5 hq') (by simp)).one)
   simp only[wF,Array.length_toList]at I;rw[H]at I
   have hw := h2.write J F (w:=V.w.setRow (V.ρ id) (cur.toList.take (i*k+j)++(ρ y).cells.toList++cur.toList.drop (i*k+j+n)).toArray) (ob':=.cells T k (rows.set i (Ae r j (eC e)))) rfl rfl rfl rfl rfl (by simp) (λb hb=>setRow_other _ _ _ _ hb) (by
    have ee:Ext V { V with w:=V.w.setRow (V.ρ id) (cur.toList.take (i*k+j)++(ρ y).cells.toList++cur.toList.drop (i*k+j+n)).toArray } :=
     ⟨λ_ h=>h,λb hb=>setRow_other _ _ _ _ λe=>h2.st.free id _ J F b e hb,by simp,λ_ _=>rfl,λ_ _=>rfl,λ_ _=>Iff.rfl,jp _⟩
    have z:(cur.toList.take (i*k+j)++(ρ y).cells.toList).length=i*k+j+n:=by simp[H];omega
    refine .inr ⟨F,_,setRow_heap _ _ _ _ _ _ h4,?_,by simpa using h6,h7,?_,?_⟩
    .simp[H];omega
    .intro r' hr'
     rcases List.mem_or_eq_of_mem_set hr' with h|h
     .exact h8 r' h
     .subst h;simp[Ae,hn];omega
    .intro i' r' j' c m l
     rw[xw]at m
     have X:∀q,(cur.toList.take (i*k+j)++(ρ y).cells.toList++cur.toList.drop (i*k+j+n)).toArray[q]?=if q<i*k+j then cur[q]? else if q<i*k+j+n then (ρ y).cells[q-(i*k+j)]? else cur[q]?:=by
      intro q;simp only[u7];by_cases A:q<i*k+j+n
      .rw [gc (by rw[z];exact A)]
       by_cases u:q<i*k+j
       .rw[gc (by simp;omega),if_pos u]
        simp[u]
       .rw[i7 (by simp;omega),if_neg u,if_pos A]
        simp;congr 1;omega
      .rw[i7 (by rw[z];omega),if_neg (by omega),if_neg A,z,ul]
       simp;congr 1;omega
     rw[X];by_cases M:i=i'
     .subst M
      rw[if_pos rfl,if_pos U]at m
      injection m with m
      subst m;unfold Ae at l
      have L:(r.take j++eC e).length=j+n:=by simp[hn];omega
      by_cases A:j'<j+n
      .rw [gc (by rw[L];exact A)]at l
       by_cases u:j'<j
       .rw[gc (by simp;omega)]at l
        rw[uk,if_pos u]at l;obtain⟨v,s,p⟩:=h9 i r j' c Z l;rw[if_pos (by omega)];exact⟨v,s,p.ext ee⟩
       .rw[i7 (by simp;omega)]at l
        have S:(r.take j).length=j:=by simp;omega
        rw[S]at l;rw[if_neg (by omega),if_pos (by omega)]
        have G:j'-j<(ρ y).cells.size:=by omega
        have he:i*k+j'-(i*k+j)=j'-j:=by omega
        rw[he];exact⟨(ρ y).cells[j'-j],pm G,(hc.2 _ c _ l (pm G)).ext ee⟩
      .rw[i7 (by rw[L];omega),L,ul,hn]at l
       have he:j+n+(j'-(j+n))=j':=by omega
       rw[he]at l;obtain⟨v,s,p⟩:=h9 i r j' c Z l;rw[if_neg (by omega),if_neg (by omega)];exact⟨v,s,p.ext ee⟩
     .rw [if_neg M]at m
      obtain⟨v,s,p⟩:=h9 i' r' j' c m l;have R:r'.length=k:=h8 r' (ce m)
      have hj'k:j'<k:=by rw[<-R];exact(am.1 l).1
      have : ¬(i*k+j<=i'*k+j'/\i'*k+j'<i*k+j+n):=by
       rintro⟨ha,hb⟩
       rcases wv M with G|G
       .have:=uC k (show i+1<=i' by omega)
        rw[ux]at this;omega
       .have:=uC k (show i'+1<=i by omega)
        rw[ux]at this;omega
      by_cases A:i'*k+j'<i*k+j
      .rw[if_pos A];exact⟨v,s,p.ext ee⟩
      .rw[if_neg A,if_neg (by omega)];exact⟨v,s,p.ext ee⟩)
   have Q:(execOp ρ ⟨d,.store t x y,ty,pos,af,g⟩).run P V.w=.ok .skip (V.w.setRow (V.ρ id) (cur.toList.take (i*k+j)++(ρ y).cells.toList++cur.toList.drop (i*k+j+n)).toArray):=by
    show ((do Instr.storeAt t (ρ x) (ρ y);pure Go.Next.skip:Sem Go.Next)).run P V.w=_
    rw[hv];simp only[Instr.storeAt,Instr.sureAddr,pure_bind,pp,LP (BI hl.out V.w).2 H,I,lw];rfl
   rw[Q];exact⟨_,undef,_,_,rfl,rfl,hw.2,hw.1,Oz _,by rw[<-h3]at hK;exact hK⟩
end
def nq(V:View)(k:Nat)(rows:List (List C))(v:Value):Prop:=
 (v=.slice none 0 0/\rows=[])\/
 ∃(a:Addr) (cap:Nat) (vs:Nat->Nat->Value),v=.slice (some a) rows.length cap/\(∀r∈rows,r.length=k)/\
  ∀(i:Nat) (r:List C) (j:Nat) (c:C),rows[i]?=some r->r[j]?=some c->V.w.cell? (a.add (i*k+j))=some (vs i j)/\AD V c (vs i j)
def HU(σ:Ac)(k:Nat):E->Option (List (List C))
 | .o (.d (.l rows))=>some (rows.map λr=>r.map .d)
 | .o (.arr id k' off len)=>match look σ id with
  | some (.cells _ _ rows)=>bif Nat.beq k' k && Nat.ble (off+len) rows.length then some ((rows.drop off).take len) else none
  | _=>none
 | _=>none
theorem cP{TB:BB}{Γ:Ctx}{V:View}{σ:Ac}(h:Inv TB Γ V σ){k:Nat}{e:E}{v:Value}{rows:List (List C)}(g:HU σ k e=some rows)(hk:∀r∈rows,r.length=k)(w:Bh V e v):nq V k rows v:=by
 unfold HU at g;split at g
 .rename_i ds
  injection g with g
  subst g
  cases w with
  | d w =>
   cases w with
   | nil=>exact .inl ⟨rfl,rfl⟩
   | @e a cap=>exact .inr ⟨a,cap,λ_ _=>undef,rfl,by simp,λi r j c hi=>by simp at hi⟩
   | @l _ b o k' cap vs hb H Q B P s=>
    refine .inr ⟨⟨b,o,none⟩,cap,vs,by simp,hk,λi r j c hi u=>?_⟩;simp only[f9,d7]at hi;obtain⟨q,m,rfl⟩:=hi;simp only[f9,d7]at u;obtain⟨x,G,rfl⟩:=u
    have:k'=k:=by
     have S:=B i q m;have J:=hk (q.map .d) (d8.2 ⟨q,ce m,rfl⟩);rw[io]at J;omega
    subst this;exact⟨by rw[BG,<-uu];exact P i q j x m G,.d (s i q j x m G)⟩
 .rename_i id k' off len
  split at g
  .rename_i T n f L
   cases hb:Nat.beq k' k && Nat.ble (off+len) f.length
   .rw[hb]at g;cases g
   .rw [hb]at g
    injection g with g
    subst g;rw[d4]at hb;have z:=gt hb.1;have K:=co hb.2;subst z
    cases w with
    | nil H B=>exact .inl ⟨rfl,by simp⟩
    | arr H y B=>
     rcases h.st.obj id _ L with ⟨s,_⟩|⟨_,cur,s,Y,X,U,N,M⟩
     .exact absurd s y
     .rcases uP len with I|I
      .subst I
       exact .inr ⟨⟨V.ρ id,off*k',none⟩,V.cap id-off,λ_ _=>undef,by simp,by simp,λi r j c hi=>by simp at hi⟩
      .have A:n=k':=by
        have p:0<((f.drop off).take len).length:=by simp;omega
        have S:=hk _ (uy p);have J:=N _ (vp (t7 (uy p)));omega
       subst A;refine .inr ⟨⟨V.ρ id,off*n,none⟩,V.cap id-off,λi j=>cur.getD ((off+i)*n+j) undef,?_,hk,λi r j c hi u=>?_⟩
       .have:((f.drop off).take len).length=len:=by simp;omega
        rw[this]
       .rw [uk]at hi
        split at hi
        .rename_i p
         rw[ul]at hi;obtain⟨v,t,F⟩:=M (off+i) r j c hi u
         have R:off*n+i*n+j=(off+i)*n+j:=by rw[ux]
         have:cur.getD ((off+i)*n+j) undef=v:=by simp[t]
         simp only[this];exact⟨by rw[BG,<-uu,R];simp[World.cell?,s,t],F⟩
        .cases hi
  .cases g
 .cases g
def DB(m k:Nat)(vs:Nat->Nat->Value):List Value:=(List.range (m*k)).map λq=>vs (q / k) (q%k)
theorem NU{m k:Nat}{vs:Nat->Nat->Value}{i j:Nat}(hi:i<m)(b:j<k):(DB m k vs)[i*k+j]?=some (vs i j):=by
 have a:i*k+j<m*k:=by
  have:=uC k (show i+1<=m by omega);rw[ux]at this;omega
 have hk:0<k:=by omega
 have d:(i*k+j) / k=i:=by rw[wS,Nat.add_mul_div_right _ _ hk,Nat.div_eq_of_lt b,lm]
 have c:(i*k+j)%k=j:=by rw[wS,Nat.add_mul_mod_self_right,us b]
 simp[DB,a,d,c]
theorem NV{m k:Nat}{vs:Nat->Nat->Value}{q:Nat}{u:Value}(h:(DB m k vs)[q]?=some u):∃i j,q=i*k+j/\i<m/\j<k/\u=vs i j:=by
 have a:=(am.1 h).1;simp[DB]at a
 have hk:0<k:=by rcases uP k with b|b;(subst b;simp at a);exact b
 refine⟨q / k,q%k,?_,?_,Nat.mod_lt _ hk,?_⟩
 .rw[wT];exact(Nat.div_add_mod q k).symm
 .exact Nat.div_lt_of_lt_mul (by rw[wT];exact a)
 .simp[DB,a]at h;exact h.symm
theorem Dg(m k:Nat)(vs:Nat->Nat->Value):(DB m k vs).length=m*k:=by simp[DB]
section
variable {P:Program}{TB:BB}{Γ:Ctx}{d:Option Tmp}{ty:TypeId}{pos:String}{af:Array Edge}{g:Option (Nat×Bool)}{f:Env}{σ:Ac}{nx:Nat}
variable {K:E->Ac->Nat->Prop}
theorem GP{t e:TypeId}{i:TypeInfo}(ht:P.underlying t=some (.slice e))(hi:P.info? e=some i)(w:World)(base:Option Addr)(n cap:Nat)(a:n<=cap)(ty:TypeId) :
 (Builtin.append_ #[t,t] ty #[.slice base n cap,.slice none 0 0]).run P w=.ok (.slice base n cap) w:=by
 cases base<;>simp[Builtin.append_,run_underlying ht,sizeOf,typeInfo,hi,Builtin.lenOf,Builtin.firstCells,storeCells,a,go_sem]
theorem Qg{V:View}{k:Nat}{rows news:List (List C)}{cur':Array Value}(b:∀(i:Nat) (r:List C) (j:Nat) (c:C),rows[i]?=some r->r[j]?=some c->∃v,cur'[i*k+j]?=some v/\AD V c v)
 (d:∀(i:Nat) (r:List C) (j:Nat) (c:C),news[i]?=some r->r[j]?=some c->∃v,cur'[(rows.length+i)*k+j]?=some v/\AD V c v) :
 ∀(i:Nat) (r:List C) (j:Nat) (c:C),(rows++news)[i]?=some r->r[j]?=some c->∃v,cur'[i*k+j]?=some v/\AD V c v:=by
 intro i r j c hi a;by_cases h:i<rows.length
 .rw[gc h]at hi;exact b i r j c hi a
 .rw[i7 (by omega)]at hi
  have:=d (i-rows.length) r j c hi a
  have e:rows.length+(i-rows.length)=i:=by omega
  rw[e]at this;exact this
theorem BY{t e:TypeId}{k b:Nat}{z:List Value}{s x:Operand}{id len:Nat}{rows news:List (List C)}{ex:E}[hl:Dp P t e k b][hz:BP P e z]
 (hs:ev f s=some (.o (.arr id k 0 len))) (hx:ev f x=some ex) (X:look σ id=some (.cells e k rows)) (G:rows.length=len) (hsrc:HU σ k ex=some news) (hkk:∀r∈news,r.length=k)
 (hzk:z.length=k) (hb0:0<b) (hb:(len+news.length)*b<=140737488355328)
 (hK:K (.o (.arr nx k 0 (len+news.length))) ((nx,.cells e k (rows++news))::kill id σ) (nx+1)):CQ P TB Γ ⟨d,.call ⟨.builtin .append,#[s,x],#[t,t]⟩,ty,pos,af,g⟩ f σ nx K:=
 DM λV ρ h1 h2 h3=>by
  subst h3;obtain⟨i,hu,hi,I,hby⟩:=HA hl.out;have hz':=hz.out;simp only[fy,hi,wg,d7]at hz';obtain⟨zv,hzv,hzz⟩:=hz'
  have hzc:zv.cells.size=k:=by rw[<-hzk,<-hzz];simp
  have hsr:=h1.get (x:=s) (by simp[Op.operands,Call.operands]) hs;have hxr:=cP h2 hsrc hkk (h1.get (x:=x) (by simp[Op.operands,Call.operands]) hx)
  have A:∀w,(execOp ρ ⟨d,.call ⟨.builtin .append,#[s,x],#[t,t]⟩,ty,pos,af,g⟩).run P w=((Builtin.append_ #[t,t] ty #[ρ s,ρ x]).run P w).andThen λv w'=>.ok (.value v) w':=λw=>by
   simp only[execOp,resolve,invoke,builtin,xG,uS,xH,pure_bind,bind_pure_comp,wz]
  have hmax:len+news.length<=maxLen:=by
   have:len+news.length<=(len+news.length)*b:=vt _ hb0;unfold maxLen;omega
  have hint:((len+news.length:Nat):Int)<=9223372036854775807:=by
   have:len+news.length<=(len+news.length)*b:=vt _ hb0;omega
  generalize hvs:ρ s=vs at *;generalize hvx:ρ x=vx at *;have hob:=h2.st.obj id _ X
  rcases hxr with ⟨rfl,hnil⟩|⟨xa,xc,xv,rfl,hxk,n⟩
  ·-- nothing is added: the value stays
   subst hnil;obtain⟨hi',he'⟩:=h2.alias X;rw[uv]at hK;refine⟨vs,_,_,_,?_,he',hi',?_,hK⟩
   .rw[A]
    cases hsr with
    | nil=>rw[GP hu hi V.w none 0 0 (jp _) ty];rfl
    | arr h4 h5 h6=>rw[GP hu hi V.w _ len _ (by omega) ty];rfl
   .have R:(Aw V (V.ρ id) (V.cap id) (V.nl id) V.w).nl V.nx=V.nl id:=by simp[Aw]
    have hnr:(Aw V (V.ρ id) (V.cap id) (V.nl id) V.w).ρ V.nx=V.ρ id:=by simp[Aw]
    have U:(Aw V (V.ρ id) (V.cap id) (V.nl id) V.w).cap V.nx=V.cap id:=by simp[Aw]
    cases hsr with
    | nil h4 h5=>exact AD.nil (by simp[Aw]) (by rw[R];exact h5)
    | arr h4 h5 h6=>
     have:=@AD.arr (Aw V (V.ρ id) (V.cap id) (V.nl id) V.w) V.nx k 0 (len+0) (by simp[Aw]) (by rw[R];exact h5) (by rw[U];exact h6);rw[hnr,U]at this;exact this
  .have l : (DB news.length k xv).length=news.length*i.size:=by rw[Dg,I]
   have y:∀j u,(DB news.length k xv)[j]?=some u->V.w.cell? (xa.add j)=some u:=by
    intro q u p;obtain⟨a,b,rfl,ha,hb,rfl⟩:=NV p
    have hbl:b<news[a].length:=by rw[hxk _ (uy ha)];exact hb
    exact(n a news[a] b news[a][b] (d5 ha) (d5 hbl)).1
   have hnews1:∀u∈DB news.length k xv,u.oneCell'=true:=by
    intro u hu;obtain⟨q,p,rfl⟩:=um hu;obtain⟨a,b,_,ha,hb,he⟩:=NV (d5 p);rw[he]
    have hbl:b<news[a].length:=by rw[hxk _ (uy ha)];exact hb
    exact(n a news[a] b news[a][b] (d5 ha) (d5 hbl)).2.one
   have fresh:∀(olds:List Value) (cap':Nat),olds.length=len*k->len+news.length<=cap'->cap'<=maxLen->
    (∀(i:Nat) (r:List C) (j:Nat) (c:C),rows[i]?=some r->r[j]?=some c->∃v,olds[i*k+j]?=some v/\AD V c v)->
    (Builtin.append_ #[t,t] ty #[vs,.slice (some xa) news.length xc]).run P V.w=.ok (.slice (some ⟨V.w.heap.size,0,none⟩) (len+news.length) cap')
     (V.w.drew.alloc (.cells (olds.toArray++(DB news.length k xv).toArray++Builtin.zeroCells zv.cells (cap'-(len+news.length))) e))->
    (∀r∈rows,r.length=k)->
    ∃v V' xx σ',(execOp ρ ⟨d,.call ⟨.builtin .append,#[s,x],#[t,t]⟩,ty,pos,af,g⟩).run P V.w=.ok (.value v) V'.w/\Ext V V'/\Inv TB Γ V' σ'/\Bh V' xx v/\K xx σ' V'.nx:=by
    intro olds cap' L hcap hcm hold hrun hrk
    let w':=V.w.drew.alloc (.cells (olds.toArray++(DB news.length k xv).toArray++Builtin.zeroCells zv.cells (cap'-(len+news.length))) e)
    have ee:Ext V (Aw V V.w.heap.size cap' False w'):=Fi (by simp[w']) λb hb=>A8 V.w.drew _ b (h2.iLt b hb)
    obtain⟨hi',he'⟩:=h2.alloc (c:=cap') (nl:=False) (w:=w') (ob:=.cells e k (rows++news)) rfl rfl rfl rfl (by simp[w']) (λb hb=>A8 V.w.drew _ b hb) (by
     refine .inr ⟨by simp[Aw],olds.toArray++(DB news.length k xv).toArray++Builtin.zeroCells zv.cells (cap'-(len+news.length)),?_,?_,?_,?_,?_,?_⟩
     .have:=Cn V.w.drew (.cells (olds.toArray++(DB news.length k xv).toArray++Builtin.zeroCells zv.cells (cap'-(len+news.length))) e)
      have H:(Aw V V.w.heap.size cap' False w').ρ V.nx=V.w.heap.size:=by simp[Aw]
      rw[H];exact this
     .have hc:(Aw V V.w.heap.size cap' False w').cap V.nx=cap':=by simp[Aw]
      rw[hc];simp only[Array.size_append,xy,L,Dg,Builtin.zeroCells,Array.size_map,Array.size_range,hzc,<-ux];congr 1;omega
     .have hc:(Aw V V.w.heap.size cap' False w').cap V.nx=cap':=by simp[Aw]
      rw[hc,uD,G];exact hcap
     .have hc:(Aw V V.w.heap.size cap' False w').cap V.nx=cap':=by simp[Aw]
      rw[hc];exact hcm
     .intro r H
      rcases f7.1 H with h|h
      .exact hrk r h
      .exact hkk r h
     .refine Qg (λi r j c hi B=>?_) (λi r j c hi B=>?_)
      .obtain⟨v,m,h11⟩:=hold i r j c hi B
       refine⟨v,?_,h11.ext ee⟩;have F:=(am.1 m).1;rw[t9 (by simp;omega),t9 (by simpa using F)]
       simpa using m
      .have hil:=(am.1 hi).1
       have Z:j<k:=by rw[<-hxk r (ce hi)];exact(am.1 B).1
       have m:=NU (vs:=xv) hil Z;refine⟨xv i j,?_,(n i r j c hi B).2.ext ee⟩;have F:=(am.1 m).1;rw[G,ux,uu];rw[t9 (by simp[L];omega),vg (by simp[L])]
       simpa[L]using m)
    refine⟨.slice (some ⟨V.w.heap.size,0,none⟩) (len+news.length) cap',_,_,(V.nx,.cells e k (rows++news))::kill id σ,?_,he',hi'.sub ?_,?_,hK⟩
    .rw[A,hrun];rfl
    .intro q o p
     rw[Ay]at p |-;by_cases T:V.nx=q
     .rwa[if_pos T]at p |-
     .rw[if_neg T]at p |-
      rw[FV]at p;by_cases Q:q=id
      .rw[if_pos Q]at p;cases p
      .rwa[if_neg Q]at p
    .have:=@AD.arr (Aw V V.w.heap.size cap' False w') V.nx k 0 (len+news.length) (by simp[Aw]) (by simp[Aw]) (by simp[Aw];exact hcap)
     have H:(Aw V V.w.heap.size cap' False w').ρ V.nx=V.w.heap.size:=by simp[Aw]
     have hc:(Aw V V.w.heap.size cap' False w').cap V.nx=cap':=by simp[Aw]
     rw[H,hc,vB,xI]at this;exact this
   cases hsr with
   | nil hid M=>
    have S:rows=[]:=pi.1 G
    rcases uP news.length with hm0|hm0
    ·-- nil and nothing: nil
     have R:news=[]:=pi.1 hm0;subst R;obtain⟨hi',he'⟩:=h2.alias X;rw[uv]at hK;refine⟨.slice none 0 0,_,_,_,?_,he',hi',?_,hK⟩
     .rw[A]
      simp[Builtin.append_,run_underlying hu,sizeOf,typeInfo,hi,Builtin.lenOf,Builtin.firstCells,loadCells,loadCellsFrom,Aw,go_sem]
     .exact AD.nil (by simp[Aw]) (by simp[Aw,M])
    .have H:=run_append_nil (P:=P) V.w t ty e i zv hu hi hzv xa news.length xc _ l y hm0 (by omega) (by rw[hby];have hb':=hb;simp only[lm]at hb';omega)
     refine fresh [] (grownCap V.w news.length 0 e) (by simp) (by simp only[lm];exact grownCap_ge _ _ _ _) (grownCap_le_maxLen _ _ _ _ (by omega)) (λi r j c hi=>by rw[S]at hi;simp at hi) ?_ (λr H=>by rw[S]at H;cases H);rw[H];simp
   | arr hid M hle=>
    rcases hob with ⟨h4,_⟩|⟨_,cur,h4,h5,h6,h7,h8,h9⟩
    .exact absurd h4 M
    .have hcs : cur.size=V.cap id*i.size:=by rw[h5,I]
     by_cases J:len+news.length<=V.cap id
     ·-- there is room
      have N:len*i.size+(DB news.length k xv).length<=cur.size:=by
       rw[l,hcs,<-ux];exact uC _ J
      have H:=run_append_room (P:=P) V.w t ty e i hu hi (V.ρ id) len (V.cap id) cur h4 xa news.length xc _ l y hnews1 J N
      have Y:(cur.toList.take (len*k)++DB news.length k xv).length=len*k+news.length*k:=by
       rw[I]at N;simp[Dg]at N |-;omega
      let w':=V.w.setRow (V.ρ id) (cur.toList.take (len*i.size)++DB news.length k xv++cur.toList.drop (len*i.size+(DB news.length k xv).length)).toArray
      have ee:Ext V { V with w:=w' } :=
       ⟨λ_ h=>h,λb hb=>setRow_other _ _ _ _ λe=>h2.st.free id _ X M b e hb,by simp[w'],λ_ _=>rfl,λ_ _=>rfl,λ_ _=>Iff.rfl,jp _⟩
      obtain⟨hw1,hw2⟩:=h2.write X M (w:=w') (ob':=.cells e k (rows++news)) rfl rfl rfl rfl rfl (by simp[w']) (λb hb=>setRow_other _ _ _ _ hb) (by
       refine .inr ⟨M,_,setRow_heap _ _ _ _ _ _ h4,?_,?_,h7,?_,?_⟩
       .simp only[xy,uD,vo,xJ,Array.length_toList]
        rw[hcs,l,I]at N;simp only[Dg,I,h5];omega
       .rw[uD,G];exact J
       .intro r H
        rcases f7.1 H with h|h
        .exact h8 r h
        .exact hkk r h
       .simp only [I]
        refine Qg (λi' r j c hi B=>?_) (λi' r j c hi B=>?_)
        .obtain⟨v,m,h11⟩:=h9 i' r j c hi B
         refine⟨v,?_,h11.ext ee⟩
         have Z:j<k:=by rw[<-h8 r (ce hi)];exact(am.1 B).1
         have hil:=(am.1 hi).1
         have F:i'*k+j<len*k:=by
          have:=uC k (show i'+1<=len by omega);rw[ux]at this;omega
         have hlc:len*k<=cur.size:=by rw[h5];exact uC _ (by omega)
         simp only[u7];rw[gc (by rw[Y];omega),gc (by simp;omega),uk,if_pos F]
         simpa using m
        .have hil:=(am.1 hi).1
         have Z:j<k:=by rw[<-hxk r (ce hi)];exact(am.1 B).1
         have m:=NU (vs:=xv) hil Z;have F:=(am.1 m).1;rw[Dg]at F;refine⟨xv i' j,?_,(n i' r j c hi B).2.ext ee⟩
         have hlc:len*k<=cur.size:=by rw[h5];exact uC _ (by omega)
         have htl:(cur.toList.take (len*k)).length=len*k:=by simp;omega
         simp only[u7];rw[G,ux,uu,gc (by rw[Y];omega),i7 (by rw[htl];omega),htl]
         have:len*k+(i'*k+j)-len*k=i'*k+j:=by omega
         rw[this];exact m)
      have hlk2:look ((id,O.cells e k (rows++news))::σ) id=some (.cells e k (rows++news)):=by rw[Ay,if_pos rfl]
      obtain⟨ha1,ha2⟩:=hw1.alias hlk2;refine⟨.slice (some ⟨V.ρ id,0,none⟩) (len+news.length) (V.cap id),_,_,(V.nx,.cells e k (rows++news))::kill id σ,?_,hw2.trans ha2,ha1.sub ?_,?_,hK⟩
      .rw[A]
       have:V.cap id-0=V.cap id:=by omega
       rw[vB,this,H];rfl
      .intro q o p
       rw[Ay]at p |-;by_cases T:V.nx=q
       .rwa[if_pos T]at p |-
       .rw [if_neg T]at p |-
        rw[FV]at p |-;by_cases Q:q=id
        .rw[if_pos Q]at p;cases p
        .rw[if_neg Q]at p |-
         rw[Ay,if_neg (Ne.symm Q)];exact p
      .have R:(Aw { V with w:=w' } (V.ρ id) (V.cap id) (V.nl id) w').nl V.nx=V.nl id:=by simp[Aw]
       have hnr:(Aw { V with w:=w' } (V.ρ id) (V.cap id) (V.nl id) w').ρ V.nx=V.ρ id:=by simp[Aw]
       have U:(Aw { V with w:=w' } (V.ρ id) (V.cap id) (V.nl id) w').cap V.nx=V.cap id:=by simp[Aw]
       have:=@AD.arr (Aw { V with w:=w' } (V.ρ id) (V.cap id) (V.nl id) w') V.nx k 0 (len+news.length) (by simp[Aw]) (by rw[R];exact M) (by rw[U];omega);rw[hnr,U,vB,xI]at this;exact this
     ·-- it grows
      have L:(cur.toList.take (len*k)).length=len*k:=by
       have hlc:len*k<=cur.size:=by rw[h5];exact uC _ (by omega)
       simp;omega
      have H:=run_append_grow (P:=P) V.w t ty e i zv hu hi hzv ⟨V.ρ id,0,none⟩ len (V.cap id) (cur.toList.take (len*k)) (by rw[L,I]) (λj v B=>by
       rw[BG];rw[uk]at B;split at B
       .simpa[World.cell?,h4]using B
       .cases B) xa news.length xc _ l y (by omega) (by omega) (by rw[hby];exact growslice_fits (by omega) hb)
      refine fresh (cur.toList.take (len*k)) (grownCap V.w (len+news.length) (V.cap id) e) L (grownCap_ge _ _ _ _) (grownCap_le_maxLen _ _ _ _ hmax) (λi' r j c hi B=>?_) ?_ h8
      .obtain⟨v,m,h11⟩:=h9 i' r j c hi B
       refine⟨v,?_,h11⟩
       have Z:j<k:=by rw[<-h8 r (ce hi)];exact(am.1 B).1
       have hil:=(am.1 hi).1
       have F:i'*k+j<len*k:=by
        have:=uC k (show i'+1<=len by omega);rw[ux]at this;omega
       rw[uk,if_pos F];simpa using m
      .have:V.cap id-0=V.cap id:=by omega
       rw[vB,this];exact H
end
def T9(V:View)(place:Nat->Option (Nat×Nat)):List (Nat×Value)->List (Nat×List C)->Prop
 | [],[]=>True
 | (i,v)::ps,(off,cs)::qs=>place i=some (off,cs.length)/\Df V cs v.cells/\T9 V place ps qs
 | _,_=>False
def Bl:List (Nat×List C)->List C->List C
 | [],z=>z
 | (off,cs)::r,z=>Bl r (Ae z off cs)
theorem Le:∀(l:List (Value×Nat)) (n off:Nat) (cells:Array Value),(∀(q:Nat) (x:Value×Nat),l[q]?=some x->x.2=n+q)->off+n+l.length<=cells.size->
 (l.foldl (λcs x=>cs.setIfInBounds (off+x.2) x.1) cells).size=cells.size/\
 ∀q,(l.foldl (λcs x=>cs.setIfInBounds (off+x.2) x.1) cells)[q]?=if off+n<=q/\q<off+n+l.length then (l[q-(off+n)]?).map (·.1) else cells[q]?
 | [],n,off,cells,_,_=>by
  refine⟨rfl,λq=>?_⟩;rw[if_neg (by simp)];rfl
 | x :: l,n,off,cells,c,d=>by
  have h:x.2=n:=by simpa using c 0 x rfl
  have b:=Le l (n+1) off (cells.setIfInBounds (off+x.2) x.1) (λq y f=>by have:=c (q+1) y (by simpa using f);omega) (by simp at d |-;omega);simp only[vf];refine⟨by rw[b.1];simp,λq=>?_⟩;rw[b.2 q,h];simp only[ut]at d |-;by_cases e:off+n<=q/\q<off+n+(l.length+1)
  .rw [if_pos e]
   by_cases g:q=off+n
   .subst g
    rw[if_neg (by omega)]
    have a:off+n<cells.size:=by omega
    simp[a]
   .rw[if_pos (by omega)]
    have:q-(off+n)=(q-(off+(n+1)))+1:=by omega
    rw[this];simp
  .rw[if_neg e,if_neg (by omega)]
   rw[vE (by omega)]
theorem ZZ{V:View}{z cs:List C}{cells vc cells':Array Value}{off:Nat}(f:Df V z cells)(h:Df V cs vc)(k:off+cs.length<=z.length)(i:cells'.size=cells.size)
 (l:∀q,cells'[q]?=if off<=q/\q<off+cs.length then vc[q-off]? else cells[q]?):Df V (Ae z off cs) cells':=by
 refine⟨by rw[i,f.1];simp[Ae];omega,λj c v b a=>?_⟩;rw[l]at a;unfold Ae at b
 have d:(z.take off++cs).length=off+cs.length:=by simp;omega
 have e:(z.take off).length=off:=by simp;omega
 by_cases m:j<off+cs.length
 .rw [gc (by rw[d];exact m)]at b
  by_cases g:j<off
  .rw[gc (by rw[e];exact g),uk,if_pos g]at b
   rw[if_neg (by omega)]at a;exact f.2 j c v b a
  .rw[i7 (by rw[e];omega),e]at b
   rw[if_pos (by omega)]at a;exact h.2 _ c v b a
 .rw[i7 (by rw[d];omega),d,ul]at b
  rw[if_neg (by omega)]at a
  have:off+cs.length+(j-(off+cs.length))=j:=by omega
  rw[this]at b;exact f.2 j c v b a
theorem JP(n:Nat):∀(qs:List (Nat×List C)),(qs.all λx=>Nat.ble (x.1+x.2.length) n)=true->∀x∈qs,x.1+x.2.length<=n:=by
 intro qs h x a;exact co (ge.1 h x a)
theorem Ho{V:View}{place:Nat->Option (Nat×Nat)}:∀(ps:List (Nat×Value)) (qs:List (Nat×List C)) (z:List C) (cells:Array Value),T9 V place ps qs->Df V z cells->(∀x∈qs,x.1+x.2.length<=z.length)->
 ∃cells',Instr.fill place cells ps=some cells'/\Df V (Bl qs z) cells'
 | [],[],z,cells,_,d,_=>⟨cells,rfl,d⟩
 | [],_::_,_,_,h,_,_=>h.elim
 | _::_,[],_,_,h,_,_=>h.elim
 | (i, v)::ps,(off,cs)::qs,z,cells,h,d,l=>by
  obtain⟨s,m,r⟩:=h;have c:off+cs.length<=z.length:=l (off,cs) (by simp);have b:=m.1
  have k:=Le v.cells.zipIdx.toList 0 off cells (λq x e=>by
   have:=uT (xs:=v.cells.zipIdx) (i:=q);rw[this,Array.getElem?_zipIdx]at e;simp only[d7]at e;obtain⟨a,_,rfl⟩:=e
   simp) (by simp[b];rw[d.1];exact c)
  rw[Array.foldl_toList]at k
  have j:Df V (Ae z off cs) (v.cells.zipIdx.foldl (λcs (x:Value×Nat)=>cs.setIfInBounds (off+x.2) x.1) cells):=by
   refine ZZ d m c k.1 λq=>?_;rw[k.2 q]
   have n:v.cells.zipIdx.toList.length=cs.length:=by simp[b]
   rw[n,wF];by_cases g:off<=q/\q<off+cs.length
   .rw[if_pos g,if_pos g,uT,Array.getElem?_zipIdx]
    cases v.cells[q-off]?<;>rfl
   .rw[if_neg g,if_neg g]
  obtain⟨cells',p,o⟩:=Ho ps qs _ _ r j (λx e=>by
   have:=l x (by simp[e])
   have f:(Ae z off cs).length=z.length:=by simp[Ae];omega
   rw[f];exact this)
  refine⟨cells',?_,o⟩;unfold Instr.fill;rw[s]
  have hno:¬(v.cells.size≠cs.length || decide (off+v.cells.size > cells.size))=true:=by
   simp[b];rw[d.1];exact c
  simp only;rw[if_neg (by simpa using hno)];exact p
def Jw(f:Env):List Operand->Option (List E)
 | []=>some []
 | x::l=>(ev f x).bind λe=>(Jw f l).map (e :: ·)
def DD{α:Type}:Nat->List α->List (Nat×α)
 | _,[]=>[]
 | k,x::l=>(k,x)::DD (k+1) l
def HR(k:Nat):Nat->List E->List (Nat×List C)
 | _,[]=>[]
 | i,e::l=>(i*k,eC e)::HR k (i+1) l
theorem bA{f:Env}:∀ {l:List Operand} {es:List E},Jw f l=some es->∀(j:Nat) (x:Operand) (e:E),l[j]?=some x->es[j]?=some e->ev f x=some e
 | [],es,h,j,x,e,a,_=>by simp at a
 | y::l,es,h,j,x,e,a,b=>by
  simp only[Jw,pu,d7]at h;obtain⟨e',d,es',c,rfl⟩:=h
  cases j with
  | zero=>simp at a b;subst a b;exact d
  | succ j=>exact bA c j x e (by simpa using a) (by simpa using b)
theorem CZ{f:Env}:∀ {l:List Operand} {es:List E},Jw f l=some es->es.length=l.length
 | [],es,h=>by injection h with h;subst h;rfl
 | y::l,es,h=>by
  simp only[Jw,pu,d7]at h;obtain⟨e',b,es',a,rfl⟩:=h;simp[CZ a]
theorem Qr(k:Nat):∀(es:List E) (i:Nat) (pre post:List C),pre.length=i*k->post.length=es.length*k->(∀e∈es,(eC e).length=k)->
 Bl (HR k i es) (pre++post)=pre++(es.map eC).flatten
 | [],i,pre,post,_,hp,_=>by
  have:post=[]:=pi.1 (by simpa using hp);subst this;simp[HR,Bl]
 | e :: es,i,pre,post,b,d,hk=>by
  have a:=hk e (by simp);simp only[ut,ux,Nat.one_mul]at d
  have:Ae (pre++post) (i*k) (eC e)=(pre++eC e)++post.drop k:=by
   unfold Ae;rw[<-b,List.take_left,<-List.drop_drop,List.drop_left,a]
  simp only[HR,Bl,this];rw[Qr k es (i+1) (pre++eC e) (post.drop k) (by simp[b,a,ux]) (by simp;omega) (λx c=>hk x (by simp[c]))];simp
section
variable {P:Program}{TB:BB}{Γ:Ctx}{d:Option Tmp}{ty:TypeId}{pos:String}{af:Array Edge}{g:Option (Nat×Bool)}{f:Env}{σ:Ac}{nx:Nat}
variable {K:E->Ac->Nat->Prop}
theorem HM{V:View}{k:Nat}:∀ {rows:List (List C)} {cur:Array Value},Df V rows.flatten cur->(∀r∈rows,r.length=k)->∀(i:Nat) (r:List C) (j:Nat) (c:C),rows[i]?=some r->r[j]?=some c->∃v,cur[i*k+j]?=some v/\AD V c v:=by
 intro rows cur h hk i r j c hi d
 have key:∀(rows:List (List C)) (i:Nat),(∀r∈rows,r.length=k)->rows[i]?=some r->rows.flatten[i*k+j]?=some c:=by
  intro rows
  induction rows with
  | nil=>intro i _ hi;simp at hi
  | cons f rows g=>
   intro i hk hi
   cases i with
   | zero=>
    simp at hi;subst hi;have a:=(am.1 d).1;rw[xz,vB,lm,gc a];exact d
   | succ i=>
    have b:=hk f (by simp);rw[xz,i7 (by rw[b,ux];omega),b]
    have:(i+1)*k+j-k=i*k+j:=by rw[ux];omega
    rw[this];exact g i (λr l=>hk r (by simp[l])) (by simpa using hi)
 have e:=key rows i hk hi
 have a:i*k+j<cur.size:=by rw[h.1];exact(am.1 e).1
 exact⟨cur[i*k+j],pm a,h.2 _ c _ e (pm a)⟩
theorem OB{V:View}{zv:Value}{z:List Value}{n:Nat}(d:zv.cells.toList=z)(o:z.all Pp=true):Df V ((List.replicate n (z.map zC)).flatten) ((Array.range (n*z.length)).map (zv.cells[· % zv.cells.size]!)):=by
 have k:zv.cells.size=z.length:=by rw[<-d];simp
 refine⟨by simp[xm],λq c v f s=>?_⟩
 have b:q<n*z.length:=by
  have:=(am.1 f).1
  simpa[xm]using this
 have hk:0<z.length:=by rcases uP z.length with r|r;(rw[r]at b;simp at b);exact r
 have a:q%z.length<z.length:=Nat.mod_lt _ hk
 have y : ((List.replicate n (z.map zC)).flatten)[q]?=some (zC z[q%z.length]):=by
  have u:q / z.length<n:=Nat.div_lt_of_lt_mul (by rw[wT];exact b)
  have key:∀(n i j:Nat),i<n->j<z.length->((List.replicate n (z.map zC)).flatten)[i*z.length+j]?=some (zC (z[j]?.getD undef)):=by
   intro n
   induction n with
   | zero=>intro i j h;omega
   | succ n t=>
    intro i j hi p;rw[vO,xz]
    cases i with
    | zero=>rw[vB,lm,gc (by simpa using p)];simp[p]
    | succ i=>
     rw[i7 (by simp[ux];omega)]
     have:(i+1)*z.length+j-(z.map zC).length=i*z.length+j:=by simp[ux];omega
     rw[this];exact t i j (by omega) p
  have:=key n (q / z.length) (q%z.length) u a
  have e:q / z.length*z.length+q%z.length=q:=by rw[wT];exact Nat.div_add_mod q _
  rw[e]at this;rw[this];simp[a]
 rw[y]at f
 injection f with f
 subst f
 have x:v=z[q%z.length]:=by
  simp only[Array.getElem?_map,d7]at s;obtain⟨q',m,rfl⟩:=s
  have l:q'=q:=by
   have:=rt.1 m;obtain⟨A,w⟩:=this
   simpa using w.symm
  subst l
  have g:q'%zv.cells.size<zv.cells.size:=by rw[k];exact a
  rw[getElem!_pos zv.cells _ g];subst d;simp
 rw[x];exact LW (ge.1 o _ (uy a))
theorem Ie{t:TypeId}{z:List Value}(h:fy P t=some z):∃i zv,P.info? t=some i/\i.zero=some zv/\zv.cells.toList=z:=by
 simp only[fy,pu,d7]at h;obtain⟨i,hi,zv,b,a⟩:=h;exact⟨i,zv,hi,b,a⟩
theorem XT{V:View}(h:Inv TB Γ V σ){e:TypeId}{k c:Nat}{rows:List (List C)}{cur:Array Value}{w:World}(n:w=V.w.alloc (.cells cur e))(f:cur.size=c*k)(d:rows.length<=c)(g:c<=maxLen)(hk:∀r∈rows,r.length=k)
 (p:∀(i:Nat) (r:List C) (j:Nat) (c:C),rows[i]?=some r->r[j]?=some c->∃v,cur[i*k+j]?=some v/\AD V c v) :
 Inv TB Γ (Aw V V.w.heap.size c False w) ((V.nx,.cells e k rows)::σ)/\Ext V (Aw V V.w.heap.size c False w)/\AD (Aw V V.w.heap.size c False w) (.arr V.nx k 0 rows.length) (.slice (some ⟨V.w.heap.size,0,none⟩) rows.length c):=by
 subst n;have ee:Ext V (Aw V V.w.heap.size c False (V.w.alloc (.cells cur e))):=Fi (by simp) λb hb=>A8 _ _ _ (h.iLt b hb)
 have l:(Aw V V.w.heap.size c False (V.w.alloc (.cells cur e))).ρ V.nx=V.w.heap.size:=by simp[Aw]
 have a:(Aw V V.w.heap.size c False (V.w.alloc (.cells cur e))).cap V.nx=c:=by simp[Aw]
 have m:=h.alloc (c:=c) (nl:=False) (w:=V.w.alloc (.cells cur e)) (ob:=.cells e k rows) rfl rfl rfl rfl (by simp) (λb hb=>A8 _ _ _ hb) (.inr ⟨by simp[Aw],cur,by rw[l];exact Cn _ _,by rw[a];exact f,by rw[a];exact d,by rw[a];exact g,hk,
  λi r j c hi o=>let ⟨v,s,q⟩:=p i r j c hi o;⟨v,s,q.ext ee⟩⟩)
 refine⟨m.1,m.2,?_⟩;have:=@AD.arr (Aw V V.w.heap.size c False (V.w.alloc (.cells cur e))) V.nx k 0 rows.length (by simp[Aw]) (by simp[Aw]) (by rw[a];omega);rw[l,a,vB,xI]at this;exact this
theorem Jg{t e:TypeId}{k b:Nat}{z:List Value}{x y:Operand}{ik ik':IntKind}{n c:Int}[hl:Dp P t e k b][Z:BP P e z](hx:ev f x=some (eI ik n))(hy:ev f y=some (eI ik' c))(a:z.length=k)(I:z.all Pp=true)(hb0:0<b)
 (h0:0<=n) (hnc:n<=c) (hc:c*b<=140737488355328) (hK:K (.o (.arr nx k 0 n.toNat)) ((nx,.cells e k (List.replicate n.toNat (z.map zC)))::σ) (nx+1)):CQ P TB Γ ⟨d,.makeSlice t x y,ty,pos,af,g⟩ f σ nx K:=
 DM λV ρ S h2 h3=>by
  subst h3;obtain⟨i,hu,hi,p,u⟩:=HA hl.out;obtain⟨i',zv,h,A,m⟩:=Ie Z.out
  rw[hi]at h;injection h with h;subst h
  have G:ρ x=.int ik n:=AD.val (S.get (by simp[Op.operands]) hx);have F:ρ y=.int ik' c:=AD.val (S.get (by simp[Op.operands]) hy)
  have Q:0<=c:=by omega
  have hcb:c<=c*b:=by
   have:=uB (show (1:Int)<=(b:Int) by omega) Q;omega
  have wn:IntKind.i64.wrap n=n:=IntWalk.i64_in n (by omega);have wc:IntKind.i64.wrap c=c:=IntWalk.i64_in c (by omega)
  have Y:zv.cells.size=k:=by rw[<-a,<-m];simp
  let cur:Array Value:=(Array.range (c.toNat*z.length)).map (zv.cells[· % zv.cells.size]!)
  have B:=OB (V:=V) (n:=c.toNat) m I
  have q:∀r∈List.replicate c.toNat (z.map zC),r.length=k:=λr H=>by rw[vF H];simp[a]
  obtain⟨L,M,s⟩:=XT h2 (e:=e) (k:=k) (c:=c.toNat) (rows:=List.replicate n.toNat (z.map zC)) (cur:=cur) rfl (by simp[cur,a]) (by simp;omega) (by unfold maxLen;omega) (λr H=>by rw[vF H];simp[a])
   (λi r j cc hi hj=>HM B q i r j cc (by
    rw[wX]at hi |-;split at hi
    .rw[if_pos (by omega)];exact hi
    .cases hi) hj)
  rw[xf]at s;refine⟨.slice (some ⟨V.w.heap.size,0,none⟩) n.toNat c.toNat,_,_,_,?_,M,L,(show Bh _ (.o _) _ from s),hK⟩
  have R:(b:Int)*c<=140737488355328:=by rw[wj];exact hc
  have ht:¬(281474976710656:Int)<(b:Int)*c:=by omega
  show ((do let v <-Instr.makeSlice t (ρ x) (ρ y);pure (Go.Next.value v):Sem Go.Next)).run P V.w=_
  rw[G,F]
  have J:(Instr.makeSlice t (.int ik n) (.int ik' c)).run P V.w=.ok (.slice (some ⟨V.w.heap.size,0,none⟩) n.toNat c.toNat) (V.w.alloc (.cells cur e)):=by
   have X:¬c<0:=by omega
   have U:¬n<0:=by omega
   have T:¬c<n:=by omega
   simp only[Instr.makeSlice,pp,run_underlying hu,lw,asInt,asIntOf,pure_bind,bind_pure_comp,map_pure,typeInfo,sizeOf,wn,wc];by_cases l:c.toNat*k=0
   .have N:cur = #[]:=by
     have:cur.size=0:=by simp[cur,a,l]
     exact vG this
    simp[go_sem,hi,u,p,X,U,T,ht,askRoom,l,newRow,newObj,N];rfl
   .simp[go_sem,hi,u,p,X,U,T,ht,askRoom,l,newRow,newObj,zeroValue,typeInfo,A,cur,a]
    rfl
  simp only[pp,J,lw];rfl
theorem OS{α β:Type}(h:α->β):∀(l:List α) (k:Nat),(DD k l).map (λx=>(x.1,h x.2))=DD k (l.map h)
 | [],_=>rfl
 | x::l,k=>by simp[DD,OS h l (k+1)]
theorem OI{V:View}{size:Nat}{ρ:Operand->Value}:∀(l:List Operand) (es:List E) (i:Nat),(∀x∈l,∀e,ev f x=some e->Bh V e (ρ x))->Jw f l=some es->(∀e∈es,Uu e=true)->(∀e∈es,(eC e).length=size)->
 T9 V (λi=>some (i*size,size)) (DD i (l.map ρ)) (HR size i es)
 | [],es,i,_,h,_,_=>by injection h with h;subst h;trivial
 | x::l,es,i,a,h,c,hk=>by
  simp only[Jw,pu,d7]at h;obtain⟨e',j,es',g,rfl⟩:=h;refine⟨?_,Qp (c e' (by simp)) (a x (by simp) e' j),OI l es' (i+1) (λx d=>a x (by simp[d])) g (λe b=>c e (by simp[b])) (λe b=>hk e (by simp[b]))⟩;rw[hk e' (by simp)]
theorem QV(k:Nat):∀(es:List E) (i n:Nat),(∀e∈es,(eC e).length=k)->i+es.length<=n->∀x∈HR k i es,x.1+x.2.length<=n*k
 | [],_,_,_,_,x,h=>by simp[HR]at h
 | e :: es,i,n,hk,a,x,h=>by
  simp only[HR,lc]at h;simp only[ut]at a
  rcases h with rfl|h
  .simp only[hk e (by simp)]
   have:=uC k (show i+1<=n by omega);rw[ux]at this;omega
  .exact QV k es (i+1) n (λe b=>hk e (by simp[b])) (by omega) x h
theorem RA{t e:TypeId}{k b:Nat}{z:List Value}(U:nc P t=some (e,k,b))(R:fy P e=some z)(c:z.length=k)(H:z.all Pp=true){xs:List Operand}{es:List E}{V:View}{ρ:Operand->Value}(B:∀x∈xs,∀e,ev f x=some e->Bh V e (ρ x))
 (u:Jw f xs=some es) (T:es.all Uu=true) (hk:∀x∈es,(eC x).length=k) (X:xs.length*k<=16777216) :
 ∃cur,(Instr.buildSlice t xs.length ((DD 0 xs).toArray.map λ(i,x)=>(i,ρ x))).run P V.w=.ok (.slice (some ⟨V.w.heap.size,0,none⟩) xs.length xs.length) (V.w.alloc (.cells cur e))/\cur.size=xs.length*k/\Df V (es.map eC).flatten cur:=by
 obtain⟨i,S,hi,s,_⟩:=HA U;obtain⟨i',zv,j,F,o⟩:=Ie R
 rw[hi]at j;injection j with j;subst j
 have Q:zv.cells.size=k:=by rw[<-c,<-o];simp
 have v:=CZ u;have I:=OI (size:=k) xs es 0 B u (λx r=>ge.1 T x r) hk;have G:=OB (V:=V) (n:=xs.length) o H
 have p:((List.replicate xs.length (z.map zC)).flatten).length=xs.length*k:=by simp[xm,c]
 obtain⟨cur,A,J⟩:=Ho _ _ _ _ I G (λx r=>by rw[p];exact QV k es 0 xs.length hk (by omega) x r);have M:=Qr k es 0 [] ((List.replicate xs.length (z.map zC)).flatten) (by simp) (by rw[p,v]) hk;simp only[wN]at M;rw[M]at J;refine⟨cur,?_,?_,J⟩
 .have d:((DD 0 xs).toArray.map λ(i,x)=>(i,ρ x)).toList=DD 0 (xs.map ρ):=by
   rw[<-OS];simp
  have L:¬2 ^ 24<xs.length*k:=by
   have:(2:Nat) ^ 24=16777216:=by decide
   omega
  simp only[Instr.buildSlice,pp,run_underlying S,lw,sizeOf,typeInfo,bind_pure_comp]
  have y:¬16777216<xs.length*k:=by omega
  have m:=d;simp only[xG]at m;by_cases K:xs.length*k=0
  .have q:∀g:Nat->Value,Array.map g (Array.range (xs.length*k)) = #[]:=λg=>vG (by simp[K])
   rw[c,q]at A;simp[go_sem,hi,s,newRow,newObj,y,q,m];rw[if_pos K,A];rfl
  .rw[c]at A
   unfold Value.cells at A;simp[go_sem,hi,s,K,y,newRow,newObj,zeroValue,typeInfo,F,m];rw[A];rfl
 .rw [J.1]
  have:∀l:List E,(∀x∈l,(eC x).length=k)->(l.map eC).flatten.length=l.length*k:=by
   intro l
   induction l with
   | nil=>simp
   | cons a l N=>intro h;simp[N (λx r=>h x (by simp[r])),h a (by simp),ux,wS]
  rw[this es hk,v]
end
abbrev eT(l:List UInt8):E:=.o (.d (.v (.string ⟨l.toArray⟩)))
def RV:List E->Option (List (List D))
 | []=>some []
 | e::l=>(SU (eC e)).bind λr=>(RV l).map (r :: ·)
theorem RX:∀ {l:List E} {rows:List (List D)},RV l=some rows->rows.length=l.length/\∀(i:Nat) (r:List D),rows[i]?=some r->∃e,l[i]?=some e/\SU (eC e)=some r
 | [],rows,h=>by injection h with h;subst h;exact⟨rfl,λi r hi=>by simp at hi⟩
 | e::l,rows,h=>by
  simp only[RV,pu,d7]at h;obtain⟨g,f,rows',d,rfl⟩:=h;have a:=RX d;refine⟨by simp[a.1],λi r hi=>?_⟩
  cases i with
  | zero=>simp at hi;subst hi;exact⟨e,rfl,f⟩
  | succ i=>obtain⟨e',c,b⟩:=a.2 i r (by simpa using hi);exact⟨e',by simpa using c,b⟩
def qi(P:Program)(t:TypeId):Option (List (Nat×Nat)):=match P.underlying t with
 | some (.struct fs)=>fs.toList.mapM λf=>(P.info? f.type).map λi=>(f.offset,i.size)
 | some (.array n e)=>(P.info? e).map λi=>(List.range n).map λj=>(j*i.size,i.size)
 | _=>none
class Ei (P:Program) (t:TypeId) (fl:outParam (List (Nat×Nat))):Prop where
 out:qi P t=some fl
def Fk(fl:List (Nat×Nat)):List (Nat×Operand)->List E->Option (List (Nat×List C))
 | [],[]=>some []
 | (i,_)::ps,e::es=>match fl[i]? with
  | some (off,size)=>bif Nat.beq (eC e).length size && Uu e then (Fk fl ps es).map ((off,eC e) :: ·) else none
  | none=>none
 | _,_=>none
section
variable {P:Program}{TB:BB}{Γ:Ctx}{d:Option Tmp}{ty:TypeId}{pos:String}{af:Array Edge}{g:Option (Nat×Bool)}{f:Env}{σ:Ac}{nx:Nat}
variable {K:E->Ac->Nat->Prop}
theorem Jm{t e:TypeId}{k b n:Nat}{z:List Value}{parts:Array (Nat×Operand)}(y:nc P t=some (e,k,b))(q:fy P e=some z)(j:z.length=k)(m:z.all Pp=true){es:List E}{V:View}{ρ:Operand->Value}(h:OC V ⟨d,.buildSlice t n parts,ty,pos,af,g⟩ f ρ)
 (hp:DD 0 (parts.toList.map (·.2))=parts.toList) (u:parts.toList.length=n) (o:Jw f (parts.toList.map (·.2))=some es) (s:es.all Uu=true) (hk:∀x∈es,(eC x).length=k) (l:n*k<=16777216) :
 ∃cur,(execOp ρ ⟨d,.buildSlice t n parts,ty,pos,af,g⟩).run P V.w=.ok (.value (.slice (some ⟨V.w.heap.size,0,none⟩) n n)) (V.w.alloc (.cells cur e))/\cur.size=n*k/\Df V (es.map eC).flatten cur:=by
 have a:(parts.toList.map (·.2)).length=n:=by simpa using u
 obtain⟨cur,c,p,B⟩:=RA (P:=P) (f:=f) (V:=V) (xs:=parts.toList.map (·.2)) (ρ:=ρ) y q j m (λx r e A=>h.get (by simp only[Op.operands];simpa using r) A) o s hk (by rw[a];exact l);rw[a]at c p;refine⟨cur,?_,p,B⟩;rw[hp]at c
 show ((do let v <-Instr.buildSlice t n (parts.map λ(i,x)=>(i,ρ x));pure (Go.Next.value v):Sem Go.Next)).run P V.w=_
 rw[Array.toArray_toList]at c;simp only[pp,c,lw];rfl
theorem Ro{t e:TypeId}{k b n:Nat}{z:List Value}{parts:Array (Nat×Operand)}{es:List E}{rows:List (List D)}[Y:Dp P t e k b][T:BP P e z](hp:DD 0 (parts.toList.map (·.2))=parts.toList)(N:parts.toList.length=n)
 (A:Jw f (parts.toList.map (·.2))=some es) (X:es.all Uu=true) (G:RV es=some rows) (hk:(rows.all λr=>Nat.beq r.length k)=true) (F:z.length=k) (H:z.all Pp=true) (K:Nat.ble 1 k=true) (p:Nat.ble (n*k) 16777216=true) :
 A5 P TB Γ ⟨d,.buildSlice t n parts,ty,pos,af,g⟩ f σ nx (.o (.d (.l rows))):=
 KG λV ρ h1 h2=>by
  have c:=RX G
  have s:∀x∈es,(eC x).length=k:=λx U=>by
   obtain⟨i,hi,rfl⟩:=um U
   have y:i<rows.length:=by omega
   obtain⟨e',m,S⟩:=c.2 i rows[i] (d5 y);rw[d5 hi]at m
   injection m with m
   rw[m,<-O5 S];exact gt (ge.1 hk _ (uy y))
  obtain⟨cur,m,S,h5⟩:=Jm Y.out T.out F H h1 hp N A X s (co p);obtain⟨hi,Q⟩:=h2.YR (w:=V.w.alloc (.cells cur e)) rfl rfl rfl (by simp) (λb hb=>A8 _ _ _ hb)
  have q:rows.length=n:=by
   rw[c.1,CZ A];simpa using N
  have a:∀(i:Nat) (r:List D) (j:Nat) (x:D),rows[i]?=some r->r[j]?=some x->∃v,cur[i*k+j]?=some v/\Dn V.I V.w x v:=λi r j x hi u=>by
   obtain⟨e',B,M⟩:=c.2 i r hi;have h8:=Np M j x u
   obtain⟨v,R,h⟩:=HM h5 (λr G=>by
    obtain⟨e2,L,rfl⟩:=d8.1 G
    exact s e2 L) i (eC e') j (.d x) (by simp[B]) h8
   cases h with
   | d h=>exact⟨v,R,h⟩
  have J:n<=maxLen:=by
   have R:=co p;have:n<=n*k:=vt _ (co K);unfold maxLen;omega
  refine⟨_,_,m,Q,hi,rfl,?_⟩;have hb:(MM V (V.w.alloc (.cells cur e))).I V.w.heap.size:=.inr rfl;have Z:(MM V (V.w.alloc (.cells cur e))).w.heap[V.w.heap.size]?=some (.cells cur e):=Cn _ _;have := @Dn.l (MM V (V.w.alloc (.cells cur e))).I (MM V (V.w.alloc (.cells cur e))).w rows V.w.heap.size 0 k n (λi j=>cur.getD (i*k+j) undef) hb (by omega) J
   (λi r hi=>gt (ge.1 hk _ (ce hi)))
   (λi r j x hi u=>by
    obtain⟨v,B,_⟩:=a i r j x hi u
    simp[World.cell?,Z,B])
   (λi r j x hi u=>by
    obtain⟨v,B,M⟩:=a i r j x hi u
    have:cur.getD (i*k+j) undef=v:=by simp[B]
    rw[this];exact M.ext Q)
  rw[q]at this;exact .d this
theorem En{t e:TypeId}{k b n:Nat}{z:List Value}{parts:Array (Nat×Operand)}{es:List E}[G:Dp P t e k b][A:BP P e z](hp:DD 0 (parts.toList.map (·.2))=parts.toList)(w:parts.toList.length=n)
 (l:Jw f (parts.toList.map (·.2))=some es) (F:es.all Uu=true) (j:∀x∈es,(eC x).length=k) (m:z.length=k) (p:z.all Pp=true) (s:Nat.ble 1 k=true) (a:Nat.ble (n*k) 16777216=true)
 (I:K (.o (.arr nx k 0 n)) ((nx,.cells e k (es.map eC))::σ) (nx+1)):CQ P TB Γ ⟨d,.buildSlice t n parts,ty,pos,af,g⟩ f σ nx K:=
 DM λV ρ N M v=>by
  subst v;obtain⟨cur,v,L,J⟩:=Jm G.out A.out m p N hp w l F j (co a)
  have i:(es.map eC).length=n:=by
   rw[io,CZ l];simpa using w
  have q:n<=maxLen:=by
   have R:=co a;have:n<=n*k:=vt _ (co s);unfold maxLen;omega
  have h:∀r∈es.map eC,r.length=k:=λr B=>by
   obtain⟨Q,u,rfl⟩:=d8.1 B;exact j Q u
  obtain⟨hi,H,y⟩:=XT M (e:=e) (k:=k) (c:=n) (rows:=es.map eC) (cur:=cur) rfl L (by omega) q h (HM J h);rw[i]at y;exact⟨_,_,_,_,v,H,hi,(show Bh _ (.o _) _ from y),I⟩
theorem Dx{V:View}{ρ:Operand->Value}{fl:List (Nat×Nat)}:∀(ps:List (Nat×Operand)) (es:List E) (qs:List (Nat×List C)),(∀x∈ps.map (·.2),∀e,ev f x=some e->Bh V e (ρ x))->Jw f (ps.map (·.2))=some es->Fk fl ps es=some qs->
 T9 V (fl[·]?) (ps.map λ(i,x)=>(i,ρ x)) qs
 | [],es,qs,_,a,h=>by
  injection a with a;subst a
  injection h with h;subst h;trivial
 | (i, x)::ps,es,qs,b,a,h=>by
  simp only[uS,Jw,pu,d7]at a;obtain⟨e',k,es',j,rfl⟩:=a;simp only[Fk]at h;split at h
  .rename_i off size c
   cases hb:Nat.beq (eC e').length size && Uu e'
   .rw[hb]at h;cases h
   .rw[hb]at h
    simp only[cond_true,d7]at h;obtain⟨qs',g,rfl⟩:=h;rw[d4]at hb;have:=gt hb.1;subst this;exact⟨c,Qp hb.2 (b x (by simp) e' k),Dx ps es' qs' (λy d=>b y (by simp at d |-;exact .inr d)) j g⟩
  .cases h
theorem MX{t:TypeId}{z:List Value}{fl:List (Nat×Nat)}{parts:Array (Nat×Operand)}{es:List E}{qs:List (Nat×List C)}[X:BP P t z][Z:Ei P t fl](R:Jw f (parts.toList.map (·.2))=some es)(Y:Fk fl parts.toList es=some qs)
 (M:z.all Pp=true) (N:(qs.all λx=>Nat.ble (x.1+x.2.length) z.length)=true):A5 P TB Γ ⟨d,.build t parts,ty,pos,af,g⟩ f σ nx (.a (Bl qs (z.map zC))):=
 AK λV ρ h1 _=>by
  obtain⟨i,zv,hi,A,s⟩:=Ie X.out;have Q:=Dx (V:=V) (ρ:=ρ) parts.toList es qs (λx J e he=>h1.get (by simp only[Op.operands];simpa using J) he) R Y
  have I:Df V (z.map zC) zv.cells:=by
   refine⟨by rw[io,<-s];simp,λj c v T S=>?_⟩;simp only[f9,d7]at T;obtain⟨u,k,rfl⟩:=T
   have:u=v:=by
    rw[<-s]at k;simp only[uT]at k;rw[k]at S;exact Option.some.inj S
   subst this;exact LW (ge.1 M u (ce k))
  obtain⟨cells,G,h4⟩:=Ho _ _ _ _ Q I (λx J=>by rw[io];exact JP _ _ N x J);have r:=Z.out
  have b:(parts.map λ(i,x)=>(i,ρ x)).toList=parts.toList.map λ(i,x)=>(i,ρ x):=by simp
  refine⟨.agg cells,?_,cells,rfl,h4⟩
  have hb : (Instr.build t (parts.map λ(i,x)=>(i,ρ x))).run P V.w=.ok (.agg cells) V.w:=by
   unfold qi at r;split at r
   .rename_i fs k
    have L:∀(l:List Field) (ll:List (Nat×Nat)),(l.mapM λf=>(P.info? f.type).map λi=>(f.offset,i.size))=some ll->∀w,((l.mapM λf=>do pure (f.offset,<-sizeOf f.type)):Sem (List (Nat×Nat))).run P w=.ok ll w:=by
     intro l
     induction l with
     | nil=>intro ll h w;simp at h;subst h;simp[go_sem]
     | cons y l H=>
      intro ll h w;simp only[wa,xn,pu,d7]at h;obtain⟨p,⟨ii,o,rfl⟩,ll',h5,U⟩:=h;simp at U;subst U
      have K:(sizeOf y.type).run P w=.ok ii.size w:=by simp[sizeOf,typeInfo,o,go_sem]
      have ihh:=H ll' h5 w;simp only[bind_pure_comp]at ihh;simp only[wa,pp,K,lw,bind_pure_comp,wz,ihh]
    have B:=L fs.toList fl r V.w
    have m:(zeroValue t).run P V.w=.ok zv V.w:=by simp[zeroValue,typeInfo,hi,A,go_sem]
    have ha:((fs.mapM λf=>do pure (f.offset,<-sizeOf f.type)):Sem (Array (Nat×Nat))).run P V.w=.ok fl.toArray V.w:=by
     rw[wO,wz,B];rfl
    rw[<-b]at G;simp only[Instr.build,pp,m,lw,run_underlying k,ha];simp only[u7];rw[G];rfl
   .rename_i n e k
    simp only[d7]at r;obtain⟨ii,o,rfl⟩:=r
    have m:(zeroValue t).run P V.w=.ok zv V.w:=by simp[zeroValue,typeInfo,hi,A,go_sem]
    have K:(sizeOf e).run P V.w=.ok ii.size V.w:=by simp[sizeOf,typeInfo,o,go_sem]
    have q:∀(ps:List (Nat×Value)) (c c':Array Value),Instr.fill (λi=>((List.range n).map λj=>(j*ii.size,ii.size))[i]?) c ps=some c'->Instr.fill (λi=>some (i*ii.size,ii.size)) c ps=some c':=by
     intro ps
     induction ps with
     | nil=>intro c c' h;simpa[Instr.fill]using h
     | cons p ps H=>
      intro c c' h;obtain⟨i',v'⟩:=p;unfold Instr.fill at h |-;by_cases F:i'<n
      .simp only [f9,wm F,uJ]at h
       simp only at h |-;split at h
       .cases h
       .rename_i hno
        rw[if_neg hno];exact H _ _ (by simpa only[f9]using h)
      .simp[F]at h
    rw[<-b]at G;simp only[Instr.build,pp,m,lw,run_underlying k,K];rw[q _ _ _ G];rfl
   .cases r
  show ((do let v <-Instr.build t (parts.map λ(i,x)=>(i,ρ x));pure (Go.Next.value v):Sem Go.Next)).run P V.w=_
  simp only[pp,hb,lw];rfl
theorem Fh(k e:Nat)(i:K (.o (.arr nx k 0 0)) ((nx,.cells e k [])::σ) (nx+1)):CQ P TB Γ ⟨d,.assign (.const (.slice none 0 0)),ty,pos,af,g⟩ f σ nx K:=by
 intro V a m l j;subst j;obtain⟨hi,h⟩:=l.alloc (c:=0) (nl:=True) (w:=V.w) (ob:=.cells e k []) rfl rfl rfl rfl (jp _) (λ_ _=>rfl) (.inl ⟨by simp[Aw],rfl⟩);unfold Oper.wp
 have b:(execOp a.eval ⟨d,.assign (.const (.slice none 0 0)),ty,pos,af,g⟩).run P V.w=.ok (.value (.slice none 0 0)) V.w:=by simp[execOp,go_sem]
 rw[b];exact⟨Aw V V.w.heap.size 0 True V.w,.slice none 0 0,.o (.arr V.nx k 0 0),_,rfl,rfl,h,hi,AD.nil (by simp[Aw]) (by simp[Aw]),i⟩
theorem oT{t:TypeId}{x:Operand}{s:List UInt8}[b:De P t](a:ev f x=some (eT s)):A5 P TB Γ ⟨d,.call ⟨.builtin .len,#[x],#[t]⟩,ty,pos,af,g⟩ f σ nx (eI .i64 s.length):=by
 have:=oS (t:=t) (P:=P) (TB:=TB) (Γ:=Γ) (d:=d) (ty:=ty) (pos:=pos) (af:=af) (g:=g) (σ:=σ) (nx:=nx) a;exact this
theorem jl{t:TypeId}{x y:Operand}{s:List UInt8}{n:Int}{c:UInt8}{ik:IntKind}[j:De P t](e:ev f x=some (eT s))(b:ev f y=some (eI ik n))
 (i:0<=n) (h:s[n.toNat]?=some c):A5 P TB Γ ⟨d,.index t x y,ty,pos,af,g⟩ f σ nx (eI .u8 (c.toNat:Int)):=by
 obtain⟨a,rfl⟩:=am.1 h;exact jk (P:=P) (TB:=TB) (Γ:=Γ) (d:=d) (ty:=ty) (pos:=pos) (af:=af) (g:=g) (σ:=σ) (nx:=nx) e b i a
theorem m8{t yt:TypeId}{x y:Operand}{a b:List UInt8}(e:ev f x=some (eT a))(c:ev f y=some (eT b))(j:a.length+b.length<=9223372036854775807) :
 A5 P TB Γ ⟨d,.binOp .add t x y yt,ty,pos,af,g⟩ f σ nx (eT (a++b)):=BM e c rfl λw=>by
 have i:¬((((⟨a.toArray⟩:ByteArray).size+(⟨b.toArray⟩:ByteArray).size:Nat):Int) > IntKind.i64.max):=by
  have:IntKind.i64.max=9223372036854775807:=by decide
  have l:(⟨a.toArray⟩:ByteArray).size=a.length:=by simp[ByteArray.size]
  have k:(⟨b.toArray⟩:ByteArray).size=b.length:=by simp[ByteArray.size]
  omega
 have h:(⟨a.toArray⟩:ByteArray)++⟨b.toArray⟩=⟨(a++b).toArray⟩:=by
  apply ByteArray.ext;simp
 have:(do eqGuard .add t x y (.string ⟨a.toArray⟩) (.string ⟨b.toArray⟩);binOp .add t (.string ⟨a.toArray⟩) (.string ⟨b.toArray⟩):Sem Value)=Op.stringOp .add ⟨a.toArray⟩ ⟨b.toArray⟩:=by
  simp[eqGuard,binOp]
 rw[this];unfold Op.stringOp;simp only;rw[if_neg i,h];rfl
theorem qL{t yt:TypeId}{x y:Operand}{a b:List UInt8}(e:ev f x=some (eT a))(c:ev f y=some (eT b)) :
 A5 P TB Γ ⟨d,.binOp .eql t x y yt,ty,pos,af,g⟩ f σ nx (eB (decide (a=b))):=BM e c rfl λw=>by
 simp[eqGuard,binOp,Op.stringOp,go_sem];rw[vw];simp
theorem qV{t yt:TypeId}{x y:Operand}{a b:List UInt8}(e:ev f x=some (eT a))(c:ev f y=some (eT b)) :
 A5 P TB Γ ⟨d,.binOp .neq t x y yt,ty,pos,af,g⟩ f σ nx (eB (decide (a≠b))):=BM e c rfl λw=>by
 simp[eqGuard,binOp,Op.stringOp,go_sem];rw[vw];simp
end
def C.rQ:C->Bool
 | .d (.v _)=>true
 | _=>false
def E.sc:E->Bool
 | .o c=>c.rQ
 | .a cs=>cs.all C.rQ
 | .t xs=>xs.all λx=>x.2.all C.rQ
 | .e=>true
theorem Nc{V V':View}{c:C}{v:Value}(h:AD V c v)(a:c.rQ=true):AD V' c v:=by
 cases h with
 | d h=>cases h with
  | v b=>exact .d (.v b)
  | _=>cases a
 | _=>cases a
theorem ZV{V V':View}{e:E}{v:Value}(h:Bh V e v)(l:e.sc=true):Bh V' e v:=by
 cases e with
 | e=>exact h
 | o c=>exact Nc h l
 | a cs=>
  obtain⟨vs,m,k⟩:=h;exact⟨vs,m,k.1,λj c v d f=>Nc (k.2 j c v d f) (ge.1 l c (ce d))⟩
 | t xs=>
  obtain⟨vs,m,k,q⟩:=h;refine⟨vs,m,k,λj x v d f=>?_⟩;have p:=q j x v d f;have n:=ge.1 l x (ce d);obtain⟨b,cs⟩:=x;cases b
  .obtain⟨c,g,i⟩:=p
   have g:cs=[c]:=g;subst g;exact⟨c,rfl,Nc i (ge.1 n c (by simp))⟩
  .obtain⟨ws,g,i⟩:=p
   exact⟨ws,g,i.1,λj c v d f=>Nc (i.2 j c v d f) (ge.1 n c (ce d))⟩
inductive CV (σ:Ac):C->C->Prop
 | pure {c:C}:c.Cg=true->CV σ c c
 | arr {id k off len:Nat} {T:TypeId} {rows:List (List C)} {ds:List (List D)}:look σ id=some (.cells T k rows)->off+len<=rows.length->(rows.drop off).take len=ds.map (λr=>r.map .d)->CV σ (.arr id k off len) (.d (.l ds))
 | ptr {id k i j:Nat} {T:TypeId} {rows:List (List C)} {r:List C} {ds:List D}:look σ id=some (.cells T k rows)->rows[i]?=some r->r.drop j=ds.map .d->CV σ (.ptr id k i j) (.ip ds)
inductive EV (σ:Ac):E->E->Prop
 | o {c c':C}:CV σ c c'->EV σ (.o c) (.o c')
 | nil:EV σ (.a []) (.a [])
 | cons {c c':C} {cs cs':List C}:CV σ c c'->EV σ (.a cs) (.a cs')->EV σ (.a (c::cs)) (.a (c'::cs'))
inductive nk (σ:Ac):List E->List E->Prop
 | nil:nk σ [] []
 | cons {e e':E} {es es':List E}:EV σ e e'->nk σ es es'->nk σ (e::es) (e'::es')
def IA(V:View)(σ:Ac):View:={ V with I:=λb=>V.I b\/∃id o,look σ id=some o/\¬V.nl id/\Fb V id o b,nx:=0 }
section
variable {P:Program}{TB:BB}{Γ:Ctx}{d:Option Tmp}{ty:TypeId}{pos:String}{af:Array Edge}{g:Option (Nat×Bool)}{f:Env}{σ:Ac}{nx:Nat}
variable {K:E->Ac->Nat->Prop}
theorem AD.qw{V:View}{c:C}{v:Value}(h:AD V c v)(hp:c.Cg=true):AD (IA V σ) c v:=by
 induction h with
 | d h=>exact .d (h.mono (λ_ h=>.inl h) λ_ _=>rfl)
 | nil=>simp[C.Cg]at hp
 | arr=>simp[C.Cg]at hp
 | ptr=>simp[C.Cg]at hp
 | fn f _ b=>
  simp only[C.Cg]at hp;exact .fn f λj c v a e=>b j c v a e (GB _ hp j c a)
 | mp=>simp[C.Cg]at hp
 | mv f _ b=>
  simp only[C.Cg]at hp;exact .mv f λj c v a e=>b j c v a e (GB _ hp j c a)
theorem Dn.qv{V:View}{x:D}{v:Value}(h:Dn V.I V.w x v):Dn (IA V σ).I (IA V σ).w x v:=h.mono (λ_ h=>.inl h) λ_ _=>rfl
theorem CV.rel{V:View}(hi:Inv TB Γ V σ){c c':C}{v:Value}(h:CV σ c c')(F:AD V c v):AD (IA V σ) c' v:=by
 cases h with
 | pure hp=>exact F.qw hp
 | @arr id k off len T rows ds z L u=>
  cases F with
  | nil K J=>
   have:ds=[]:=by
    have:=congrArg List.length u;simp at this;exact pi.1 this.symm
   subst this;exact .d .nil
  | arr K p J=>
   rcases hi.st.obj id _ z with ⟨t,_⟩|⟨_,cur,t,P,N,M,H,G⟩
   .exact absurd t p
   .have y:ds.length=len:=by
     have:=congrArg List.length u;simp at this;omega
    have m:∀(i:Nat) (r:List D),ds[i]?=some r->rows[off+i]?=some (r.map .d):=λi r hi=>by
     have n:((rows.drop off).take len)[i]?=some (r.map .d):=by rw[u];simp[hi]
     rw[uk]at n;split at n
     .rwa[ul]at n
     .cases n
    have a:∀(i:Nat) (r:List D) (j:Nat) (x:D),ds[i]?=some r->r[j]?=some x->∃v,cur[(off+i)*k+j]?=some v/\Dn V.I V.w x v:=λi r j x hi A=>by
     obtain⟨v,g,f⟩:=G (off+i) (r.map .d) j (.d x) (m i r hi) (by simp[A])
     cases f with
     | d f=>exact⟨v,g,f⟩
    rw[<-y]at J |-;refine .d (.l (b:=V.ρ id) (o:=off*k) (k:=k) (vs:=λi j=>cur.getD ((off+i)*k+j) undef) (.inr ⟨id,_,z,p,rfl⟩) (by omega) (by omega) (λi r hi=>?_) (λi r j x hi A=>?_) (λi r j x hi A=>?_))
    .have:=H _ (ce (m i r hi))
     simpa using this
    .obtain⟨v,g,_⟩:=a i r j x hi A
     have e:off*k+i*k+j=(off+i)*k+j:=by rw[ux]
     rw[e];have:(IA V σ).w.heap[V.ρ id]?=some (.cells cur T):=t;simp[World.cell?,this,g]
    .obtain⟨v,g,f⟩:=a i r j x hi A
     have:cur.getD ((off+i)*k+j) undef=v:=by simp[g]
     simp only[this];exact f.qv
 | @ptr id k i j T rows r ds z B u=>
  cases F with
  | ptr K p=>
   rcases hi.st.obj id _ z with ⟨t,_⟩|⟨_,cur,t,P,N,M,H,G⟩
   .exact absurd t p
   .have m:∀(q:Nat) (x:D),ds[q]?=some x->r[j+q]?=some (.d x):=λq x s=>by
     have n:(r.drop j)[q]?=some (.d x):=by rw[u];simp[s]
     rwa[ul]at n
    have a:∀(q:Nat) (x:D),ds[q]?=some x->∃v,cur[i*k+j+q]?=some v/\Dn V.I V.w x v:=λq x s=>by
     obtain⟨v,g,f⟩:=G i r (j+q) (.d x) B (m q x s)
     cases f with
     | d f=>exact⟨v,by rw[uu];exact g,f⟩
    refine .ip (V:=IA V σ) (vs:=λq=>cur.getD (i*k+j+q) undef) (.inr ⟨id,_,z,p,rfl⟩) (λq x s=>?_) (λq x s=>?_)
    .obtain⟨v,g,_⟩:=a q x s
     have:(IA V σ).w.heap[V.ρ id]?=some (.cells cur T):=t;simp[World.cell?,this,g]
    .obtain⟨v,g,f⟩:=a q x s
     have:cur.getD (i*k+j+q) undef=v:=by simp[g]
     simp only[this];exact f.qv
theorem EV.rel{V:View}(hi:Inv TB Γ V σ){e e':E}(h:EV σ e e'):∀ {v:Value},Bh V e v->Bh (IA V σ) e' v:=by
 have key:∀ {e e':E},EV σ e e'->(∀c c',e=.o c->e'=.o c'->CV σ c c')/\(∀cs cs',e=.a cs->e'=.a cs'->cs.length=cs'.length/\∀(j:Nat) c c',cs[j]?=some c->cs'[j]?=some c'->CV σ c c')/\((∃c c',e=.o c/\e'=.o c')\/∃cs cs',e=.a cs/\e'=.a cs'):=by
  intro e e' h
  induction h with
  | o k=>exact⟨λc c' d b=>(by injection d with d;injection b with b;subst d b;exact k),λ_ _ h=>(by cases h),.inl ⟨_,_,rfl,rfl⟩⟩
  | nil=>exact⟨λ_ _ h=>(by cases h),λcs cs' d b=>(by injection d with d;injection b with b;subst d b;exact⟨rfl,λj c c' f=>(by simp at f)⟩),.inr ⟨_,_,rfl,rfl⟩⟩
  | cons k _ s=>
   refine⟨λ_ _ h=>(by cases h),λcs cs' d b=>?_,.inr ⟨_,_,rfl,rfl⟩⟩
   injection d with d;injection b with b;subst d b
   have:=s.2.1 _ _ rfl rfl;refine⟨by simp[this.1],λj c c' f g=>?_⟩
   cases j with
   | zero=>simp at f g;subst f g;exact k
   | succ j=>exact this.2 j c c' (by simpa using f) (by simpa using g)
 intro v m;obtain⟨r,q,p⟩:=key h
 rcases p with ⟨c,c',rfl,rfl⟩|⟨cs,cs',rfl,rfl⟩
 .exact(r c c' rfl rfl).rel hi m
 .obtain⟨vs,rfl,d,b⟩:=m
  obtain⟨l,n⟩:=q cs cs' rfl rfl;refine⟨vs,rfl,by rw[d,l],λj c' u f t=>?_⟩
  have i:j<cs.length:=by rw[l];exact(am.1 f).1
  exact(n j cs[j] c' (d5 i) f).rel hi (b j _ u (d5 i) t)
theorem Mm{x:Operand}{args:Array Operand}{tys:Array TypeId}{gg:FuncId}{vs:Array Value}(f:fK P gg){ρ:Operand->Value}(e:ρ x=.func (.func gg) #[] vs)(w:World) :
 (execOp ρ ⟨d,.call ⟨.value x,args,tys⟩,ty,pos,af,g⟩).run P w=.ok (.enter gg (args.map ρ++vs)) w:=by
 obtain⟨fn,i,h,b⟩:=f
 have hb:∃c,fn.body=some c:=by cases hb:fn.body with|none=>rw[hb]at b;cases b|some c=>exact⟨c,rfl⟩
 obtain⟨c,hb⟩:=hb;simp only[execOp,resolve,e,Deferred.ofValue,pure_bind,invoke,callFunc]
 have a:¬fn.name = "runtime.NumGoroutine" := by simpa using h
 simp[Sem.run,program,i,a,hb,go_sem]
theorem Io{V:View}{ρ:Operand->Value}{args:List Operand}{es:List E}(h:∀x∈args,∀e,ev f x=some e->Bh V e (ρ x))(a:Jw f args=some es) :
 ∀(j:Nat) e v,es[j]?=some e->(args.map ρ)[j]?=some v->Bh V e v:=by
 intro j e v d c;simp only[f9,d7]at c;obtain⟨x,b,rfl⟩:=c;exact h x (ce b) e (bA a j x e b d)
theorem Qt{V:View}{gg:FuncId}{cap:List C}{v:Value}(h:Bh V (.o (.fn gg cap)) v):∃vs,v=.func (.func gg) #[] vs/\Df V cap vs:=by
 have h:AD V (.fn gg cap) v:=h;generalize a:C.fn gg cap=c at h;cases h<;>cases a;rename_i vs d b;exact⟨vs,rfl,d,b⟩
theorem Ln{V Vc V1:View}{S:VS}(h:Inv TB Γ V σ)(m:Pc TB V σ S)(y:∀b,S.J b->Γ.J b\/Γ.V.w.heap.size<=b\/Γ.F b)(j:∀b,S.B b->Γ.V.w.heap.size<=b\/Γ.F b)(k:Vc.w=V.w){u:Ac}(q:Inv TB (FO Vc Vc [] S) V1 u)(I':Nat->Prop)(p:∀b,V.I b->I' b)(n:∀b,I' b->V.I b\/(V.w.heap.size<=b/\b<V1.w.heap.size)\/S.B b)
 (A:∀b,V1.I b->(V.w.heap.size<=b\/S.B b)->I' b) (z:∀b,I' b->V1.I b) :
 Inv TB Γ { V with I:=I',w:=V1.w } σ/\Ext V { V with I:=I',w:=V1.w } := by
 have d:∀b,b<V.w.heap.size->¬S.B b->V1.w.heap[b]?=V.w.heap[b]?:=λb hb g=>by
  have:=q.old b (by show b<Vc.w.heap.size;rw[k];exact hb) (λh=>h.elim (λ⟨_,_,h,_⟩=>by cases h) g)
  rw[this];show Vc.w.heap[b]?=_;rw[k]
 have l:V.w.heap.size<=V1.w.heap.size:=by have i:Vc.w.heap.size<=V1.w.heap.size:=q.ext.size;rw[k]at i;exact i
 have e:Ext V { V with I:=I',w:=V1.w } := ⟨p,λb hb=>d b (h.iLt b hb) λs=>m.bi b s hb,l,λ_ _=>rfl,λ_ _=>rfl,λ_ _=>Iff.rfl,jp _⟩
 refine⟨⟨?_,?_,?_,λb hb t=>(d b (ol hb h.ext.size) λs=>(j b s).elim (λh=>by omega) t).trans (h.old b hb t),?_,?_,h.ext.trans e,⟨?_,h.st.lt,?_,h.st.inj⟩,h.live,?_,?_⟩,e⟩
 .have i:V1.w.os=Vc.w.os:=q.os
  rw[k]at i;exact i.trans h.os
 .have i:V1.w.tape=Vc.w.tape:=q.tape
  rw[k]at i;exact i.trans h.tape
 .have i:V1.w.output=Vc.w.output:=q.output
  rw[k]at i;exact i.trans h.output
 .intro b hb
  rcases n b hb with a|a|a
  .exact ol (h.iLt b a) l
  .exact a.2
  .exact ol (m.r.blt a) l
 .intro b hb
  rcases n b hb with a|a|a
  .exact h.iNew b a
  .exact .inr (.inl (l3 h.ext.size a.1))
  .exact .inr (j b a)
 .intro id o f
  exact(h.st.obj id o f).AM e (h.st.lt id o f) λg b hb=>d _ ((h.st.obj id o f).blt g hb) (m.ap b ⟨id,o,f,g,hb⟩)
 .intro id o f g b c hb
  have c:=(Az e (h.st.lt id o f)).1 c
  rcases n _ hb with a|a|a
  .exact h.st.free id o f g b c a
  .have:=(h.st.obj id o f).blt g c
   have N:V.w.heap.size<=b:=a.1;omega
  .exact m.ap b ⟨id,o,f,g,c⟩ a
 .intro x s
  have:=h.tabs x s;exact⟨p _ this.1,(d _ (h.iLt _ this.1) λM=>m.bi _ M this.1).trans this.2⟩
 .obtain⟨S1,v,L,K⟩:=q.hid
  have H:∀b,S1.B b->V.w.heap.size<=b\/S.B b:=λb hb=>by
   rcases K b hb with a|a|a
   .have a:Vc.w.heap.size<=b:=a
    rw[k]at a;exact .inl a
   .obtain⟨_,_,h,_⟩:=a;cases h
   .exact .inr a
  have G:∀b,S1.J b->S.J b\/V.w.heap.size<=b\/S.B b:=λb hb=>by
   rcases L b hb with a|a|a|a
   .exact .inl a
   .have a:Vc.w.heap.size<=b:=a
    rw[k]at a;exact .inr (.inl a)
   .obtain⟨_,_,h,_⟩:=a;cases h
   .exact .inr (.inr a)
  refine⟨S1,⟨v.r,λb hb=>?_,λb hb hi=>v.bi b hb (z b hi),λb t hb=>?_⟩,λb hb=>?_,λb hb=>?_⟩
  .rcases G b hb with a|a
   .exact p b (m.ji b a)
   .exact A b (v.ji b hb) a
  .obtain⟨id,o,f,g,c⟩:=JQ e h.st.lt t
   rcases H b hb with a|a
   .have:=(h.st.obj id o f).blt g c
    omega
   .exact m.ap b ⟨id,o,f,g,c⟩ a
  .rcases G b hb with a|a|a
   .exact y b a
   .exact .inr (.inl (l3 h.ext.size a))
   .exact .inr (j b a)
  .rcases H b hb with a|a
   .exact .inl (l3 h.ext.size a)
   .exact j b a
theorem EL{V:View}:Il V []:=⟨λ_ _ h=>(by cases h),λ_ _ h=>(by cases h),λ_ _ h=>(by cases h),λ_ _ _ _ h=>(by cases h)⟩
theorem Bo{x:Operand}{args:Array Operand}{tys:Array TypeId}{gg:FuncId}{cap:List C}{es:List E}{r:E}(R:ev f x=some (.o (.fn gg cap)))(t:Jw f args.toList=some es)(hp:(es.all E.Cg && C.Db cap)=true)
 (L:Pure P TB gg (es++cap.map .o) r) (T:r.Cg=true):A5 P TB Γ ⟨d,.call ⟨.value x,args,tys⟩,ty,pos,af,g⟩ f σ nx r:=by
 intro V a z B X;have z:=z.HK;unfold Oper.wp;generalize a.eval=ρ at z |-;obtain⟨vs,p,l⟩:=Qt (z.get (x:=x) (by simp[Op.operands,Call.operands]) R);rw[Mm L.1 p];rw[d4]at hp;have u:=CZ t
 have n:O9 { V with nx:=0 } (es++cap.map .o) (args.map ρ++vs):=by
  refine⟨by simp[l.1,u],λj e v q p=>?_⟩
  have m:(args.map ρ).size=es.length:=by simp[u]
  by_cases s:j<es.length
  .rw[gc s]at q
   rw[t9 (by rw[m];exact s)]at p;refine Bh.Cg (V:=V) (V':={ V with nx:=0 }) rfl rfl (Io (λy Q e U=>z.get (by simp[Op.operands,Call.operands];right;simpa using Q) U) t j e v q (by rw[<-wk];simpa using p)) (ge.1 hp.1 e (ce q))
  .rw[i7 (by omega)]at q
   rw[vg (by rw[m];omega),m]at p;simp only[f9,d7]at q;obtain⟨c,M,rfl⟩:=q;exact AD.Cg (V:=V) (V':={ V with nx:=0 }) rfl rfl (l.2 _ c v M p) (GB _ hp.2 _ c M)
 obtain⟨S,A,J,K⟩:=B.hid;refine(L.2 { V with nx:=0 } _ S ⟨B.iLt,EL,B.tabs,rfl,⟨A.r,A.ji,A.bi,λb ⟨_,_,h,_⟩=>by cases h⟩⟩ n).mono ?_;rintro e w' ⟨V1,v,Y,N,rfl,rfl,k,F,rfl⟩
 obtain⟨G,H⟩:=Ln B A J K (Vc:={ V with nx:=0 }) rfl k V1.I (λb hb=>k.ext.i b hb) (λb hb=>by
  rcases k.iNew b hb with h|h|h|h
  .exact .inl h
  .exact .inr (.inl ⟨h,k.iLt b hb⟩)
  .obtain⟨_,_,h,_⟩:=h;cases h
  .exact .inr (.inr h)) (λb hb _=>hb) (λb hb=>hb)
 exact⟨{ V with I:=V1.I,w:=V1.w },v,rfl,rfl,H,G,X,Bh.Cg (V:=V1) (V':={ V with I:=V1.I,w:=V1.w }) rfl rfl F T⟩
theorem Jj{x:Operand}{args:Array Operand}{tys:Array TypeId}{gg:FuncId}{cap:List C}{es es':List E}{r:E}(H:ev f x=some (.o (.fn gg cap)))(K:Jw f args.toList=some es)(q:nk σ (es++cap.map .o) es')
 (hs:Pure P TB gg es' r) (hr:r.sc=true):A5 P TB Γ ⟨d,.call ⟨.value x,args,tys⟩,ty,pos,af,g⟩ f σ nx r:=by
 intro V a G p h3;have G:=G.HK;unfold Oper.wp;generalize a.eval=ρ at G |-;obtain⟨vs,Q,t⟩:=Qt (G.get (x:=x) (by simp[Op.operands,Call.operands]) H);rw[Mm hs.1 Q];have L:=CZ K
 have n:O9 V (es++cap.map .o) (args.map ρ++vs):=by
  refine⟨by simp[t.1,L],λj e v m q=>?_⟩
  have u:(args.map ρ).size=es.length:=by simp[L]
  by_cases k:j<es.length
  .rw[gc k]at m
   rw[t9 (by rw[u];exact k)]at q;exact Io (λy hy e he=>G.get (by simp[Op.operands,Call.operands];right;simpa using hy) he) K j e v m (by rw[<-wk];simpa using q)
  .rw[i7 (by omega)]at m
   rw[vg (by rw[u];omega),u]at q;simp only[f9,d7]at m;obtain⟨c,hc,rfl⟩:=m;exact t.2 _ c v hc q
 have R:∀ {l l':List E},nk σ l l'->l.length=l'.length/\∀(j:Nat) e e',l[j]?=some e->l'[j]?=some e'->EV σ e e':=by
  intro l l' h
  induction h with
  | nil=>exact⟨rfl,λj e e' m=>by simp at m⟩
  | cons h _ ih=>
   refine⟨by simp[ih.1],λj e e' m z=>?_⟩
   cases j with
   | zero=>simp at m z;subst m z;exact h
   | succ j=>exact ih.2 j e e' (by simpa using m) (by simpa using z)
 obtain⟨s,J⟩:=R q
 have F:O9 (IA V σ) es' (args.map ρ++vs):=by
  refine⟨by rw[n.1,s],λj e v m q=>?_⟩
  have k:j<(es++cap.map E.o).length:=by rw[s];exact(am.1 m).1
  exact(J j _ e (d5 k) m).rel p (n.2 j _ v (d5 k) q)
 have k:∀b,(IA V σ).I b->b<(IA V σ).w.heap.size:=by
  rintro b (hb|⟨id,o,U,T,hb⟩)
  .exact p.iLt b hb
  .exact(p.st.obj id o U).blt T hb
 obtain⟨S,M,Z,hSB⟩:=p.hid;refine(hs.2 (IA V σ) _ S ⟨k,EL,λx H=>⟨.inl (p.tabs x H).1,(p.tabs x H).2⟩,rfl,⟨M.r,λb hb=>.inl (M.ji b hb),λb hb hi=>hi.elim (M.bi b hb) λ⟨id,o,U,T,H⟩=>M.ap b ⟨id,o,U,T,H⟩ hb,λb ⟨_,_,h,_⟩=>by cases h⟩⟩ F).mono ?_;rintro e w' ⟨V1,v,x1,σ1,rfl,rfl,A,N,rfl⟩;obtain⟨X,Y⟩:=Ln p M Z hSB (Vc:=IA V σ) rfl A (λb=>V.I b\/(V.w.heap.size<=b\/S.B b)/\V1.I b) (λb hb=>.inl hb) (λb hb=>hb.elim .inl λh=>.inr (h.1.elim (λg=>.inl ⟨g,A.iLt b h.2⟩) .inr)) (λb G p=>.inr ⟨p,G⟩) (λb hb=>hb.elim (λh=>A.ext.i b (.inl h)) λh=>h.2);exact⟨{ V with I:=λb=>V.I b\/(V.w.heap.size<=b\/S.B b)/\V1.I b,w:=V1.w },v,rfl,rfl,Y,X,h3,ZV N hr⟩
end
def BR:List Nat->Ac->Ac
 | [],σ=>σ
 | id::r,σ=>BR r (kill id σ)
theorem A3:∀(ids:List Nat) (σ:Ac) (i:Nat) (o:O),look (BR ids σ) i=some o->i∉ids/\look σ i=some o
 | [],σ,i,o,h=>⟨by simp,h⟩
 | id :: r,σ,i,o,h=>by
  obtain⟨b,a⟩:=A3 r (kill id σ) i o h;rw[FV]at a;by_cases hi:i=id
  .rw[if_pos hi]at a;cases a
  .rw[if_neg hi]at a
   exact⟨by simp[hi,b],a⟩
inductive FC (σ:Ac) (ids:List Nat):C->C->Prop
 | AM {c:C}:FC σ ids c c
 | arr {id k off len:Nat} {T:TypeId} {rows:List (List C)} {ds:List (List D)}:id∈ids->look σ id=some (.cells T k rows)->off+len<=rows.length->(rows.drop off).take len=ds.map (λr=>r.map .d)->FC σ ids (.arr id k off len) (.d (.l ds))
 | ptr {id k i j:Nat} {T:TypeId} {rows:List (List C)} {r:List C} {ds:List D}:id∈ids->look σ id=some (.cells T k rows)->rows[i]?=some r->r.drop j=ds.map .d->FC σ ids (.ptr id k i j) (.ip ds)
inductive FE (σ:Ac) (ids:List Nat):E->E->Prop
 | AM {e:E}:FE σ ids e e
 | o {c c':C}:FC σ ids c c'->FE σ ids (.o c) (.o c')
 | nil:FE σ ids (.a []) (.a [])
 | cons {c c':C} {cs cs':List C}:FC σ ids c c'->FE σ ids (.a cs) (.a cs')->FE σ ids (.a (c::cs)) (.a (c'::cs'))
def Ez(σ:Ac)(ids:List Nat)(f:Env):List (Nat×E)->Prop
 | []=>True
 | (t,e')::L=>(∃e,f t=some e/\FE σ ids e e')/\Ez σ ids f L
theorem Ez.get{σ:Ac}{ids:List Nat}{f:Env}:∀ {L:List (Nat×E)},Ez σ ids f L->∀t e',look L t=some e'->∃e,f t=some e/\FE σ ids e e'
 | [],_,t,e,h=>by cases h
 | (k,x)::L,a,t,e,h=>by
  rw[Ay]at h;by_cases hk:k=t
  .rw[if_pos hk]at h;injection h with h;subst h;subst hk;exact a.1
  .rw[if_neg hk]at h;exact Ez.get a.2 t e h
def Lu(V:View)(σ:Ac)(ids:List Nat):View:={ V with I:=λb=>V.I b\/∃id o,id∈ids/\look σ id=some o/\¬V.nl id/\Fb V id o b }
section
variable {P:Program}{TB:BB}{Γ:Ctx}{N:Nat}{σ:Ac}
theorem PA{V:View}{ids:List Nat}:Ext V (Lu V σ ids):=⟨λ_ h=>.inl h,λ_ _=>rfl,jp _,λ_ _=>rfl,λ_ _=>rfl,λ_ _=>Iff.rfl,jp _⟩
theorem FC.rel{V:View}(hi:Inv TB Γ V σ){ids:List Nat}{c c':C}{v:Value}(h:FC σ ids c c')(G:AD V c v):AD (Lu V σ ids) c' v:=by
 have e:Ext V (Lu V σ ids):=PA
 cases h with
 | AM=>exact G.ext e
 | @arr id k off len T rows ds F z M u=>
  cases G with
  | nil L K=>
   have:ds=[]:=by
    have:=congrArg List.length u;simp at this;exact pi.1 this.symm
   subst this;exact .d .nil
  | arr L p K=>
   rcases hi.st.obj id _ z with ⟨t,_⟩|⟨_,cur,t,Q,P,N,J,H⟩
   .exact absurd t p
   .have y:ds.length=len:=by
     have:=congrArg List.length u;simp at this;omega
    have m:∀(i:Nat) (r:List D),ds[i]?=some r->rows[off+i]?=some (r.map .d):=λi r hi=>by
     have n:((rows.drop off).take len)[i]?=some (r.map .d):=by rw[u];simp[hi]
     rw[uk]at n;split at n
     .rwa[ul]at n
     .cases n
    have a:∀(i:Nat) (r:List D) (j:Nat) (x:D),ds[i]?=some r->r[j]?=some x->∃v,cur[(off+i)*k+j]?=some v/\Dn V.I V.w x v:=λi r j x hi A=>by
     obtain⟨v,g,f⟩:=H (off+i) (r.map .d) j (.d x) (m i r hi) (by simp[A])
     cases f with
     | d f=>exact⟨v,g,f⟩
    rw[<-y]at K |-;refine .d (.l (b:=V.ρ id) (o:=off*k) (k:=k) (vs:=λi j=>cur.getD ((off+i)*k+j) undef) (.inr ⟨id,_,F,z,p,rfl⟩) (by omega) (by omega) (λi r hi=>?_) (λi r j x hi A=>?_) (λi r j x hi A=>?_))
    .have:=J _ (ce (m i r hi))
     simpa using this
    .obtain⟨v,g,_⟩:=a i r j x hi A
     have e:off*k+i*k+j=(off+i)*k+j:=by rw[ux]
     rw[e];have:(Lu V σ ids).w.heap[V.ρ id]?=some (.cells cur T):=t;simp[World.cell?,this,g]
    .obtain⟨v,g,f⟩:=a i r j x hi A
     have:cur.getD ((off+i)*k+j) undef=v:=by simp[g]
     simp only[this];exact f.ext e
 | @ptr id k i j T rows r ds F z B u=>
  cases G with
  | ptr L p=>
   rcases hi.st.obj id _ z with ⟨t,_⟩|⟨_,cur,t,Q,P,N,J,H⟩
   .exact absurd t p
   .have m:∀(q:Nat) (x:D),ds[q]?=some x->r[j+q]?=some (.d x):=λq x s=>by
     have n:(r.drop j)[q]?=some (.d x):=by rw[u];simp[s]
     rwa[ul]at n
    have a:∀(q:Nat) (x:D),ds[q]?=some x->∃v,cur[i*k+j+q]?=some v/\Dn V.I V.w x v:=λq x s=>by
     obtain⟨v,g,f⟩:=H i r (j+q) (.d x) B (m q x s)
     cases f with
     | d f=>exact⟨v,by rw[uu];exact g,f⟩
    refine .ip (V:=Lu V σ ids) (vs:=λq=>cur.getD (i*k+j+q) undef) (.inr ⟨id,_,F,z,p,rfl⟩) (λq x s=>?_) (λq x s=>?_)
    .obtain⟨v,g,_⟩:=a q x s
     have:(Lu V σ ids).w.heap[V.ρ id]?=some (.cells cur T):=t;simp[World.cell?,this,g]
    .obtain⟨v,g,f⟩:=a q x s
     have:cur.getD (i*k+j+q) undef=v:=by simp[g]
     simp only[this];exact f.ext e
theorem FE.rel{V:View}(hi:Inv TB Γ V σ){ids:List Nat}{e e':E}(h:FE σ ids e e'):∀ {v:Value},Bh V e v->Bh (Lu V σ ids) e' v:=by
 induction h with
 | AM=>intro v a;exact a.ext PA
 | o f=>intro v a;exact f.rel hi a
 | nil=>intro v a;obtain⟨vs,rfl,d,_⟩:=a;exact⟨vs,rfl,d,λj c v b=>by simp at b⟩
 | @cons c c' cs cs' f _ k=>
  rintro v ⟨vs,rfl,d,i⟩
  have l:0<vs.size:=by rw[d];simp
  have ht:=@k (.agg (vs.extract 1 vs.size)) ⟨_,rfl,by simp[d],λj c v b a=>i (j+1) c v (by simpa using b) (by
   rw[w7]at a;split at a
   .rw[wS]at a;exact a
   .cases a)⟩
  obtain⟨ws,g,p,n⟩:=ht
  injection g with g
  subst g;refine⟨vs,rfl,by simp at p |-;omega,λj q v b a=>?_⟩
  cases j with
  | zero=>
   simp at b;subst b;exact f.rel hi (i 0 c v (by simp) a)
  | succ j=>
   refine n j q v (by simpa using b) ?_;have m:=(rt.1 a).1;rw[w7,if_pos (by omega),wS];exact a
theorem Cw.freeze{V:View}{f:Env}{nx:Nat}{a:Act}(h:Cw TB Γ N V f σ nx a)(ids:List Nat)(L:List (Nat×E))(r:Ez σ ids f L):Cw TB Γ N (Lu V σ ids) (look L) (BR ids σ) nx a:=by
 have e:Ext V (Lu V σ ids):=PA;refine⟨λt x l=>?_,λt x l=>?_,h.size,?_,h.nx,h.defers⟩
 .obtain⟨y,n,g⟩:=r.get t x l
  exact g.rel h.inv (h.env t y n)
 .obtain⟨y,n,_⟩:=r.get t x l
  exact h.lt t y n
 .have hi:=h.inv
  refine⟨hi.os,hi.tape,hi.output,hi.old,?_,?_,hi.ext.trans e,⟨?_,?_,?_,?_⟩,?_,λx l=>⟨.inl (hi.tabs x l).1,(hi.tabs x l).2⟩,hi.hid.same rfl (λ_ h=>.inl h) (λb hb=>hb.elim .inl λ⟨id,o,_,c,d,q⟩=>.inr ⟨id,o,c,d,q⟩) λb ⟨id,o,c,d,hb⟩=>have g:=(A3 ids σ id o c).2;⟨id,o,g,d,(Az e (hi.st.lt id o g)).1 hb⟩⟩
  .rintro b (hb|⟨id,o,_,c,d,hb⟩)
   .exact hi.iLt b hb
   .exact(hi.st.obj id o c).blt d hb
  .rintro b (hb|⟨id,o,_,c,d,hb⟩)
   .exact hi.iNew b hb
   .exact .inr (hi.live id o c d b hb)
  .intro id o c
   have:=(A3 ids σ id o c).2;exact(hi.st.obj id o this).AM e (hi.st.lt id o this) λ_ _ _=>rfl
  .intro id o c;exact hi.st.lt id o (A3 ids σ id o c).2
  .intro id o c d b i hb
   obtain⟨n,g⟩:=A3 ids σ id o c;have i:=(Az e (hi.st.lt id o g)).1 i
   rcases hb with hb|⟨id',o',s,k,j,q⟩
   .exact hi.st.free id o g d b i hb
   .exact hi.st.inj id id' o o' g k (λe=>n (e▸s)) d j b i q
  .intro id id' o o' c k p d j b hb i
   have g:=(A3 ids σ id o c).2;have m:=(A3 ids σ id' o' k).2;exact hi.st.inj id id' o o' g m p d j b ((Az e (hi.st.lt id o g)).1 hb) ((Az e (hi.st.lt id' o' m)).1 i)
  .intro id o c d b hb
   have g:=(A3 ids σ id o c).2;exact hi.live id o g d b ((Az e (hi.st.lt id o g)).1 hb)
theorem FC.full{ids:List Nat}{id k len:Nat}{T:TypeId}{rows:List (List C)}{ds:List (List D)}(c:id∈ids)(e:look σ id=some (.cells T k rows))(a:rows=ds.map (λr=>r.map .d))(b:rows.length=len):FC σ ids (.arr id k 0 len) (.d (.l ds)):=
 .arr c e (by omega) (by rw[uR,<-b,i9];exact a)
theorem CV.full{id k len:Nat}{T:TypeId}{rows:List (List C)}{ds:List (List D)}(c:look σ id=some (.cells T k rows))(a:rows=ds.map (λr=>r.map .d))(b:rows.length=len):CV σ (.arr id k 0 len) (.d (.l ds)):=
 .arr c (by omega) (by rw[uR,<-b,i9];exact a)
theorem Al.freeze{c:Code}{Q:Exit->Env->Ac->Nat->Prop}{f:Env}{nx:Nat}(ids:List Nat)(L:List (Nat×E))(d:Ez σ ids f L)(h:Al P TB Γ N c Q (look L) (BR ids σ) nx):Al P TB Γ N c Q f σ nx:=
 λV a b=>h (Lu V σ ids) a (b.freeze ids L d)
end
end Go.Am
namespace Go.Proofs.YtdipaikojjjebaaGreatDoor
open Go
theorem Su:mapsRowed Tryz.prog=true:=by kernel_rfl
theorem dA:(Tryz.prog.stops == [])=true:=by kernel_rfl
theorem dw:(Tryz.prog.stopKnobs == [])=true:=by kernel_rfl
theorem dv:Tryz.prog.stopsHeard=true:=by kernel_rfl
theorem Sv:(false == Tryz.prog.plainKeys)=true:=by kernel_rfl
end Go.Proofs.YtdipaikojjjebaaGreatDoor
