/-
  A machine of pure data over the kit's machine: values without addresses, their reading in a world, the walk of code over them, any order of a region that draws.
-/
import Derived.Still
import Derived.Laws.AppendOwn
import Derived.Test.YtdipaikojjjebaaGreatDoorRows
import Derived.JoinedCond
import Derived.KernelRfl
set_option linter.all false
namespace Go.Am
abbrev am:=@List.getElem?_eq_some_iff
abbrev ce:=@Nat.le_of_ble_eq_true
abbrev co:=@List.mem_of_getElem?
abbrev d4:=@Bool.and_eq_true
abbrev d5:=@Function.comp_def
abbrev d6:=@List.getElem?_eq_getElem
abbrev d7:=@Option.map_eq_some_iff
abbrev d8:=@Int.toNat_natCast
abbrev d9:=@List.mem_map
abbrev f6:=@List.getElem?_map
abbrev f9:=@List.getElem?_append_left
abbrev gc:=@List.mem_append
abbrev ge:=@List.all_eq_true
abbrev gt:=@List.length_map
abbrev i7:=@List.take_add_one
abbrev i8:=@List.take_length
abbrev i9:=@Nat.eq_of_beq_eq_true
abbrev io:=@List.getElem?_append_right
abbrev jp:=@List.getD_eq_getElem?_getD
abbrev kw:=@List.take_of_length_le
abbrev lc:=@Nat.le_refl
abbrev lm:=@Result.andThen_ok
abbrev lw:=@List.mem_cons
abbrev ms:=@Nat.zero_add
abbrev mt:=@Nat.not_lt_zero
abbrev ol:=@List.nodup_nil
abbrev pi:=@List.mem_range
abbrev pm:=@Nat.le_trans
abbrev pp:=@List.length_eq_zero_iff
abbrev pu:=@Sem.run_bind
abbrev q6:=@List.mem_append_left
abbrev q7:=@List.mem_of_mem_take
abbrev q8:=@List.pairwise_iff_getElem
abbrev q9:=@List.getElem_of_mem
abbrev qT:=@List.getElem?_eq_none
abbrev qU:=@Array.getElem?_eq_getElem
abbrev qV:=@Nat.lt_of_lt_of_le
abbrev qW:=@Bool.or_eq_true
abbrev qX:=@List.mem_filter
abbrev qY:=@Option.bind_eq_some_iff
abbrev qZ:=@Array.getElem?_eq_some_iff
abbrev r5:=@Bool.not_true
abbrev r6:=@Bool.not_false
abbrev r7:=@Int.mul_le_mul_of_nonneg_right
abbrev r8:=@List.nodup_append
abbrev rA:=@Int.emod_lt_of_pos
abbrev rB:=@List.map_congr_left
abbrev rC:=@Int.mul_le_mul_of_nonneg_left
abbrev rF:=@List.getElem_mem
abbrev rH:=@Int.mul_nonneg
abbrev rI:=@List.map_append
abbrev rJ:=@List.idxOf_lt_length_iff
abbrev rK:=@List.pairwise_cons
abbrev rL:=@List.map_map
abbrev rM:=@Option.map_some
abbrev rN:=@Int.emod_nonneg
abbrev rO:=@List.length_cons
abbrev rP:=@List.mem_cons_of_mem
abbrev rQ:=@Nat.zero_le
abbrev rR:=@Nat.mul_le_mul_right
abbrev rS:=@List.getElem?_set_self
abbrev rT:=@List.getElem?_set_ne
abbrev rU:=@Nat.pow_le_pow_right
abbrev rV:=@Nat.eq_zero_or_pos
abbrev rW:=@List.length_append
abbrev rX:=@List.map_cons
abbrev rY:=@Array.getElem?_toList
abbrev rZ:=@List.take_append_drop
abbrev rf:=@Int.mul_le_mul
abbrev rh:=@List.getElem?_take
abbrev rm:=@List.getElem?_drop
abbrev rn:=@Nat.lt_or_ge
abbrev ro:=@Bool.true_and
abbrev rr:=@List.mem_append_right
abbrev rt:=@Nat.mod_eq_of_lt
abbrev ru:=@Array.getElem?_append_left
abbrev rv:=@List.append_nil
abbrev rx:=@List.length_set
abbrev ry:=@Nat.add_mul
abbrev rz:=@Nat.add_assoc
abbrev s5:=@Int.mul_assoc
abbrev s6:=@List.replicate_succ
abbrev s7:=@Int.ediv_le_self
abbrev s8:=@List.mem_flatMap
abbrev s9:=@List.any_eq_true
abbrev sB:=@List.mem_iff_getElem?
abbrev sD:=@Nat.testBit_or
abbrev sE:=@Nat.eq_of_testBit_eq
abbrev sF:=@Nat.le_mul_of_pos_right
abbrev sG:=@Array.getElem?_append_right
abbrev sH:=@Bool.eq_iff_iff
abbrev sJ:=@Nat.testBit_two_pow
abbrev sK:=@Int.toNat_of_nonneg
abbrev sL:=@List.length_take
abbrev sO:=@Array.getElem?_setIfInBounds_ne
abbrev sQ:=@List.mem_of_mem_drop
abbrev sR:=@List.eq_of_mem_replicate
abbrev sS:=@Array.eq_empty_of_size_eq_zero
abbrev sT:=@List.range_succ
abbrev sU:=@List.pairwise_append
abbrev sV:=@Nat.lt_succ_of_lt
abbrev sW:=@Bool.not_eq_true'
abbrev sY:=@List.map_inj_left
abbrev sZ:=@Nat.or_lt_two_pow
abbrev se:=@List.pairwise_map
abbrev sf:=@List.getElem?_toArray
abbrev sg:=@Array.getElem?_setIfInBounds
abbrev sh:=@List.map_set
abbrev si:=@List.foldl_cons
abbrev sj:=@List.filter_append
abbrev sk:=@Bool.false_ne_true
abbrev sq:=@List.filter_cons_of_pos
abbrev sr:=@Option.getD_some
abbrev su:=@List.cons_append
abbrev sv:=@List.drop_zero
abbrev sw:=@List.ext_getElem?
abbrev sx:=@Int.ediv_nonneg
abbrev t6:=@Bool.or_true
abbrev t7:=@Array.toList_map
abbrev t8:=@List.filter_cons
abbrev t9:=@List.not_mem_nil
abbrev tB:=@List.getElem?_eq_none_iff
abbrev tC:=@List.mapM_cons
abbrev tE:=@Bool.false_and
abbrev tF:=@Option.bind_some
abbrev tG:=@Nat.lt_succ_self
abbrev tH:=@Int.mul_comm
abbrev tJ:=@Nat.lt_succ_iff_lt_or_eq
abbrev tK:=@List.drop_length
abbrev tL:=@List.getElem?_range
abbrev tN:=@Int.ediv_ediv_of_nonneg
abbrev tO:=@List.filter_cons_of_neg
abbrev tP:=@Bool.false_eq_true
abbrev tQ:=@List.mem_cons_self
abbrev tR:=@Nat.testBit_and
abbrev tS:=@Sem.run_map
abbrev tT:=@List.foldl_append
abbrev tU:=@List.getElem?_inj
abbrev tV:=@List.filter_congr
abbrev tW:=@Nat.ble_eq_true_of_le
abbrev tY:=@Nat.add_zero
abbrev tZ:=@List.dropLast_concat_getLast
abbrev tc:=@Nat.testBit_succ
abbrev td:=@List.prefix_refl
abbrev tf:=@List.drop_of_length_le
abbrev tg:=@Int.add_mul
abbrev th:=@Nat.zero_mul
abbrev ti:=@List.getElem_idxOf
abbrev tj:=@List.nodup_cons
abbrev tl:=@List.length_filter_le
abbrev tm:=@List.set_append_right
abbrev tn:=@List.append_assoc
abbrev tt:=@List.idxOf_append
abbrev tu:=@List.drop_eq_getElem_cons
abbrev tw:=@List.getElem?_of_mem
abbrev tz:=@Nat.pow_lt_pow_right
abbrev u6:=@List.map_nil
abbrev u7:=@Nat.sub_zero
abbrev uA:=@Nat.testBit_eq_decide_div_mod_eq
abbrev uB:=@List.length_replicate
abbrev uC:=@List.getElem?_zipWith
abbrev uD:=@List.length_singleton
abbrev uE:=@Int.ediv_lt_of_lt_mul
abbrev uF:=@List.eraseIdx_eq_take_drop_succ
abbrev uG:=@List.mk_mem_zipIdx_iff_getElem?
abbrev uH:=@Nat.beq_refl
abbrev uI:=@List.length_nil
abbrev uJ:=@Nat.and_le_left
abbrev uK:=@List.length_flatten
abbrev uL:=@Option.bind_eq_bind
abbrev uM:=@List.length_pos_iff
abbrev uN:=@List.set_cons_zero
abbrev uO:=@Int.add_mul_emod_self_right
abbrev uP:=@List.filter_filter
abbrev uQ:=@List.map_take
abbrev uR:=@Bool.and_self
abbrev uS:=@Array.getElem_mem
abbrev uT:=@List.getElem?_set
abbrev uU:=@List.size_toArray
abbrev uV:=@List.flatten_cons
abbrev uW:=@List.all_eq_false
abbrev uX:=@Bool.eq_false_iff
abbrev uY:=@Nat.le_of_lt
abbrev uZ:=@List.map_toArray
abbrev ua:=@Bool.false_or
abbrev uc:=@List.take_succ_cons
abbrev ud:=@List.nil_append
abbrev ue:=@Array.mapM_eq_mapM_toList
abbrev uf:=@Nat.two_pow_pos
abbrev ug:=@Nat.lt_or_gt_of_ne
abbrev uh:=@Nat.add_comm
abbrev ui:=@Nat.mul_comm
abbrev uj:=@List.find?_eq_none
abbrev uk:=@List.mem_singleton
abbrev ul:=@Nat.pow_succ
abbrev um:=@List.prefix_append
abbrev uo:=@List.getElem?_replicate
abbrev ur:=@List.getElem?_cons_succ
abbrev us:=@Array.any_eq_true
abbrev ut:=@List.length_range
abbrev uu:=@Nat.lt_trichotomy
abbrev uv:=@List.flatMap_cons
abbrev uw:=@Array.getElem?_extract
abbrev ux:=@Int.le_refl
abbrev uy:=@Int.one_mul
abbrev uz:=@List.filter_eq_nil_iff
abbrev vb:=@Int.zero_mul
abbrev vd:=@Nat.zero_testBit
abbrev ve:=@Int.zero_add
abbrev vf:=@Int.add_comm
abbrev vg:=@List.find?_cons
abbrev vh:=@List.idxOf_cons
abbrev vi:=@List.any_append
abbrev vj:=@Nat.le_succ
abbrev vk:=@Nat.mul_one
open Go
inductive D where
 | v (x:Value)
 | l (rows:List (List D))
 | p (cells:List D)
inductive C where
 | d (x:D)
 | arr (id k off len:Nat)
 | ptr (id k i j:Nat)
 | fn (f:FuncId) (cap:List C)
 | mp (id:Nat)
 | mv (f:FuncId) (recv:List C)
abbrev C.ip(cells:List D):C:=.d (.p cells)
inductive E where
 | o (c:C)
 | a (cs:List C)
 | t (xs:List (Bool×List C))
 | e
def Qn:Value->Bool
 | .bool _|.int ..|.float ..|.complex ..|.string _|.pointer _|.map none|.chan none|.nilFunc|.nilIface|.slice .. => true
 | .func (.func _) ⟨[]⟩ ⟨[]⟩=>true
 | _=>false
structure View where
 I:Nat->Prop
 ρ:Nat->Nat
 cap:Nat->Nat
 nl:Nat->Prop
 nx:Nat
 w:World
inductive C9 (I:Nat->Prop) (w:World):D->Value->Prop
 | v {x:Value}:Qn x=true->C9 I w (.v x) x
 | nil:C9 I w (.l []) (.slice none 0 0)
 | e {a:Addr} {cap:Nat}:cap<=maxLen->C9 I w (.l []) (.slice (some a) 0 cap)
 | l {rows:List (List D)} {b o k cap:Nat} {vs:Nat->Nat->Value}:I b->rows.length<=cap->cap<=maxLen->
  (∀(i:Nat) (r:List D),rows[i]?=some r->r.length=k)->
  (∀(i:Nat) (r:List D) (j:Nat) (d:D),rows[i]?=some r->r[j]?=some d->w.cell? ⟨b,o+i*k+j,none⟩=some (vs i j))->
  (∀(i:Nat) (r:List D) (j:Nat) (d:D),rows[i]?=some r->r[j]?=some d->C9 I w d (vs i j))->
  C9 I w (.l rows) (.slice (some ⟨b,o,none⟩) rows.length cap)
 | p {cells:List D} {b o:Nat} {vs:Nat->Value}:I b->(∀(j:Nat) (d:D),cells[j]?=some d->w.cell? ⟨b,o+j,none⟩=some (vs j))->(∀(j:Nat) (d:D),cells[j]?=some d->C9 I w d (vs j))->
  C9 I w (.p cells) (.pointer (some ⟨b,o,none⟩))
theorem Pf{w w':World}{b:Nat}(h:w'.heap[b]?=w.heap[b]?)(o:Nat):w'.cell? ⟨b,o,none⟩=w.cell? ⟨b,o,none⟩:=by
 simp[World.cell?,h]
theorem C9.mono{I I':Nat->Prop}{w w':World}{d:D}{v:Value}(hI:∀b,I b->I' b)(g:∀b,I b->w'.heap[b]?=w.heap[b]?)(h:C9 I w d v):C9 I' w' d v:=by
 induction h with
 | v h=>exact .v h
 | nil=>exact .nil
 | e h=>exact .e h
 | @l rows b o k cap vs hb f q n m _ c=>
  exact .l (hI b hb) f q n (λi r j d hi a=>by rw[Pf (g b hb)];exact m i r j d hi a) (λi r j d hi a=>c i r j d hi a)
 | @p cells b o vs hb f _ c=>exact .p (hI b hb) (λj d a=>by rw[Pf (g b hb)];exact f j d a) (λj d a=>c j d a)
inductive AP (V:View):C->Value->Prop
 | d {x:D} {v:Value}:C9 V.I V.w x v->AP V (.d x) v
 | nil {id k:Nat}:id<V.nx->V.nl id->AP V (.arr id k 0 0) (.slice none 0 0)
 | arr {id k off len:Nat}:id<V.nx->¬V.nl id->off+len<=V.cap id->AP V (.arr id k off len) (.slice (some ⟨V.ρ id,off*k,none⟩) len (V.cap id-off))
 | ptr {id k i j:Nat}:id<V.nx->¬V.nl id->AP V (.ptr id k i j) (.pointer (some ⟨V.ρ id,i*k+j,none⟩))
 | fn {f:FuncId} {cap:List C} {vs:Array Value}:vs.size=cap.length->(∀(j:Nat) (c:C) (v:Value),cap[j]?=some c->vs[j]?=some v->AP V c v)->AP V (.fn f cap) (.func (.func f) #[] vs)
 | mp {id:Nat}:id<V.nx->AP V (.mp id) (.map (some (V.ρ id)))
 | mv {f:FuncId} {recv:List C} {vs:Array Value}:vs.size=recv.length->(∀(j:Nat) (c:C) (v:Value),recv[j]?=some c->vs[j]?=some v->AP V c v)->AP V (.mv f recv) (.func (.func f) vs #[])
theorem AP.ip{V:View}{cells:List D}{b o:Nat}{vs:Nat->Value}(hb:V.I b)(c:∀(j:Nat) (d:D),cells[j]?=some d->V.w.cell? ⟨b,o+j,none⟩=some (vs j))(a:∀(j:Nat) (d:D),cells[j]?=some d->C9 V.I V.w d (vs j)) :
 AP V (.ip cells) (.pointer (some ⟨b,o,none⟩)):=.d (.p hb c a)
theorem C9.val{I:Nat->Prop}{w:World}{x v:Value}(h:C9 I w (.v x) v):v=x:=by cases h;rfl
theorem AP.val{V:View}{x v:Value}(h:AP V (.d (.v x)) v):v=x:=by cases h with|d h=>exact h.val
structure Ext (V V':View):Prop where
 i:∀b,V.I b->V'.I b
 heap:∀b,V.I b->V'.w.heap[b]?=V.w.heap[b]?
 size:V.w.heap.size<=V'.w.heap.size
 ρ:∀id,id<V.nx->V'.ρ id=V.ρ id
 cap:∀id,id<V.nx->V'.cap id=V.cap id
 nl:∀id,id<V.nx->(V'.nl id↔V.nl id)
 nx:V.nx<=V'.nx
theorem Ext.refl(V:View):Ext V V:=⟨λ_ h=>h,λ_ _=>rfl,lc _,λ_ _=>rfl,λ_ _=>rfl,λ_ _=>Iff.rfl,lc _⟩
theorem Ext.trans{A B C:View}(h:Ext A B)(k:Ext B C):Ext A C:=
 ⟨λb hb=>k.i b (h.i b hb),λb hb=>(k.heap b (h.i b hb)).trans (h.heap b hb),pm h.size k.size,
  λi hi=>(k.ρ i (qV hi h.nx)).trans (h.ρ i hi),λi hi=>(k.cap i (qV hi h.nx)).trans (h.cap i hi),λi hi=>(k.nl i (qV hi h.nx)).trans (h.nl i hi),pm h.nx k.nx⟩
theorem C9.ext{V V':View}{d:D}{v:Value}(e:Ext V V')(h:C9 V.I V.w d v):C9 V'.I V'.w d v:=h.mono e.i e.heap
theorem AP.ext{V V':View}{c:C}{v:Value}(e:Ext V V')(h:AP V c v):AP V' c v:=by
 induction h with
 | d h=>exact .d (h.ext e)
 | @nil id k a f=>exact .nil (qV a e.nx) ((e.nl id a).2 f)
 | @arr id k off len a g f=>rw[<-e.ρ id a,<-e.cap id a];exact .arr (qV a e.nx) (λh=>g ((e.nl id a).1 h)) (by rw[e.cap id a];exact f)
 | @ptr id k i j a g=>rw[<-e.ρ id a];exact .ptr (qV a e.nx) (λh=>g ((e.nl id a).1 h))
 | fn a _ b=>exact .fn a b
 | @mp id a=>rw[<-e.ρ id a];exact .mp (qV a e.nx)
 | mv a _ b=>exact .mv a b
def Da(V:View)(cs:List C)(vs:Array Value):Prop:=vs.size=cs.length/\∀(j:Nat) c v,cs[j]?=some c->vs[j]?=some v->AP V c v
theorem Da.ext{V V':View}{cs:List C}{vs:Array Value}(e:Ext V V')(h:Da V cs vs):Da V' cs vs:=⟨h.1,λj c v a b=>(h.2 j c v a b).ext e⟩
def On(V:View):Bool×List C->Value->Prop
 | (true,cs),v=>∃vs,v=.agg vs/\Da V cs vs
 | (false,cs),v=>∃c,cs=[c]/\AP V c v
theorem On.ext{V V':View}{x:Bool×List C}{v:Value}(e:Ext V V')(h:On V x v):On V' x v:=by
 obtain⟨b,cs⟩:=x;cases b
 ·obtain⟨c,d,a⟩:=h;exact⟨c,d,a.ext e⟩
 ·obtain⟨vs,d,a⟩:=h;exact⟨vs,d,a.ext e⟩
def Bu(V:View):E->Value->Prop
 | .o c,v=>AP V c v
 | .a cs,v=>∃vs,v=.agg vs/\Da V cs vs
 | .t xs,v=>∃vs:Array Value,v=.tuple vs/\vs.size=xs.length/\∀(j:Nat) x v,xs[j]?=some x->vs[j]?=some v->On V x v
 | .e,v=>∃b,v=.slice b 0 0
theorem Bu.ext{V V':View}{x:E}{v:Value}(e:Ext V V')(h:Bu V x v):Bu V' x v:=by
 cases x with
 | o c=>exact AP.ext e h
 | a cs=>obtain⟨vs,f,d⟩:=h;exact⟨vs,f,d.ext e⟩
 | t xs=>obtain⟨vs,f,d,g⟩:=h;exact⟨vs,f,d,λj x v a b=>(g j x v a b).ext e⟩
 | e=>exact h
inductive O where
 | cells (T k:Nat) (rows:List (List C))
 | mp (es:List (Value×Value))
 | sld (T:Nat) (l:List (Value×List Value))
abbrev Ac:=List (Nat×O)
def look{α:Type}:List (Nat×α)->Nat->Option α
 | [],_=>none
 | (k,x)::r,i=>bif Nat.beq k i then some x else look r i
theorem AG{α:Type}(k:Nat)(x:α)(r:List (Nat×α))(i:Nat):look ((k,x)::r) i=if k=i then some x else look r i:=by
 simp only[look];by_cases h:k=i
 ·subst h;simp
 ·have:Nat.beq k i=false:=by
   cases hb:Nat.beq k i
   ·rfl
   ·exact absurd (i9 hb) h
  simp[this,h]
def KN(v:Value)(b:Nat):Prop:=∃o n c,v=.slice (some ⟨b,o,none⟩) n c
def FR(V:View)(id:Nat):O->Nat->Prop
 | .cells ..,b=>b=V.ρ id
 | .mp _,b=>b=V.ρ id
 | .sld _ l,b=>∃x∈l,KN x.1 b
def Lp(w:World)(T:Nat)(v:Value)(row:List Value):Prop:=(v=.slice none 0 0/\row=[])\/
 ∃b cap cur,v=.slice (some ⟨b,0,none⟩) row.length cap/\w.heap[b]?=some (.cells cur T (0,0))/\cur.size=cap/\row.length<=cap/\cap<=maxLen/\∀(j:Nat) (x:Value),row[j]?=some x->cur[j]?=some x/\Qn x=true
def iy(w:World)(T:Nat)(l:List (Value×List Value)):Prop:=l.Pairwise (λx y=>∀b,KN x.1 b->¬KN y.1 b)/\∀x∈l,Lp w T x.1 x.2
theorem Lp.A0{w w':World}{T:Nat}{v:Value}{row:List Value}(a:∀b,KN v b->w'.heap[b]?=w.heap[b]?)(h:Lp w T v row):Lp w' T v row:=by
 rcases h with h|⟨b,cap,cur,rfl,d,c⟩
 ·exact .inl h
 ·exact .inr ⟨b,cap,cur,rfl,by rw[a b ⟨_,_,_,rfl⟩];exact d,c⟩
theorem Lp.blt{w:World}{T:Nat}{v:Value}{row:List Value}(h:Lp w T v row){b:Nat}(hb:KN v b):b<w.heap.size:=by
 obtain⟨o,n,c,hb⟩:=hb
 rcases h with ⟨h,_⟩|⟨b',cap,cur,rfl,a,_⟩
 ·rw[h]at hb;cases hb
 ·injection hb with hb;injection hb with hb;injection hb with hb;subst hb;exact(qZ.1 a).1
theorem iy.A0{w w':World}{T:Nat}{l:List (Value×List Value)}(c:∀x∈l,∀b,KN x.1 b->w'.heap[b]?=w.heap[b]?)(h:iy w T l):iy w' T l:=
 ⟨h.1,λx a=>(h.2 x a).A0 (c x a)⟩
def C3(V:View)(id:Nat):O->Prop
 | .cells T k rows=>(V.nl id/\rows=[])\/¬V.nl id/\∃cur,V.w.heap[V.ρ id]?=some (.cells cur T (0,0))/\cur.size=V.cap id*k/\rows.length<=V.cap id/\V.cap id<=maxLen/\(∀r∈rows,r.length=k)/\
  ∀i r j c,rows[i]?=some r->r[j]?=some c->∃v,cur[i*k+j]?=some v/\AP V c v
 | .mp es=>¬V.nl id/\∃ents clock,V.w.heap[V.ρ id]?=some (.map ents clock)/\ents.toList.map (λe=>(e.key,e.val))=es
 | .sld T l=>¬V.nl id/\iy V.w T l
theorem AR{V V':View}(e:Ext V V'){id:Nat}(a:id<V.nx){o:O}{b:Nat}:FR V' id o b↔FR V id o b:=by
 cases o<;>simp[FR,e.ρ id a]
structure Lq (V:View) (σ:Ac):Prop where
 obj:∀id o,look σ id=some o->C3 V id o
 lt:∀id o,look σ id=some o->id<V.nx
 free:∀id o,look σ id=some o->¬V.nl id->∀b,FR V id o b->¬V.I b
 inj:∀id id' o o',look σ id=some o->look σ id'=some o'->id≠id'->¬V.nl id->¬V.nl id'->∀b,FR V id o b->¬FR V id' o' b
structure Xb where
 B:Nat->Prop
 J:Nat->Prop
structure Ctx where
 V:View
 F:Nat->Prop
 J:Nat->Prop
def EF(V:View)(σ:Ac)(b:Nat):Prop:=∃id o,look σ id=some o/\¬V.nl id/\FR V id o b
theorem C3.A0{V V':View}(e:Ext V V'){id:Nat}(a:id<V.nx){o:O}(hb:¬V.nl id->∀b,FR V id o b->V'.w.heap[b]?=V.w.heap[b]?)(h:C3 V id o):C3 V' id o:=by
 cases o with
 | cells T k rows=>
  replace hb:=λg=>hb g _ (show FR V id (.cells T k rows) (V.ρ id) from rfl)
  rcases h with ⟨n,d⟩|⟨f,cur,d,B,A,z,y,u⟩
  ·exact .inl ⟨(e.nl id a).2 n,d⟩
  ·refine .inr ⟨λh=>f ((e.nl id a).1 h),cur,by rw[e.ρ id a,hb f];exact d,by rw[e.cap id a];exact B,by rw[e.cap id a];exact A,by rw[e.cap id a];exact z,y,λi r j c hi q=>?_⟩
   obtain⟨v,t,s⟩:=u i r j c hi q;exact⟨v,t,s.ext e⟩
 | mp es=>
  replace hb:=λg=>hb g _ (show FR V id (.mp es) (V.ρ id) from rfl);obtain⟨f,ents,clock,n,d⟩:=h;exact⟨λh=>f ((e.nl id a).1 h),ents,clock,by rw[e.ρ id a,hb f];exact n,d⟩
 | sld T l=>exact⟨λF=>h.1 ((e.nl id a).1 F),h.2.A0 λx p b m=>hb h.1 b ⟨x,p,m⟩⟩
theorem C3.blt{V:View}{id:Nat}{o:O}(h:C3 V id o)(d:¬V.nl id){b:Nat}(hb:FR V id o b):b<V.w.heap.size:=by
 cases o with
 | sld T l=>obtain⟨x,c,hb⟩:=hb;exact(h.2.2 x c).blt hb
 | cells T k rows=>
  subst hb
  rcases h with ⟨a,_⟩|⟨_,cur,e,_⟩
  ·exact absurd a d
  ·exact(qZ.1 e).1
 | mp=>
  subst hb;obtain⟨_,ents,clock,a,_⟩:=h;exact(qZ.1 a).1
theorem Jq{V V':View}(e:Ext V V'){σ:Ac}(a:∀id o,look σ id=some o->id<V.nx){b:Nat}(h:EF V' σ b):EF V σ b:=by
 obtain⟨id,o,d,i,g⟩:=h;have c:=a id o d;exact⟨id,o,d,λf=>i ((e.nl id c).2 f),(AR e c).1 g⟩
structure Hid where
 S:Type
 st:S->Ac
 nx:Nat
structure BJ where
 tabs:List (Nat×Obj)
 hid:Option (Hid×Nat)
instance:Membership (Nat×Obj) BJ:=⟨λa x=>x∈a.tabs⟩
def SH(TB:BJ)(S:Xb)(w:World):Prop:=match TB.hid with
 | none=>∀b,¬S.B b
 | some (H,r)=>∃(s:H.S) (V:View),V.I=S.J/\V.w=w/\V.nx=H.nx/\Lq V (H.st s)/\(0<V.nx/\V.ρ 0=r/\¬V.nl 0/\∀x∈TB,V.I x.1)/\∀b,S.B b↔EF V (H.st s) b
theorem SH.blt{TB:BJ}{S:Xb}{w:World}(h:SH TB S w){b:Nat}(hb:S.B b):b<w.heap.size:=by
 unfold SH at h;split at h
 ·exact absurd hb (h b)
 ·obtain⟨s,V,k,d,j,c,i,a⟩:=h
  obtain⟨id,o,g,f,e⟩:=(a b).1 hb;rw[<-d];exact(c.obj id o g).blt f e
theorem SH.A0{TB:BJ}{S:Xb}{w w':World}(h:SH TB S w)(t:∀b,S.J b->w'.heap[b]?=w.heap[b]?)(u:w.heap.size<=w'.heap.size)(v:∀b,S.B b->w'.heap[b]?=w.heap[b]?):SH TB S w':=by
 unfold SH at *;split at h
 ·exact h
 ·obtain⟨s,V,r,q,y,d,x,p⟩:=h
  have e:Ext V { V with w:=w' } := by
   subst q;exact⟨λ_ h=>h,λb hb=>t b (by rw[<-r];exact hb),u,λ_ _=>rfl,λ_ _=>rfl,λ_ _=>Iff.rfl,lc _⟩
  have bw:∀ {i o b},FR { V with w:=w' } i o b↔FR V i o b:=λ{i o b} => by cases o<;>exact Iff.rfl
  refine⟨s,{ V with w:=w' },r,rfl,y,⟨λid o a=>?_,d.lt,λid o a c b hb=>d.free id o a c b (bw.1 hb),λid id' o o' a f g c j b hb k=>d.inj id id' o o' a f g c j b (bw.1 hb) (bw.1 k)⟩,x,λb=>?_⟩
  ·exact(d.obj id o a).A0 e (d.lt id o a) λc b hb=>by
    have:=v b ((p b).2 ⟨id,o,a,c,hb⟩);rw[q];exact this
  ·rw[p b]
   exact⟨λ⟨id,o,n,m,l⟩=>⟨id,o,n,m,bw.2 l⟩,λ⟨id,o,n,m,l⟩=>⟨id,o,n,m,bw.1 l⟩⟩
structure QT (TB:BJ) (V:View) (σ:Ac) (S:Xb):Prop where
 r:SH TB S V.w
 ji:∀b,S.J b->V.I b
 bi:∀b,S.B b->¬V.I b
 ap:∀b,EF V σ b->¬S.B b
def WY(TB:BJ)(U:Ctx)(V:View)(σ:Ac):Prop:=∃S,QT TB V σ S/\(∀b,S.J b->U.J b\/U.V.w.heap.size<=b\/U.F b)/\∀b,S.B b->U.V.w.heap.size<=b\/U.F b
theorem QT.step{TB:BJ}{S:Xb}{V V':View}{σ σ':Ac}(h:QT TB V σ S)(hI:∀b,V.I b->V'.I b)(d:∀b,V.I b->V'.w.heap[b]?=V.w.heap[b]?)(f:V.w.heap.size<=V'.w.heap.size)
 (e:∀b,b<V.w.heap.size->¬V.I b->¬EF V σ b->V'.w.heap[b]?=V.w.heap[b]?) (i:∀b,V'.I b->V.I b\/EF V σ b\/V.w.heap.size<=b) (j:∀b,EF V' σ' b->EF V σ b\/V.w.heap.size<=b):QT TB V' σ' S:=by
 have g:∀b,S.B b->¬EF V σ b:=λb hb c=>h.ap b c hb;refine⟨h.r.A0 (λb hb=>d b (h.ji b hb)) f (λb hb=>e b (h.r.blt hb) (h.bi b hb) (g b hb)),λb hb=>hI b (h.ji b hb),λb hb hi=>?_,λb c hb=>?_⟩
 ·rcases i b hi with a|a|a
  ·exact h.bi b hb a
  ·exact h.ap b a hb
  ·have:=h.r.blt hb;omega
 ·rcases j b c with a|a
  ·exact h.ap b a hb
  ·have:=h.r.blt hb;omega
theorem WY.step{TB:BJ}{U:Ctx}{V V':View}{σ σ':Ac}(h:WY TB U V σ)(hI:∀b,V.I b->V'.I b)(a:∀b,V.I b->V'.w.heap[b]?=V.w.heap[b]?)(d:V.w.heap.size<=V'.w.heap.size)
 (c:∀b,b<V.w.heap.size->¬V.I b->¬EF V σ b->V'.w.heap[b]?=V.w.heap[b]?) (e:∀b,V'.I b->V.I b\/EF V σ b\/V.w.heap.size<=b) (f:∀b,EF V' σ' b->EF V σ b\/V.w.heap.size<=b):WY TB U V' σ':=by
 obtain⟨S,i,g⟩:=h;exact⟨S,i.step hI a d c e f,g⟩
theorem WY.same{TB:BJ}{U:Ctx}{V V':View}{σ σ':Ac}(h:WY TB U V σ)(a:V'.w=V.w)(hI:∀b,V.I b->V'.I b)(c:∀b,V'.I b->V.I b\/EF V σ b)(d:∀b,EF V' σ' b->EF V σ b):WY TB U V' σ':=
 h.step hI (λb _=>by rw[a]) (by rw[a];exact lc _) (λb _ _ _=>by rw[a]) (λb hb=>(c b hb).elim .inl λh=>.inr (.inl h)) (λb hb=>.inl (d b hb))
structure Inv (TB:BJ) (U:Ctx) (V:View) (σ:Ac):Prop where
 os:V.w.os=U.V.w.os
 tape:V.w.tape=U.V.w.tape
 output:V.w.output=U.V.w.output
 old:∀b,b<U.V.w.heap.size->¬U.F b->V.w.heap[b]?=U.V.w.heap[b]?
 iLt:∀b,V.I b->b<V.w.heap.size
 iNew:∀b,V.I b->U.V.I b\/U.V.w.heap.size<=b\/U.F b
 ext:Ext U.V V
 st:Lq V σ
 live:∀id o,look σ id=some o->¬V.nl id->∀b,FR V id o b->U.V.w.heap.size<=b\/U.F b
 tabs:∀x∈TB,V.I x.1/\V.w.heap[x.1]?=some x.2
 hid:WY TB U V σ
abbrev Env:=Nat->Option E
def BQ(f:Env)(d:Option Tmp)(x:E):Env:=match d with
 | some d=>λt=>if t=d then some x else f t
 | none=>f
def Fh(V:View)(f:Env)(tmps:Array Value):Prop:=∀t e,f t=some e->Bu V e (tmps.getD t undef)
def Lo(V:View)(o:Oper)(f:Env)(a:Act):Prop:=∀t e,.tmp t∈o.op.operands->f t=some e->Bu V e (a.tmps.getD t undef)
theorem Fh.op{V:View}{f:Env}{a:Act}(h:Fh V f a.tmps)(o:Oper):Lo V o f a:=λt e _ b=>h t e b
theorem Fh.ext{V V':View}{f:Env}{tmps:Array Value}(e:Ext V V')(h:Fh V f tmps):Fh V' f tmps:=λt x a=>(h t x a).ext e
def pf:Exit->Act->World->Prop:=λ_ _ _=>False
section
variable (P:Program)(TB:BJ)(U:Ctx)
def A5(o:Oper)(f:Env)(σ:Ac)(nx:Nat)(x:E):Prop:=
 ∀V a,Lo V o f a->Inv TB U V σ->V.nx=nx->o.wp P a V.w (λa' w'=>∃V' v,V'.w=w'/\a'=a.put o.dst v/\Ext V V'/\Inv TB U V' σ/\V'.nx=nx/\Bu V' x v) pf
def Ck(o:Oper)(f:Env)(σ:Ac)(nx:Nat)(K:E->Ac->Nat->Prop):Prop:=
 ∀V a,Lo V o f a->Inv TB U V σ->V.nx=nx->o.wp P a V.w (λa' w'=>∃V' v x σ',V'.w=w'/\a'=a.put o.dst v/\Ext V V'/\Inv TB U V' σ'/\Bu V' x v/\K x σ' V'.nx) pf
theorem YP{o:Oper}{a:Act}{w:World}{K:Act->World->Prop}{Q:Exit->Act->World->Prop}(h:o.wp P a w K pf):o.wp P a w K Q:=by
 unfold Oper.wp at *;generalize (execOp a.eval o).run P w=r at *
 cases r with
 | ok n w'=>
  cases n<;>simp only[Oper.upon]at h |-
  case value=>exact h
  case skip=>exact h
  case defer=>exact h
  case enter f args=>
   refine h.mono λe w'' b=>?_
   cases e with
   | returned v=>exact b
   | panicked c=>exact b.elim
   | outgrown=>obtain⟨_,_,h⟩:=b;exact h.elim
  case row=>exact h
 | halt x w'=>
  cases x<;>simp only[Oper.upon]at h |-
  case panic v=>exact h.elim
theorem A5.pv{o:Oper}{f:Env}{σ:Ac}{nx:Nat}{x:E}{K:E->Ac->Nat->Prop}(h:A5 P TB U o f σ nx x)(b:K x σ nx):Ck P TB U o f σ nx K:=by
 intro V a e d c;refine Oper.wp_mono ?_ (h V a e d c);rintro a' w' ⟨V',v,m,l,k,j,i,g⟩;exact⟨V',v,x,σ,m,l,k,j,g,i▸b⟩
def BB(ops:Array Oper)(o:Oper)(f:Env):Option Bool:=
 match o.guard with
 | none=>some true
 | some (g,want)=>
  match ((ops[g]?).bind (·.dst)).bind f with
  | some (.o (.d (.v (.bool b))))=>some (b == want)
  | some (.t _)=>some false
  | _=>none
theorem It{V:View}{ops:Array Oper}{o:Oper}{f:Env}{a:Act}{b:Bool}(r:Fh V f a.tmps)(c:∀t e,f t=some e->t<a.tmps.size)(h:BB ops o f=some b) :
 Region.wanted o (yielded ops a.tmps)=b:=by
 unfold BB at h;unfold Region.wanted;split at h
 ·rename_i m;simp only[m];exact Option.some.inj h
 ·rename_i g want m
  simp only[m];split at h
  ·rename_i b' hb
   have l:∃t,((ops[g]?).bind (·.dst))=some t/\f t=some (.o (.d (.v (.bool b')))):=by
    cases ht:((ops[g]?).bind (·.dst)) with
    | none=>rw[ht]at hb;cases hb
    | some t=>exact⟨t,rfl,by rw[ht]at hb;exact hb⟩
   obtain⟨t,q,j⟩:=l;have k:=r t _ j;have i:=c t _ j;have s:a.tmps.getD t undef=.bool b':=AP.val k
   have p:a.tmps[t]?=some (.bool b'):=by
    rw[qU i];rw[Array.getD,dif_pos i]at s;exact congrArg some s
   have n:yielded ops a.tmps g=some b':=by
    unfold yielded;rw[q];simp[p]
   rw[n];cases b'<;>cases want<;>simp_all
  ·rename_i xs hb
   have l:∃t,((ops[g]?).bind (·.dst))=some t/\f t=some (.t xs):=by
    cases ht:((ops[g]?).bind (·.dst)) with
    | none=>rw[ht]at hb;cases hb
    | some t=>exact⟨t,rfl,by rw[ht]at hb;exact hb⟩
   obtain⟨t,q,j⟩:=l;obtain⟨vs,k,_⟩:=r t _ j;have i:=c t _ j
   have p:a.tmps[t]?=some (.tuple vs):=by
    rw[qU i];rw[Array.getD,dif_pos i]at k;exact congrArg some k
   have n:yielded ops a.tmps g=none:=by
    unfold yielded;rw[q];simp[p]
   rw[n];exact Option.some.inj h
  ·cases h
end
theorem Nb{f:Env}{d d':Option Tmp}{x y:E}(h:∀t,d=some t->d'≠some t):BQ (BQ f d x) d' y=BQ (BQ f d' y) d x:=by
 cases d with
 | none=>rfl
 | some t=>
  cases d' with
  | none=>rfl
  | some t'=>
   have a:t≠t':=λe=>h t rfl (by rw[e]);funext s;simp only[BQ];by_cases c:s=t<;>by_cases b:s=t'<;>simp_all
theorem DB{f:Env}{d:Option Tmp}{x:E}{t:Tmp}(h:d≠some t):BQ f d x t=f t:=by
 cases d with
 | none=>rfl
 | some d=>
  have:t≠d:=λe=>h (by rw[e]);simp[BQ,this]
section
variable (P:Program)(TB:BJ)(U:Ctx)(ops:Array Oper)
def Y7(n:Bool)(o:Oper)(K:Env->Ac->Nat->Prop)(f:Env)(σ:Ac)(nx:Nat):Prop:=
 (BB ops o f=some false/\K (BQ f o.dst (.t [])) σ nx)\/
 (BB ops o f=some true/\bif n then Ck P TB U o f σ nx (λx σ' nx'=>K (BQ f o.dst x) σ' nx') else ∃x,A5 P TB U o f σ nx x/\K (BQ f o.dst x) σ nx)
def Kept(m:Nat)(σ σ':Ac):Prop:=∀id,Nat.testBit m id=true->look σ' id=look σ id
def o4(c:Nat)(o:Oper)(K:Env->Ac->Nat->Prop)(f:Env)(σ:Ac)(nx:Nat):Prop:=
 (BB ops o f=some false/\K (BQ f o.dst (.t [])) σ nx)\/
 (BB ops o f=some true/\bif Nat.ble 1000 c then Ck P TB U o f σ nx (λx σ' nx'=>Kept (c-1000) σ σ'/\K (BQ f o.dst x) σ' nx')
  else ∃x,(∀σ' nx',look σ' (c-10)=look σ (c-10)->A5 P TB U o f σ' nx' x)/\K (BQ f o.dst x) σ nx)
def Lex : List (Nat×Nat)->(Env->Ac->Nat->Prop)->Env->Ac->Nat->Prop
 | [],K,f,σ,nx=>K f σ nx
 | (i, c)::r,K,f,σ,nx=>∃o,ops[i]?=some o/\
  bif Nat.ble 10 c then o4 P TB U ops c o (Lex r K) f σ nx else bif Nat.beq c 2 then
   (BB ops o f=some false/\Lex r K (BQ f o.dst (.t [])) σ nx)\/
   (BB ops o f=some true/\∃x,(∀σ nx,A5 P TB U o f σ nx x)/\Lex r K (BQ f o.dst x) σ nx)
  else Y7 P TB U ops (Nat.beq c 1) o (Lex r K) f σ nx
end
def SM(c:Nat):Bool:=Nat.beq c 0 || Nat.beq c 1
def ET(c:Nat):Bool:=Nat.beq c 1 || Nat.ble 1000 c
def Po(c cj:Nat):Bool:=Nat.beq c 2 || (!ET cj || (Nat.ble 10 c && (Nat.ble 1000 cj && Nat.testBit (cj-1000) (c-10))))
section
variable {P:Program}{TB:BJ}{U:Ctx}{ops:Array Oper}
theorem Lo.congr{V:View}{o:Oper}{f f':Env}{a:Act}(h:∀t,.tmp t∈o.op.operands->f t=f' t)(b:Lo V o f a):Lo V o f' a:=
 λt e ht c=>b t e ht (by rw[h t ht];exact c)
theorem A5.congr{o:Oper}{f f':Env}{σ:Ac}{nx:Nat}{x:E}(h:∀t,.tmp t∈o.op.operands->f t=f' t)(b:A5 P TB U o f σ nx x):A5 P TB U o f' σ nx x:=
 λV a c=>b V a (c.congr λt ht=>(h t ht).symm)
theorem Ck.congr{o:Oper}{f f':Env}{σ:Ac}{nx:Nat}{K:E->Ac->Nat->Prop}(h:∀t,.tmp t∈o.op.operands->f t=f' t)(b:Ck P TB U o f σ nx K):Ck P TB U o f' σ nx K:=
 λV a c=>b V a (c.congr λt ht=>(h t ht).symm)
theorem Ck.mono{o:Oper}{f:Env}{σ:Ac}{nx:Nat}{K K':E->Ac->Nat->Prop}(b:Ck P TB U o f σ nx K)(h:∀x σ nx,K x σ nx->K' x σ nx):Ck P TB U o f σ nx K':=by
 intro V a e d c;refine Oper.wp_mono ?_ (b V a e d c);rintro a' w' ⟨V',v,x,σ',m,l,k,j,i,g⟩;exact⟨V',v,x,σ',m,l,k,j,i,h _ _ _ g⟩
theorem H0{o:Oper}{t:Tmp}(h:.tmp t∈o.op.operands):t∈o.looksAt ops:=
 q6 _ (List.mem_filterMap.2 ⟨.tmp t,by simpa using h,rfl⟩)
theorem HT{o:Oper}{f:Env}{d:Option Tmp}{x:E}(h:∀t,d=some t->t∉o.looksAt ops):BB ops o (BQ f d x)=BB ops o f:=by
 unfold BB
 cases b:o.guard with
 | none=>rfl
 | some gw=>
  obtain⟨g,want⟩:=gw
  cases ht:(ops[g]?).bind (·.dst) with
  | none=>simp only[ht];rfl
  | some t=>
   have a:d≠some t:=λe=>h t e (by simp[Oper.looksAt,b,ht]);simp only[ht,tF,DB a]
theorem GN{o:Oper}{f:Env}{d:Option Tmp}{x:E}(h:∀t,d=some t->t∉o.looksAt ops):∀t,.tmp t∈o.op.operands->BQ f d x t=f t:=
 λt ht=>DB λe=>h t e (H0 ht)
def waits(ops:Array Oper)(i:Nat):Nat->Nat->Bool
 | 0,_=>false
 | n+1,j=>((ops[j]?).map (·.after.any λe=>Region.binds .any e && (Nat.beq e.on i || waits ops i n e.on))).getD false
def Gt(ops:Array Oper)(listed:Array Bool):Prop:=
 ∀j,listed.getD j false=true->∀o,ops[j]?=some o->∀e∈o.after,Region.binds .any e=true->listed.getD e.on false=true
theorem MF{listed:Array Bool}(c:Gt ops listed){i:Nat}:∀(n j:Nat),waits ops i n j=true->listed.getD j false=true->listed.getD i false=true
 | 0,_,h,_=>by cases h
 | n+1,j,h,e=>by
  unfold waits at h
  cases a:ops[j]? with
  | none=>rw[a]at h;cases h
  | some o=>
   rw[a]at h;simp only[rM,sr]at h;rw[us]at h;obtain⟨k,hk,h⟩:=h;simp only[d4,qW]at h;have d:=c j e o a _ (uS hk) h.1
   rcases h.2 with b|b
   ·have:=i9 b;rw[<-this];exact d
   ·exact MF c n _ b d
theorem Oj{listed:Array Bool}(f:Gt ops listed){i:Nat}(hi:listed.getD i false=false){n j:Nat}(h:waits ops i n j=true):j∉Region.ready .any ops listed:=by
 intro d;obtain⟨_,o,e,a⟩:=mem_ready.1 d
 cases n with
 | zero=>cases h
 | succ n=>
  unfold waits at h;rw[e]at h;simp only[rM,sr]at h;rw[us]at h;obtain⟨k,hk,h⟩:=h;simp only[d4,qW]at h;have c:=a _ (uS hk) h.1
  rcases h.2 with b|b
  ·have:=i9 b;rw[this,hi]at c;cases c
  ·have:=MF f n _ b c;rw[hi]at this;cases this
def TG(ops:Array Oper)(i c:Nat)(r:List (Nat×Nat)):Bool:=
 (r.all λ(j,cj)=>waits ops i ops.size j || (!ET c && (match ops[i]?,ops[j]? with|some x,some y=>x.apart ops y|_,_=>false) && Po c cj))
def Ee(ops:Array Oper):List (Nat×Nat)->Bool
 | []=>true
 | (i,c)::r=>TG ops i c r && Ee ops r
def Bo(ops:Array Oper):List (Nat×Nat)->Array Bool->Bool
 | [],listed=>(Region.ready .any ops listed).isEmpty
 | (i,_)::r,listed=>(Region.ready .any ops listed).contains i && Bo ops r (listed.setIfInBounds i true)
end
section
variable {P:Program}{TB:BJ}{U:Ctx}{ops:Array Oper}
theorem Rr(listed:Array Bool)(i:Nat):(listed.setIfInBounds i true).getD i true=true:=by
 by_cases h:i<listed.size
 ·simp[h]
 ·simp[h]
theorem Qd{listed:Array Bool}{j:Nat}(h:j∈Region.ready .any ops listed):listed.getD j true=false:=(mem_ready.1 h).1
theorem WI{listed:Array Bool}{j:Nat}(h:listed.getD j true=false):listed.getD j false=false:=by
 rcases rn j listed.size with a|a
 ·simpa[a]using h
 ·simp[Array.getElem?_eq_none a]
theorem IB{listed:Array Bool}{j:Nat}(h:Gt ops listed)(g:j∈Region.ready .any ops listed):Gt ops (listed.setIfInBounds j true):=by
 intro i hi o d e f hb;by_cases b:j=i
 ·subst b
  obtain⟨_,o',a,c⟩:=mem_ready.1 g;rw[d]at a
  injection a with a
  subst a;exact getD_set_true (c e f hb)
 ·rw[getD_set_ne false b]at hi
  exact getD_set_true (h i hi o d e f hb)
theorem Me:∀(r:List (Nat×Nat)) (listed:Array Bool),Bo ops r listed=true->∀j,j∈Region.ready .any ops listed->j∈r.map (·.1)
 | [],listed,h,j,b=>by
  simp only[Bo,List.isEmpty_iff]at h;rw[h]at b;cases b
 | (i,c)::r,listed,h,j,b=>by
  simp only[Bo,d4]at h;by_cases a:j=i
  ·subst a;simp
  ·have:=Me r _ h.2 j (ready_mono b a)
   simp only[rX,lw];exact .inr this
theorem ZN:∀(r:List (Nat×Nat)) (listed:Array Bool),Bo ops r listed=true->∀j,listed.getD j true=true->j∉r.map (·.1)
 | [],_,_,_,_=>by simp
 | (i,c)::r,listed,h,j,b=>by
  simp only[Bo,d4]at h
  have hi:i∈Region.ready .any ops listed:=by simpa using h.1
  have a:i≠j:=λe=>by subst e;rw[Qd hi]at b;cases b
  have:=ZN r _ h.2 j (by rw[getD_set_ne true a];exact b);simp only[rX,lw,not_or];exact⟨λe=>a e.symm,this⟩
theorem P7:∀(f b:List (Nat×Nat)) (j c:Nat) (listed:Array Bool),Bo ops (f++(j,c)::b) listed=true->j∈Region.ready .any ops listed->
 Bo ops (f++b) (listed.setIfInBounds j true)=true
 | [],b,j,c,listed,h,_=>by
  simp only[ud,Bo,d4]at h;exact h.2
 | (i,d)::f,b,j,c,listed,h,g=>by
  simp only[su,Bo,d4]at h |-
  have hi:i∈Region.ready .any ops listed:=by simpa using h.1
  have a:j≠i:=by
   intro e;subst e;have:=ZN _ _ h.2 j (Rr _ _);exact this (by simp)
  refine⟨by simpa using ready_mono hi (Ne.symm a),?_⟩;rw[Array.setIfInBounds_comm _ _ a];exact P7 f b j c _ h.2 (ready_mono g a)
theorem Mb:∀(e a:List (Nat×Nat)) (x:Nat×Nat),Ee ops (e++x::a)=true->Ee ops (e++a)=true
 | [],a,(j,c),h=>by
  simp only[ud,Ee,d4]at h;exact h.2
 | (i,d)::e,a,x,h=>by
  simp only[su,Ee,d4]at h |-;refine⟨?_,Mb e a x h.2⟩;have f:=h.1;unfold TG at f |-;rw[ge]at f |-;intro y b;refine f y ?_
  rcases gc.1 b with b|b
  ·exact q6 _ b
  ·exact rr _ (rP _ b)
def QC(P:Program)(TB:BJ)(U:Ctx)(c:Nat)(o:Oper)(x:E)(f:Env)(σ:Ac)(nx:Nat):Prop:=
 bif Nat.ble 10 c then ∀σ' nx',look σ' (c-10)=look σ (c-10)->A5 P TB U o f σ' nx' x else bif Nat.beq c 2 then ∀σ nx,A5 P TB U o f σ nx x else A5 P TB U o f σ nx x
def Yl(P:Program)(TB:BJ)(U:Ctx)(ops:Array Oper)(c:Nat)(o:Oper)(x:E)(f:Env)(σ:Ac)(nx:Nat):Prop:=
 (BB ops o f=some false/\x=.t [])\/(BB ops o f=some true/\QC P TB U c o x f σ nx)
theorem QC.congr{c:Nat}{o:Oper}{x:E}{f f':Env}{σ:Ac}{nx:Nat}(h:∀t,.tmp t∈o.op.operands->f t=f' t)(q:QC P TB U c o x f σ nx):QC P TB U c o x f' σ nx:=by
 unfold QC at q |-;cases b:Nat.ble 10 c
 ·rw[b]at q
  cases a:Nat.beq c 2
  ·rw[a]at q;exact A5.congr h q
  ·rw[a]at q;exact λσ nx=>A5.congr h (q σ nx)
 ·rw[b]at q;exact λσ' nx' d=>A5.congr h (q σ' nx' d)
theorem QC.move{c:Nat}{o:Oper}{x:E}{f:Env}{σ σ':Ac}{nx nx':Nat}(q:QC P TB U c o x f σ nx)(g:(Nat.ble 10 c=false/\Nat.beq c 2=true)\/(σ'=σ/\nx'=nx)\/(Nat.ble 10 c=true/\look σ' (c-10)=look σ (c-10))):QC P TB U c o x f σ' nx':=by
 rcases g with ⟨e,d⟩|⟨rfl,rfl⟩|⟨e,d⟩
 ·unfold QC at q |-;rw[e,d]at q |-;exact q
 ·exact q
 ·unfold QC at q |-;rw[e]at q |-;exact λa b h=>q a b (h.trans d)
def HH(P:Program)(TB:BJ)(U:Ctx)(ops:Array Oper)(c:Nat)(o:Oper)(K:Env->Ac->Nat->Prop)(f:Env)(σ:Ac)(nx:Nat):Prop:=
 bif Nat.ble 10 c then o4 P TB U ops c o K f σ nx else bif Nat.beq c 2 then
  (BB ops o f=some false/\K (BQ f o.dst (.t [])) σ nx)\/
  (BB ops o f=some true/\∃x,(∀σ nx,A5 P TB U o f σ nx x)/\K (BQ f o.dst x) σ nx)
 else Y7 P TB U ops (Nat.beq c 1) o K f σ nx
theorem Eo{c:Nat}{o:Oper}{K:Env->Ac->Nat->Prop}{f:Env}{σ:Ac}{nx:Nat}(a:ET c=false) :
 HH P TB U ops c o K f σ nx↔∃x,Yl P TB U ops c o x f σ nx/\K (BQ f o.dst x) σ nx:=by
 unfold ET at a;rw[Bool.or_eq_false_iff]at a;unfold HH Yl Y7 o4 QC;rw[a.1,a.2];have key:∀ {q:E->Prop},((BB ops o f=some false/\K (BQ f o.dst (.t [])) σ nx)\/(BB ops o f=some true/\∃x,q x/\K (BQ f o.dst x) σ nx))↔
  ∃x,((BB ops o f=some false/\x=.t [])\/(BB ops o f=some true/\q x))/\K (BQ f o.dst x) σ nx:=by
  intro q;constructor
  ·rintro(⟨h,k⟩|⟨h,x,q,k⟩)
   ·exact⟨_,.inl ⟨h,rfl⟩,k⟩
   ·exact⟨x,.inr ⟨h,q⟩,k⟩
  ·rintro⟨x,⟨h,rfl⟩|⟨h,q⟩,k⟩
   ·exact .inl ⟨h,k⟩
   ·exact .inr ⟨h,x,q,k⟩
 cases d:Nat.ble 10 c
 ·cases b:Nat.beq c 2
  ·exact key
  ·exact key
 ·exact key
theorem GX{c:Nat}{o:Oper}{K:Env->Ac->Nat->Prop}{f:Env}{σ:Ac}{nx:Nat}(b:ET c=true) :
 HH P TB U ops c o K f σ nx↔(BB ops o f=some false/\K (BQ f o.dst (.t [])) σ nx)\/(BB ops o f=some true/\Ck P TB U o f σ nx (λx σ' nx'=>(Nat.ble 1000 c=true->Kept (c-1000) σ σ')/\K (BQ f o.dst x) σ' nx')):=by
 unfold ET at b;unfold HH Y7 o4;cases g:Nat.ble 1000 c
 ·rw [g,Bool.or_false]at b
  have a:=i9 b;subst a;constructor
  ·rintro(h|⟨h,q⟩)
   ·exact .inl h
   ·exact .inr ⟨h,Ck.mono q λx σ' nx' k=>⟨λe=>by simp at e,k⟩⟩
  ·rintro(h|⟨h,q⟩)
   ·exact .inl h
   ·exact .inr ⟨h,Ck.mono q λx σ' nx' k=>k.2⟩
 ·have d:Nat.ble 10 c=true:=tW (by have:=ce g;omega)
  rw[d];simp only[cond_true];constructor
  ·rintro(h|⟨h,q⟩)
   ·exact .inl h
   ·exact .inr ⟨h,Ck.mono q λx σ' nx' k=>⟨λ_=>k.1,k.2⟩⟩
  ·rintro(h|⟨h,q⟩)
   ·exact .inl h
   ·exact .inr ⟨h,Ck.mono q λx σ' nx' k=>⟨k.1 trivial,k.2⟩⟩
theorem HH.mono{c:Nat}{o:Oper}{K K':Env->Ac->Nat->Prop}{f:Env}{σ:Ac}{nx:Nat}(hk:∀f σ nx,K f σ nx->K' f σ nx)(h:HH P TB U ops c o K f σ nx):HH P TB U ops c o K' f σ nx:=by
 cases d:ET c
 ·rw[Eo d]at h |-
  obtain⟨x,b,a⟩:=h;exact⟨x,b,hk _ _ _ a⟩
 ·rw[GX d]at h |-
  rcases h with ⟨b,a⟩|⟨b,a⟩
  ·exact .inl ⟨b,hk _ _ _ a⟩
  ·exact .inr ⟨b,Ck.mono a λx σ' nx' k=>⟨k.1,hk _ _ _ k.2⟩⟩
theorem bW{ci cj:Nat}{oi oj:Oper}{x:E}{f:Env}{σ:Ac}{nx:Nat}{K:Env->Ac->Nat->Prop}
 (g:ET ci=false) (i:oi.apart ops oj=true) (b:Po ci cj=true) (d:Yl P TB U ops ci oi x f σ nx)
 (h:HH P TB U ops cj oj K (BQ f oi.dst x) σ nx):HH P TB U ops cj oj (HH P TB U ops ci oi K) f σ nx:=by
 obtain⟨m,n,l⟩:=Oper.apart_spec i;have k:BB ops oj (BQ f oi.dst x)=BB ops oj f:=HT m;have ag:∀t,.tmp t∈oj.op.operands->BQ f oi.dst x t=f t:=GN m
 have back:∀(y:E) (σ':Ac) (nx':Nat),((Nat.ble 10 ci=false/\Nat.beq ci 2=true)\/(σ'=σ/\nx'=nx)\/(Nat.ble 10 ci=true/\look σ' (ci-10)=look σ (ci-10)))->K (BQ (BQ f oi.dst x) oj.dst y) σ' nx'->HH P TB U ops ci oi K (BQ f oj.dst y) σ' nx':=by
  intro y σ' nx' e hk;rw[Eo g];refine⟨x,?_,by rw[Nb n]at hk;exact hk⟩;unfold Yl at d |-;rw[HT l]
  rcases d with d|⟨d,q⟩
  ·exact .inl d
  ·exact .inr ⟨d,(q.move e).congr λt ht=>(GN l t ht).symm⟩
 cases c:ET cj
 ·rw[Eo c]at h |-
  obtain⟨y,a,hk⟩:=h;refine⟨y,?_,back y σ nx (.inr (.inl ⟨rfl,rfl⟩)) hk⟩;unfold Yl at a |-;rw[k]at a
  rcases a with a|⟨a,q⟩
  ·exact .inl a
  ·exact .inr ⟨a,q.congr ag⟩
 ·rw [GX c]at h |-
  rw[k]at h
  have e:∀σ' nx',(Nat.ble 1000 cj=true->Kept (cj-1000) σ σ')->(Nat.ble 10 ci=false/\Nat.beq ci 2=true)\/(σ'=σ/\nx'=nx)\/(Nat.ble 10 ci=true/\look σ' (ci-10)=look σ (ci-10)):=λσ' nx' hk=>by
   unfold Po at b;rw[c]at b;simp only[r5,ua,qW,d4]at b
   rcases b with b|⟨r,p,o⟩
   ·have:=i9 b
    subst this;exact .inl ⟨rfl,rfl⟩
   ·exact .inr (.inr ⟨r,hk p _ o⟩)
  rcases h with ⟨j,hk⟩|⟨j,hk⟩
  ·exact .inl ⟨j,back _ σ nx (.inr (.inl ⟨rfl,rfl⟩)) hk⟩
  ·exact .inr ⟨j,(Ck.congr ag hk).mono λy σ' nx' hk=>⟨hk.1,back y σ' nx' (e σ' nx' hk.1) hk.2⟩⟩
theorem Ga(K:Env->Ac->Nat->Prop):∀(r:List (Nat×Nat)) (listed:Array Bool) (f:Env) (σ:Ac) (nx:Nat),Gt ops listed->Bo ops r listed=true->Ee ops r=true->
 Lex P TB U ops r K f σ nx->∀j,j∈Region.ready .any ops listed->∃k c g o,r=k++(j,c)::g/\ops[j]?=some o/\HH P TB U ops c o (Lex P TB U ops (k++g) K) f σ nx
 | [],listed,_,_,_,_,q,_,_,j,t=>by have:=Me _ _ q j t;simp at this
 | (i, ci)::r,listed,f,σ,nx,F,q,hk,h,j,t=>by
  obtain⟨oi,m,h⟩:=h;by_cases n:j=i
  ·subst n
   exact⟨[],ci,r,oi,rfl,m,h⟩
  ·simp only [Bo,d4]at q
   simp only[Ee,d4]at hk
   have hi:i∈Region.ready .any ops listed:=by simpa using q.1
   have y:j∈r.map (·.1):=Me r _ q.2 j (ready_mono t n);obtain⟨⟨j',cj⟩,s,rfl⟩:=d9.1 y;have p:=hk.1;unfold TG at p;rw[ge]at p
   have l:∀c',(j',c')∈r->ET ci=false/\(∃oj,ops[j']?=some oj/\oi.apart ops oj=true)/\Po ci c'=true:=by
    intro c' w;have d:=p _ w;simp only[qW,d4]at d
    rcases d with d|⟨⟨Q,v⟩,N⟩
    ·exact absurd t (Oj F (WI (Qd hi)) d)
    ·refine⟨by simpa using Q,?_,N⟩
     rw[m]at v
     cases b:ops[j']? with
     | none=>rw[b]at v;cases v
     | some oj=>rw[b]at v;exact⟨oj,rfl,v⟩
   have u:=(l cj s).1;have G:HH P TB U ops ci oi (Lex P TB U ops r K) f σ nx:=h;rw[Eo u]at G;obtain⟨x,H,I⟩:=G;obtain⟨k,c,g,oj,B,b,M⟩:=Ga K r (listed.setIfInBounds i true) _ σ nx (IB F hi) q.2 hk.2 I j' (ready_mono t n);obtain⟨_,⟨oj',a,A⟩,z⟩:=l c (by rw[B];simp);rw[b]at a
   injection a with a
   subst a;refine⟨(i,ci)::k,c,g,oj,by rw[B];rfl,b,?_⟩;have L:=bW u A z H M;have e:Lex P TB U ops ((i,ci)::k++g) K=λf σ nx=>∃o,ops[i]?=some o/\HH P TB U ops ci o (Lex P TB U ops (k++g) K) f σ nx:=rfl;rw[e]
   have J:∀f σ nx,HH P TB U ops ci oi (Lex P TB U ops (k++g) K) f σ nx->∃o,ops[i]?=some o/\HH P TB U ops ci o (Lex P TB U ops (k++g) K) f σ nx:=λf σ nx h=>⟨oi,m,h⟩
   exact HH.mono J L
end
structure CG (TB:BJ) (U:Ctx) (N:Nat) (V:View) (f:Env) (σ:Ac) (nx:Nat) (a:Act):Prop where
 env:Fh V f a.tmps
 lt:∀t e,f t=some e->t<N
 size:a.tmps.size=N
 inv:Inv TB U V σ
 nx:V.nx=nx
 defers:a.defers=[]
def Hm(N:Nat)(ops:Array Oper):Bool:=ops.all λo=>match o.dst with|some d=>Nat.blt d N|none=>true
section
variable {P:Program}{TB:BJ}{U:Ctx}{N:Nat}{ops:Array Oper}
theorem Xq(h:Hm N ops=true){i:Nat}{o:Oper}(a:ops[i]?=some o){d:Tmp}(b:o.dst=some d):d<N:=by
 unfold Hm at h;rw[Array.all_eq_true]at h;obtain⟨hi,rfl⟩:=qZ.1 a;have:=h i hi;rw[b]at this;exact ce this
theorem CG.put{V V':View}{f:Env}{σ σ':Ac}{nx nx':Nat}{a:Act}{d:Option Tmp}{x:E}{v:Value}(h:CG TB U N V f σ nx a)(g:∀t,d=some t->t<N)
 (e:Ext V V') (hi:Inv TB U V' σ') (c:V'.nx=nx') (i:Bu V' x v):CG TB U N V' (BQ f d x) σ' nx' (a.put d v):=by
 cases d with
 | none=>exact⟨h.env.ext e,h.lt,h.size,hi,c,h.defers⟩
 | some d=>
  refine⟨?_,?_,by simp[Act.put,h.size],hi,c,h.defers⟩
  ·intro t y b
   simp only[BQ]at b;by_cases ht:t=d
   ·subst ht
    simp only[if_true]at b
    injection b with b
    subst b
    have:t<a.tmps.size:=by rw[h.size];exact g t rfl
    simpa[Act.put,this]using i
   ·rw[if_neg ht]at b
    have:=(h.env t y b).ext e
    simpa[Act.put,sO (Ne.symm ht)]using this
  ·intro t y b
   simp only[BQ]at b;by_cases ht:t=d
   ·subst ht;exact g t rfl
   ·rw[if_neg ht]at b;exact h.lt t y b
theorem NH(V:View):Bu V (.t []) undef:=⟨#[],rfl,rfl,λj x v h=>by simp at h⟩
def Y0(TB:BJ)(U:Ctx)(N:Nat)(K:Env->Ac->Nat->Prop)(Q:Exit->Act->World->Prop):Prop:=
 ∀V f σ a,CG TB U N V f σ V.nx a->K f σ V.nx->Q .normal a V.w
theorem O2{c:Nat}{i:Nat}{o:Oper}(A:ops[i]?=some o)(k:∀t,o.dst=some t->t<N){K:Env->Ac->Nat->Prop}{K':Act->World->Prop}{Q:Exit->Act->World->Prop}
 (l:∀V f σ a,CG TB U N V f σ V.nx a->K f σ V.nx->K' a V.w)
 {V:View} {f:Env} {σ:Ac} {nx:Nat} {a:Act} (b:CG TB U N V f σ nx a) (h:HH P TB U ops c o K f σ nx):wpOp P ops Q i K' a V.w:=by
 have g:∀t e,f t=some e->t<a.tmps.size:=λt e B=>by rw[b.size];exact b.lt t e B
 unfold wpOp;simp only[A]
 have no:BB ops o f=some false->K (BQ f o.dst (.t [])) σ nx->(if Region.wanted o (yielded ops a.tmps) then o.wp P a V.w K' Q\/(o.asks P a V.w/\LetsOut Q) else K' (a.put o.dst undef) V.w):=by
  intro d hk;rw[It b.env g d];have j:CG TB U N V (BQ f o.dst (.t [])) σ V.nx (a.put o.dst undef):=b.put k (Ext.refl _) b.inv rfl (NH V)
  simpa using l _ _ _ _ j (by rw[b.nx];exact hk)
 have yes:BB ops o f=some true->(∃x,A5 P TB U o f σ nx x/\K (BQ f o.dst x) σ nx)->(if Region.wanted o (yielded ops a.tmps) then o.wp P a V.w K' Q\/(o.asks P a V.w/\LetsOut Q) else K' (a.put o.dst undef) V.w):=by
  rintro d ⟨x,z,hk⟩;rw[It b.env g d];simp only[if_true];refine .inl (YP P (Oper.wp_mono ?_ (z V a (b.env.op o) b.inv b.nx)));rintro a' w' ⟨V',v,rfl,rfl,r,p,n,m⟩;exact l V' _ σ _ (b.put k r p rfl m) (by rw[n];exact hk)
 cases s:ET c
 ·rw [Eo s]at h
  obtain⟨x,y,hk⟩:=h
  rcases y with ⟨d,rfl⟩|⟨d,q⟩
  ·exact no d hk
  ·refine yes d ⟨x,?_,hk⟩
   unfold QC at q;cases j:Nat.ble 10 c
   ·rw[j]at q
    cases u:Nat.beq c 2
    ·rw[u]at q;exact q
    ·rw[u]at q;exact q σ nx
   ·rw[j]at q;exact q σ nx rfl
 ·rw [GX s]at h
  rcases h with ⟨d,hk⟩|⟨d,hk⟩
  ·exact no d hk
  ·rw[It b.env g d]
   simp only[if_true];refine .inl (YP P (Oper.wp_mono ?_ (hk V a (b.env.op o) b.inv b.nx)));rintro a' w' ⟨V',v,x,σ',rfl,rfl,r,p,n,m⟩;exact l V' _ σ' _ (b.put k r p rfl n) m.2
theorem MI(g:Hm N ops=true){K:Env->Ac->Nat->Prop}{Q:Exit->Act->World->Prop}(j:Y0 TB U N K Q):∀(r:List (Nat×Nat)) (V:View) (f:Env) (σ:Ac) (a:Act),
 CG TB U N V f σ V.nx a->Lex P TB U ops r K f σ V.nx->wpOps P ops Q (r.map (·.1)) a V.w
 | [],V,f,σ,a,d,h=>j V f σ a d h
 | (i,c)::r,V,f,σ,a,d,h=>by
  obtain⟨o,e,h⟩:=h;rw[rX,wpOps_cons];exact O2 e (λt ht=>Xq g e ht) (λV' f' σ' a' b hk=>MI g j r V' f' σ' a' b hk) d h
theorem MH(v:Hm N ops=true){K:Env->Ac->Nat->Prop}{Q:Exit->Act->World->Prop}(y:Y0 TB U N K Q):∀(n:Nat) (r:List (Nat×Nat)) (listed:Array Bool) (V:View) (f:Env) (σ:Ac) (a:Act),
 r.length=n->Gt ops listed->Bo ops r listed=true->Ee ops r=true->CG TB U N V f σ V.nx a->Lex P TB U ops r K f σ V.nx->wpAny P .any ops Q n listed a V.w
 | 0,r,listed,V,f,σ,a,g,u,b,hk,p,h=>by
  have:r=[]:=pp.1 g;subst this;refine⟨?_,y V f σ a p h⟩
  simpa[Bo]using b
 | n + 1,r,listed,V,f,σ,a,g,u,b,hk,p,h=>by
  refine⟨λe=>?_,λj s=>?_⟩
  ·cases r with
   | nil=>simp at g
   | cons x r=>
    obtain⟨i,c⟩:=x;simp only[Bo,d4]at b;have:=b.1;rw[e]at this;simp at this
  ·obtain⟨l,c,k,o,rfl,d,z⟩:=Ga K r listed f σ V.nx u b hk h j s
   refine O2 d (λt ht=>Xq v d ht) (λV' f' σ' a' m q=>?_) p z;exact MH v y n (l++k) _ V' f' σ' a' (by simp at g |-;omega) (IB u s) (P7 l k j c listed b s) (Mb l k _ hk) m q
def Aj(P:Program)(TB:BJ)(U:Ctx)(N:Nat)(c:Code)(Q:Exit->Env->Ac->Nat->Prop)(f:Env)(σ:Ac)(nx:Nat):Prop:=
 ∀V a,CG TB U N V f σ nx a->c.wp P (λe a' w'=>∃V' f' σ',V'.w=w'/\Q e f' σ' V'.nx/\CG TB U N V' f' σ' V'.nx a') a V.w
variable {Q:Exit->Env->Ac->Nat->Prop}{f:Env}{σ:Ac}{nx:Nat}
theorem Aj.skip(h:Q .normal f σ nx):Aj P TB U N .skip Q f σ nx:=λV _ a=>wp_skip ⟨V,f,σ,rfl,by rw[a.nx];exact h,by rw[a.nx];exact a⟩
theorem Aj.exit{id:Nat}(h:Q (.exit id) f σ nx):Aj P TB U N (.exit id) Q f σ nx:=λV _ a=>wp_exit ⟨V,f,σ,rfl,by rw[a.nx];exact h,by rw[a.nx];exact a⟩
theorem Aj.ret(h:Q .ret f σ nx):Aj P TB U N .ret Q f σ nx:=λV _ a=>wp_ret ⟨V,f,σ,rfl,by rw[a.nx];exact h,by rw[a.nx];exact a⟩
def MB(K:Env->Ac->Nat->Prop)(Q:Exit->Env->Ac->Nat->Prop):Exit->Env->Ac->Nat->Prop
 | .normal=>K
 | e=>Q e
theorem Aj.seq{x y:Code}(h:Aj P TB U N x (MB (Aj P TB U N y Q) Q) f σ nx):Aj P TB U N (.seq x y) Q f σ nx:=by
 intro V a d;refine wp_seq (wp_mono (h V a d) ?_);rintro e a' w' ⟨V',f',σ',rfl,c,b⟩
 cases e with
 | normal=>exact c V' a' b
 | exit id=>exact⟨V',f',σ',rfl,c,b⟩
 | goto l=>exact⟨V',f',σ',rfl,c,b⟩
 | ret=>exact⟨V',f',σ',rfl,c,b⟩
 | panic ch=>exact⟨V',f',σ',rfl,c,b⟩
 | outgrown=>exact⟨V',f',σ',rfl,c,b⟩
def pb(id:Nat)(Q:Exit->Env->Ac->Nat->Prop):Exit->Env->Ac->Nat->Prop
 | .exit id'=>bif Nat.beq id' id then Q .normal else Q (.exit id')
 | e=>Q e
theorem Aj.block{id:Nat}{c:Code}(h:Aj P TB U N c (pb id Q) f σ nx):Aj P TB U N (.block id c) Q f σ nx:=by
 intro V a i;refine wp_block (wp_mono (h V a i) ?_);rintro e a' w' ⟨V',f',σ',rfl,b,g⟩
 cases e with
 | exit id'=>
  simp only[Exit.inBlock];by_cases d:id'=id
  ·subst d
   simp only[pb,uH,cond_true]at b;rw[if_pos rfl];exact⟨V',f',σ',rfl,b,g⟩
  ·have:Nat.beq id' id=false:=by
    cases hb:Nat.beq id' id
    ·rfl
    ·exact absurd (i9 hb) d
   simp only[pb,this,cond_false]at b;rw[if_neg d];exact⟨V',f',σ',rfl,b,g⟩
 | normal=>exact⟨V',f',σ',rfl,b,g⟩
 | goto l=>exact⟨V',f',σ',rfl,b,g⟩
 | ret=>exact⟨V',f',σ',rfl,b,g⟩
 | panic ch=>exact⟨V',f',σ',rfl,b,g⟩
 | outgrown=>exact⟨V',f',σ',rfl,b,g⟩
def cE:Value->Option E
 | .slice none 0 0=>some (.o (.d (.l [])))
 | v=>bif Qn v then some (.o (.d (.v v))) else none
def ev(f:Env):Operand->Option E
 | .tmp t=>f t
 | .const v=>cE v
 | .global _=>none
 | .func f=>some (.o (.fn f []))
theorem dS{V:View}{v:Value}{e:E}(h:cE v=some e):Bu V e v:=by
 unfold cE at h;split at h
 ·injection h with h;subst h;exact .d .nil
 ·cases a:Qn v
  ·rw[a]at h;cases h
  ·rw[a]at h;injection h with h;subst h;exact .d (.v a)
theorem lD{V:View}{o:Oper}{f:Env}{a:Act}(h:Lo V o f a){x:Operand}(d:x∈o.op.operands){e:E}(b:ev f x=some e):Bu V e (a.eval x):=by
 cases x with
 | tmp t=>exact h t e d b
 | const v=>exact dS b
 | global g=>cases b
 | func g=>
  injection b with b;subst b
  exact .fn rfl (λj c v i=>by simp at i)
theorem lC{V:View}{f:Env}{a:Act}(h:Fh V f a.tmps){x:Operand}{e:E}(b:ev f x=some e):Bu V e (a.eval x):=by
 cases x with
 | tmp t=>exact h t e b
 | const v=>exact dS b
 | global g=>cases b
 | func g=>
  injection b with b;subst b
  exact .fn rfl (λj c v d=>by simp at d)
theorem Aj.cond{c:Operand}{x y:Code}{b:Bool}(i:ev f c=some (.o (.d (.v (.bool b)))))(ht:b=true->Aj P TB U N x Q f σ nx)(g:b=false->Aj P TB U N y Q f σ nx) :
 Aj P TB U N (.cond c x y) Q f σ nx:=by
 intro V a e;have j:a.eval c=.bool b:=AP.val (lC e.env i);exact wp_cond_split j (λh=>ht h V a e) (λh=>g h V a e)
theorem Aj.region{id:Nat}(r:List (Nat×Nat))(e:Hm N ops=true)(d:r.map (·.1)=List.range ops.size)(h:Lex P TB U ops r (λf σ nx=>Q .normal f σ nx) f σ nx) :
 Aj P TB U N (.region id ops false) Q f σ nx:=by
 intro V a b;refine wp_region ?_;rw[<-d];have c:=b.nx;subst c;exact MI e (λV f σ a b hk=>⟨V,f,σ,rfl,hk,b⟩) r V f σ a b h
theorem NO(ops:Array Oper):Gt ops (Array.replicate ops.size false):=by
 intro j a
 have:(Array.replicate ops.size false).getD j false=false:=by
  rcases rn j ops.size with h|h
  ·simp[h]
  ·simp[h]
 rw[this]at a;cases a
theorem Inv.drew{V:View}(h:Inv TB U V σ):Inv TB U { V with w:={ V.w with drawn:=V.w.drawn+1 } } σ/\Ext V { V with w:={ V.w with drawn:=V.w.drawn+1 } } := by
 have e:Ext V { V with w:={ V.w with drawn:=V.w.drawn+1 } } := ⟨λ_ h=>h,λ_ _=>rfl,lc _,λ_ _=>rfl,λ_ _=>rfl,λ_ _=>Iff.rfl,lc _⟩
 refine⟨⟨h.os,h.tape,h.output,h.old,h.iLt,h.iNew,h.ext.trans e,⟨λid o d=>?_,h.st.lt,h.st.free,h.st.inj⟩,h.live,h.tabs,h.hid.step (λ_ h=>h) (λ_ _=>rfl) (lc _) (λ_ _ _ _=>rfl) (λ_ h=>.inl h) (λb hb=>.inl (Jq e h.st.lt hb))⟩,e⟩;have a:=h.st.obj id o d
 cases o with
 | cells T k rows=>
  rcases a with a|⟨u,cur,t,s,q,p,n,m⟩
  ·exact .inl a
  ·exact .inr ⟨u,cur,t,s,q,p,n,λi r j c hi f=>let ⟨v,l,g⟩:=m i r j c hi f;⟨v,l,g.ext e⟩⟩
 | mp=>exact a
 | sld=>exact a
theorem Aj.jN{id:Nat}(r:List (Nat×Nat))(i:P.follows .mixedOrders=true)(j:Hm N ops=true)(g:r.length=ops.size)(d:(Bo ops r (Array.replicate ops.size false) && Ee ops r)=true)
 (h:Lex P TB U ops r (λf σ nx=>Q .normal f σ nx) f σ nx):Aj P TB U N (.region id ops true) Q f σ nx:=by
 intro V a b;rw[d4]at d;refine wp_region_any i ?_;obtain⟨l,k⟩:=b.inv.drew
 have c:CG TB U N { V with w:={ V.w with drawn:=V.w.drawn+1 } } f σ V.nx a:=⟨b.env.ext k,b.lt,b.size,l,rfl,b.defers⟩
 have e:=b.nx;subst e;exact MH j (λV f σ a b hk=>⟨V,f,σ,rfl,hk,b⟩) ops.size r _ { V with w:={ V.w with drawn:=V.w.drawn+1 } } f σ a g (NO ops) d.1 d.2 c h
theorem Aj.loop{α:Type}{c:Code}(S:α->Env×Ac×Nat)(μ:α->Nat)(back:α->Env->Ac->Nat->Prop)
 (g:∀y f σ nx V a,back y f σ nx->CG TB U N V f σ nx a->∃V',V'.w=V.w/\CG TB U N V' (S y).1 (S y).2.1 (S y).2.2 a)
 (x:α) (u:back x f σ nx) (round:∀x,Aj P TB U N c (MB (λf σ nx=>∃y,μ y<μ x/\back y f σ nx) Q) (S x).1 (S x).2.1 (S x).2.2) :
 Aj P TB U N (.loop c) Q f σ nx:=by
 intro V a o b k cs;have key:∀n y,μ y=n->∀V a,CG TB U N V (S y).1 (S y).2.1 (S y).2.2 a->
  ∃e a' w',(∃V' f' σ',V'.w=w'/\Q e f' σ' V'.nx/\CG TB U N V' f' σ' V'.nx a')/\Arrives P (lone (b.at a (.code c::.inLoop c::k)) cs V.w) b k cs e a' w':=by
  intro n
  induction n using Nat.strongRecOn with
  | _ n r=>
   intro y t V a o;obtain⟨e,a₁,w₁,p,d⟩:=round y V a o b (.inLoop c::k) cs;obtain⟨V',f',σ',rfl,i,h⟩:=p
   cases e with
   | normal=>
    obtain⟨z,s,hb⟩:=i;obtain⟨V'',q,j⟩:=g z f' σ' V'.nx V' a₁ hb h;obtain⟨e₂,a₂,w₂,hq₂,harr₂⟩:=r (μ z) (t▸s) z rfl V'' a₁ j;rw[q]at harr₂;exact⟨e₂,a₂,w₂,hq₂,.of_steps (Steps.trans d (.one step_inLoop)) harr₂⟩
   | exit id=>exact⟨_,a₁,_,⟨V',f',σ',rfl,i,h⟩,.pass (x:=.inLoop c) rfl (λ_ _=>.inl (by simp)) d⟩
   | goto l=>exact⟨_,a₁,_,⟨V',f',σ',rfl,i,h⟩,.pass (x:=.inLoop c) rfl (λ_ _=>.inl (by simp)) d⟩
   | ret=>exact⟨_,a₁,_,⟨V',f',σ',rfl,i,h⟩,.pass (x:=.inLoop c) rfl (λ_ _=>.inl (by simp)) d⟩
   | panic ch=>exact⟨_,a₁,_,⟨V',f',σ',rfl,i,h⟩,.pass (x:=.inLoop c) rfl (λ_ _=>.inl (by simp)) d⟩
   | outgrown=>exact⟨_,a₁,_,⟨V',f',σ',rfl,i,h⟩,.pass (x:=.inLoop c) rfl (λ_ _=>.inl (by simp)) d⟩
 obtain⟨V',q,m⟩:=g x f σ nx V a u o;obtain⟨e,a',w',p,d⟩:=key _ x rfl V' a m;rw[q]at d;exact⟨e,a',w',p,.of_steps (.one step_loop) d⟩
end
end Go.Am
namespace Go.Proofs.YtdipaikojjjebaaGreatDoor
open Go
theorem Rn:mapsRowed Tryz.prog=true:=by kernel_rfl
theorem bA:(Tryz.prog.stops == [])=true:=by kernel_rfl
theorem bx:(Tryz.prog.stopKnobs == [])=true:=by kernel_rfl
theorem bu:Tryz.prog.stopsHeard=true:=by kernel_rfl
theorem Ro:(false == Tryz.prog.plainKeys)=true:=by kernel_rfl
end Go.Proofs.YtdipaikojjjebaaGreatDoor
