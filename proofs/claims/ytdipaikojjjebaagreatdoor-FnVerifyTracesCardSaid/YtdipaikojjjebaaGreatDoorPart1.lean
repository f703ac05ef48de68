/-
  A machine of pure data over the kit's machine: values without addresses, their reading in a world, the walk of code over them, any order of a region that draws.
-/
import Derived.Still
import Derived.Laws.AppendOwn
import Derived.Test.YtdipaikojjjebaaGreatDoorRows
import Derived.JoinedCond
import Derived.KernelRfl
set_option linter.all false
namespace Go.Am
abbrev am:=@List.getElem?_eq_some_iff
abbrev ce:=@Nat.le_of_ble_eq_true
abbrev co:=@List.mem_of_getElem?
abbrev d4:=@Bool.and_eq_true
abbrev d5:=@List.getElem?_eq_getElem
abbrev d6:=@Option.map_eq_some_iff
abbrev d7:=@Function.comp_def
abbrev d8:=@List.mem_map
abbrev d9:=@List.getElem?_append_left
abbrev f6:=@List.mem_append
abbrev f7:=@List.length_map
abbrev f9:=@List.getElem?_append_right
abbrev gc:=@Nat.eq_of_beq_eq_true
abbrev ge:=@List.all_eq_true
abbrev gt:=@List.take_add_one
abbrev i7:=@Int.toNat_natCast
abbrev i8:=@Nat.not_lt_zero
abbrev i9:=@Nat.le_refl
abbrev io:=@List.getElem?_map
abbrev jp:=@List.take_length
abbrev kw:=@List.nodup_nil
abbrev l3:=@List.length_set
abbrev l4:=@Int.mul_le_mul
abbrev l5:=@Nat.lt_or_ge
abbrev l6:=@Nat.add_mul
abbrev l7:=@List.getElem_mem
abbrev l8:=@Nat.add_assoc
abbrev l9:=@Nat.mul_le_mul_right
abbrev lF:=@List.take_of_length_le
abbrev lG:=@Nat.lt_of_lt_of_le
abbrev lH:=@Nat.zero_add
abbrev lI:=@Array.getElem?_eq_getElem
abbrev lJ:=@List.mem_cons
abbrev lK:=@Sem.run_bind
abbrev lL:=@List.length_eq_zero_iff
abbrev lM:=@Option.bind_eq_some_iff
abbrev lN:=@List.pairwise_iff_getElem
abbrev lO:=@List.getElem_of_mem
abbrev lP:=@List.mem_append_left
abbrev lQ:=@Array.getElem?_eq_some_iff
abbrev lR:=@Array.getElem?_append_left
abbrev lS:=@List.mem_range
abbrev lT:=@Bool.or_eq_true
abbrev lU:=@List.mem_cons_of_mem
abbrev lV:=@List.getElem?_eq_none
abbrev lW:=@List.getElem?_take
abbrev lX:=@List.mem_append_right
abbrev lY:=@List.getElem?_drop
abbrev lZ:=@Nat.mod_eq_of_lt
abbrev lc:=@Result.andThen_ok
abbrev lm:=@Nat.le_trans
abbrev lw:=@List.mem_filter
abbrev m7:=@Nat.eq_of_testBit_eq
abbrev m8:=@List.pairwise_append
abbrev m9:=@Nat.lt_succ_of_lt
abbrev mA:=@Int.mul_le_mul_of_nonneg_left
abbrev mB:=@Int.toNat_of_nonneg
abbrev mC:=@List.getElem?_toArray
abbrev mD:=@List.drop_zero
abbrev mE:=@List.map_append
abbrev mF:=@List.length_append
abbrev mH:=@Array.getElem?_append_right
abbrev mI:=@List.filter_cons_of_pos
abbrev mJ:=@Option.bind_some
abbrev mK:=@List.cons_append
abbrev mL:=@List.mem_flatMap
abbrev mM:=@List.map_set
abbrev mN:=@List.drop_of_length_le
abbrev mO:=@List.filter_append
abbrev mP:=@List.map_cons
abbrev mQ:=@Nat.le_mul_of_pos_right
abbrev mR:=@List.pairwise_map
abbrev mS:=@Int.ediv_nonneg
abbrev mU:=@Nat.zero_mul
abbrev mV:=@Nat.testBit_succ
abbrev mW:=@Array.getElem?_setIfInBounds_ne
abbrev mY:=@List.mem_of_mem_drop
abbrev mZ:=@Bool.eq_iff_iff
abbrev ma:=@List.mem_of_mem_take
abbrev mc:=@Nat.pow_le_pow_right
abbrev me:=@List.length_cons
abbrev mf:=@Int.mul_nonneg
abbrev mg:=@List.pairwise_cons
abbrev mh:=@Int.emod_lt_of_pos
abbrev mj:=@List.getElem?_set_self
abbrev ml:=@List.getElem?_set_ne
abbrev mn:=@Nat.eq_zero_or_pos
abbrev mq:=@List.append_nil
abbrev mr:=@Int.mul_le_mul_of_nonneg_right
abbrev ms:=@Int.emod_nonneg
abbrev mt:=@Nat.zero_le
abbrev mu:=@List.map_map
abbrev mw:=@Array.getElem?_toList
abbrev mx:=@List.take_append_drop
abbrev mz:=@Bool.true_and
abbrev n7:=@Nat.mul_comm
abbrev n8:=@Int.mul_comm
abbrev n9:=@Nat.lt_succ_iff_lt_or_eq
abbrev nA:=@Int.ediv_le_self
abbrev nB:=@List.getElem?_range
abbrev nC:=@List.filter_cons_of_neg
abbrev nD:=@Nat.lt_or_gt_of_ne
abbrev nE:=@Array.eq_empty_of_size_eq_zero
abbrev nF:=@Bool.false_eq_true
abbrev nG:=@List.find?_eq_none
abbrev nH:=@List.mem_cons_self
abbrev nI:=@Sem.run_map
abbrev nJ:=@List.nodup_append
abbrev nK:=@List.flatMap_cons
abbrev nL:=@List.foldl_append
abbrev nM:=@Nat.or_lt_two_pow
abbrev nN:=@Nat.ble_eq_true_of_le
abbrev nO:=@Nat.add_zero
abbrev nP:=@Nat.pow_succ
abbrev nQ:=@Nat.testBit_or
abbrev nR:=@List.length_take
abbrev nS:=@List.getElem?_of_mem
abbrev nT:=@List.getD_eq_getElem?_getD
abbrev nU:=@List.filter_eq_self
abbrev nV:=@List.nil_append
abbrev nW:=@List.foldl_cons
abbrev nX:=@Array.mapM_eq_mapM_toList
abbrev nY:=@List.drop_eq_getElem_cons
abbrev nZ:=@Nat.add_comm
abbrev nc:=@Bool.not_eq_true'
abbrev nf:=@List.ext_getElem?
abbrev ng:=@Int.mul_assoc
abbrev nh:=@List.map_congr_left
abbrev nj:=@Nat.testBit_two_pow
abbrev nk:=@Array.getElem?_setIfInBounds
abbrev nn:=@Int.add_mul
abbrev nq:=@Option.map_some
abbrev nr:=@List.length_filter_le
abbrev nt:=@Nat.two_pow_pos
abbrev nu:=@List.map_inj_left
abbrev nv:=@List.filter_congr
abbrev nw:=@List.mapM_cons
abbrev ny:=@Nat.lt_succ_self
abbrev nz:=@Array.toList_map
abbrev o3:=@Int.one_mul
abbrev o4:=@List.mem_singleton
abbrev o5:=@List.prefix_append
abbrev o6:=@Int.add_mul_emod_self_right
abbrev o7:=@List.filter_filter
abbrev o8:=@Bool.false_or
abbrev o9:=@Bool.and_self
abbrev oH:=@List.drop_length
abbrev oI:=@List.not_mem_nil
abbrev oJ:=@Nat.testBit_eq_decide_div_mod_eq
abbrev oK:=@Option.bind_none
abbrev oL:=@List.eraseIdx_eq_take_drop_succ
abbrev oM:=@List.mk_mem_zipIdx_iff_getElem?
abbrev oN:=@Nat.beq_refl
abbrev oO:=@List.range_succ
abbrev oP:=@List.length_nil
abbrev oQ:=@Nat.testBit_and
abbrev oR:=@Nat.and_le_left
abbrev oS:=@List.idxOf_cons_self
abbrev oT:=@List.eq_nil_of_length_eq_zero
abbrev oU:=@List.length_flatten
abbrev oV:=@List.replicate_succ
abbrev oW:=@Option.bind_eq_bind
abbrev oX:=@List.length_pos_iff
abbrev oY:=@List.dropLast_concat_getLast
abbrev oa:=@Bool.or_true
abbrev oc:=@Bool.false_ne_true
abbrev oe:=@List.getElem?_cons_succ
abbrev og:=@Int.ediv_ediv_of_nonneg
abbrev oh:=@Array.any_eq_true
abbrev ol:=@Nat.lt_trichotomy
abbrev oo:=@List.append_assoc
abbrev oq:=@Bool.eq_false_iff
abbrev ot:=@Array.getElem?_extract
abbrev ou:=@Int.ediv_eq_zero_of_lt
abbrev ow:=@List.filter_eq_nil_iff
abbrev ox:=@Option.getD_some
abbrev oy:=@List.filter_cons
abbrev oz:=@List.prefix_refl
abbrev pb:=@Array.getElem_mem
abbrev pc:=@List.size_toArray
abbrev pe:=@List.flatten_cons
abbrev pf:=@List.find?_append
abbrev pg:=@List.idxOf_append
abbrev ph:=@Int.emod_eq_of_lt
abbrev pi:=@List.map_toArray
abbrev pj:=@List.map_nil
abbrev pk:=@Nat.sub_zero
abbrev pm:=@List.length_drop
abbrev po:=@List.any_eq_true
abbrev pp:=@Nat.zero_testBit
abbrev pu:=@Int.zero_add
abbrev pv:=@Int.add_comm
abbrev px:=@Nat.zero_lt_one
abbrev pz:=@Nat.mul_one
open Go
inductive D where
 | v (x:Value)
 | l (rows:List (List D))
 | p (cells:List D)
inductive C where
 | d (x:D)
 | arr (id k off len:Nat)
 | ptr (id k i j:Nat)
 | fn (f:FuncId) (cap:List C)
 | mp (id:Nat)
 | mv (f:FuncId) (recv:List C)
abbrev C.ip(cells:List D):C:=.d (.p cells)
inductive E where
 | o (c:C)
 | a (cs:List C)
 | t (xs:List (Bool×List C))
 | e
def OA:Value->Bool
 | .bool _|.int ..|.float ..|.complex ..|.string _|.pointer _|.map none|.chan none|.nilFunc|.nilIface|.slice .. => true
 | .func (.func _) ⟨[]⟩ ⟨[]⟩=>true
 | _=>false
structure View where
 I:Nat->Prop
 ρ:Nat->Nat
 cap:Nat->Nat
 nl:Nat->Prop
 nx:Nat
 w:World
inductive Dj (I:Nat->Prop) (w:World):D->Value->Prop
 | v {x:Value}:OA x=true->Dj I w (.v x) x
 | nil:Dj I w (.l []) (.slice none 0 0)
 | e {a:Addr} {cap:Nat}:cap<=maxLen->Dj I w (.l []) (.slice (some a) 0 cap)
 | l {rows:List (List D)} {b o k cap:Nat} {vs:Nat->Nat->Value}:I b->rows.length<=cap->cap<=maxLen->
  (∀(i:Nat) (r:List D),rows[i]?=some r->r.length=k)->
  (∀(i:Nat) (r:List D) (j:Nat) (d:D),rows[i]?=some r->r[j]?=some d->w.cell? ⟨b,o+i*k+j,none⟩=some (vs i j))->
  (∀(i:Nat) (r:List D) (j:Nat) (d:D),rows[i]?=some r->r[j]?=some d->Dj I w d (vs i j))->
  Dj I w (.l rows) (.slice (some ⟨b,o,none⟩) rows.length cap)
 | p {cells:List D} {b o:Nat} {vs:Nat->Value}:I b->(∀(j:Nat) (d:D),cells[j]?=some d->w.cell? ⟨b,o+j,none⟩=some (vs j))->(∀(j:Nat) (d:D),cells[j]?=some d->Dj I w d (vs j))->
  Dj I w (.p cells) (.pointer (some ⟨b,o,none⟩))
theorem Np{w w':World}{b:Nat}(h:w'.heap[b]?=w.heap[b]?)(o:Nat):w'.cell? ⟨b,o,none⟩=w.cell? ⟨b,o,none⟩:=by
 simp[World.cell?,h]
theorem Dj.mono{I I':Nat->Prop}{w w':World}{d:D}{v:Value}(hI:∀b,I b->I' b)(g:∀b,I b->w'.heap[b]?=w.heap[b]?)(h:Dj I w d v):Dj I' w' d v:=by
 induction h with
 | v h=>exact .v h
 | nil=>exact .nil
 | e h=>exact .e h
 | @l rows b o k cap vs hb f q n m _ c=>
  exact .l (hI b hb) f q n (λi r j d hi a=>by rw[Np (g b hb)];exact m i r j d hi a) (λi r j d hi a=>c i r j d hi a)
 | @p cells b o vs hb f _ c=>exact .p (hI b hb) (λj d a=>by rw[Np (g b hb)];exact f j d a) (λj d a=>c j d a)
inductive AF (V:View):C->Value->Prop
 | d {x:D} {v:Value}:Dj V.I V.w x v->AF V (.d x) v
 | nil {id k:Nat}:id<V.nx->V.nl id->AF V (.arr id k 0 0) (.slice none 0 0)
 | arr {id k off len:Nat}:id<V.nx->¬V.nl id->off+len<=V.cap id->AF V (.arr id k off len) (.slice (some ⟨V.ρ id,off*k,none⟩) len (V.cap id-off))
 | ptr {id k i j:Nat}:id<V.nx->¬V.nl id->AF V (.ptr id k i j) (.pointer (some ⟨V.ρ id,i*k+j,none⟩))
 | fn {f:FuncId} {cap:List C} {vs:Array Value}:vs.size=cap.length->(∀(j:Nat) (c:C) (v:Value),cap[j]?=some c->vs[j]?=some v->AF V c v)->AF V (.fn f cap) (.func (.func f) #[] vs)
 | mp {id:Nat}:id<V.nx->AF V (.mp id) (.map (some (V.ρ id)))
 | mv {f:FuncId} {recv:List C} {vs:Array Value}:vs.size=recv.length->(∀(j:Nat) (c:C) (v:Value),recv[j]?=some c->vs[j]?=some v->AF V c v)->AF V (.mv f recv) (.func (.func f) vs #[])
theorem AF.ip{V:View}{cells:List D}{b o:Nat}{vs:Nat->Value}(hb:V.I b)(c:∀(j:Nat) (d:D),cells[j]?=some d->V.w.cell? ⟨b,o+j,none⟩=some (vs j))(a:∀(j:Nat) (d:D),cells[j]?=some d->Dj V.I V.w d (vs j)) :
 AF V (.ip cells) (.pointer (some ⟨b,o,none⟩)):=.d (.p hb c a)
theorem Dj.val{I:Nat->Prop}{w:World}{x v:Value}(h:Dj I w (.v x) v):v=x:=by cases h;rfl
theorem AF.val{V:View}{x v:Value}(h:AF V (.d (.v x)) v):v=x:=by cases h with|d h=>exact h.val
structure Ext (V V':View):Prop where
 i:∀b,V.I b->V'.I b
 heap:∀b,V.I b->V'.w.heap[b]?=V.w.heap[b]?
 size:V.w.heap.size<=V'.w.heap.size
 ρ:∀id,id<V.nx->V'.ρ id=V.ρ id
 cap:∀id,id<V.nx->V'.cap id=V.cap id
 nl:∀id,id<V.nx->(V'.nl id↔V.nl id)
 nx:V.nx<=V'.nx
theorem Ext.refl(V:View):Ext V V:=⟨λ_ h=>h,λ_ _=>rfl,i9 _,λ_ _=>rfl,λ_ _=>rfl,λ_ _=>Iff.rfl,i9 _⟩
theorem Ext.trans{A B C:View}(h:Ext A B)(k:Ext B C):Ext A C:=
 ⟨λb hb=>k.i b (h.i b hb),λb hb=>(k.heap b (h.i b hb)).trans (h.heap b hb),lm h.size k.size,
  λi hi=>(k.ρ i (lG hi h.nx)).trans (h.ρ i hi),λi hi=>(k.cap i (lG hi h.nx)).trans (h.cap i hi),λi hi=>(k.nl i (lG hi h.nx)).trans (h.nl i hi),lm h.nx k.nx⟩
theorem Dj.ext{V V':View}{d:D}{v:Value}(e:Ext V V')(h:Dj V.I V.w d v):Dj V'.I V'.w d v:=h.mono e.i e.heap
theorem AF.ext{V V':View}{c:C}{v:Value}(e:Ext V V')(h:AF V c v):AF V' c v:=by
 induction h with
 | d h=>exact .d (h.ext e)
 | @nil id k a f=>exact .nil (lG a e.nx) ((e.nl id a).2 f)
 | @arr id k off len a g f=>rw[<-e.ρ id a,<-e.cap id a];exact .arr (lG a e.nx) (λh=>g ((e.nl id a).1 h)) (by rw[e.cap id a];exact f)
 | @ptr id k i j a g=>rw[<-e.ρ id a];exact .ptr (lG a e.nx) (λh=>g ((e.nl id a).1 h))
 | fn a _ b=>exact .fn a b
 | @mp id a=>rw[<-e.ρ id a];exact .mp (lG a e.nx)
 | mv a _ b=>exact .mv a b
def C1(V:View)(cs:List C)(vs:Array Value):Prop:=vs.size=cs.length/\∀(j:Nat) c v,cs[j]?=some c->vs[j]?=some v->AF V c v
theorem C1.ext{V V':View}{cs:List C}{vs:Array Value}(e:Ext V V')(h:C1 V cs vs):C1 V' cs vs:=⟨h.1,λj c v a b=>(h.2 j c v a b).ext e⟩
def Lb(V:View):Bool×List C->Value->Prop
 | (true,cs),v=>∃vs,v=.agg vs/\C1 V cs vs
 | (false,cs),v=>∃c,cs=[c]/\AF V c v
theorem Lb.ext{V V':View}{x:Bool×List C}{v:Value}(e:Ext V V')(h:Lb V x v):Lb V' x v:=by
 obtain⟨b,cs⟩:=x;cases b
 ·obtain⟨c,d,a⟩:=h;exact⟨c,d,a.ext e⟩
 ·obtain⟨vs,d,a⟩:=h;exact⟨vs,d,a.ext e⟩
def Bd(V:View):E->Value->Prop
 | .o c,v=>AF V c v
 | .a cs,v=>∃vs,v=.agg vs/\C1 V cs vs
 | .t xs,v=>∃vs:Array Value,v=.tuple vs/\vs.size=xs.length/\∀(j:Nat) x v,xs[j]?=some x->vs[j]?=some v->Lb V x v
 | .e,v=>∃b,v=.slice b 0 0
theorem Bd.ext{V V':View}{x:E}{v:Value}(e:Ext V V')(h:Bd V x v):Bd V' x v:=by
 cases x with
 | o c=>exact AF.ext e h
 | a cs=>obtain⟨vs,f,d⟩:=h;exact⟨vs,f,d.ext e⟩
 | t xs=>obtain⟨vs,f,d,g⟩:=h;exact⟨vs,f,d,λj x v a b=>(g j x v a b).ext e⟩
 | e=>exact h
inductive O where
 | cells (T k:Nat) (rows:List (List C))
 | mp (es:List (Value×Value))
 | sld (T:Nat) (l:List (Value×List Value))
abbrev Ab:=List (Nat×O)
def look{α:Type}:List (Nat×α)->Nat->Option α
 | [],_=>none
 | (k,x)::r,i=>bif Nat.beq k i then some x else look r i
theorem Ax{α:Type}(k:Nat)(x:α)(r:List (Nat×α))(i:Nat):look ((k,x)::r) i=if k=i then some x else look r i:=by
 simp only[look];by_cases h:k=i
 ·subst h;simp
 ·have:Nat.beq k i=false:=by
   cases hb:Nat.beq k i
   ·rfl
   ·exact absurd (gc hb) h
  simp[this,h]
def Jl(v:Value)(b:Nat):Prop:=∃o n c,v=.slice (some ⟨b,o,none⟩) n c
def En(V:View)(id:Nat):O->Nat->Prop
 | .cells ..,b=>b=V.ρ id
 | .mp _,b=>b=V.ρ id
 | .sld _ l,b=>∃x∈l,Jl x.1 b
def JL(w:World)(T:Nat)(v:Value)(row:List Value):Prop:=(v=.slice none 0 0/\row=[])\/
 ∃b cap cur,v=.slice (some ⟨b,0,none⟩) row.length cap/\w.heap[b]?=some (.cells cur T (0,0))/\cur.size=cap/\row.length<=cap/\cap<=maxLen/\∀(j:Nat) (x:Value),row[j]?=some x->cur[j]?=some x/\OA x=true
def bH(w:World)(T:Nat)(l:List (Value×List Value)):Prop:=l.Pairwise (λx y=>∀b,Jl x.1 b->¬Jl y.1 b)/\∀x∈l,JL w T x.1 x.2
theorem JL.AR{w w':World}{T:Nat}{v:Value}{row:List Value}(a:∀b,Jl v b->w'.heap[b]?=w.heap[b]?)(h:JL w T v row):JL w' T v row:=by
 rcases h with h|⟨b,cap,cur,rfl,d,c⟩
 ·exact .inl h
 ·exact .inr ⟨b,cap,cur,rfl,by rw[a b ⟨_,_,_,rfl⟩];exact d,c⟩
theorem JL.blt{w:World}{T:Nat}{v:Value}{row:List Value}(h:JL w T v row){b:Nat}(hb:Jl v b):b<w.heap.size:=by
 obtain⟨o,n,c,hb⟩:=hb
 rcases h with ⟨h,_⟩|⟨b',cap,cur,rfl,a,_⟩
 ·rw[h]at hb;cases hb
 ·injection hb with hb;injection hb with hb;injection hb with hb;subst hb;exact(lQ.1 a).1
theorem bH.AR{w w':World}{T:Nat}{l:List (Value×List Value)}(c:∀x∈l,∀b,Jl x.1 b->w'.heap[b]?=w.heap[b]?)(h:bH w T l):bH w' T l:=
 ⟨h.1,λx a=>(h.2 x a).AR (c x a)⟩
def Ci(V:View)(id:Nat):O->Prop
 | .cells T k rows=>(V.nl id/\rows=[])\/¬V.nl id/\∃cur,V.w.heap[V.ρ id]?=some (.cells cur T (0,0))/\cur.size=V.cap id*k/\rows.length<=V.cap id/\V.cap id<=maxLen/\(∀r∈rows,r.length=k)/\
  ∀i r j c,rows[i]?=some r->r[j]?=some c->∃v,cur[i*k+j]?=some v/\AF V c v
 | .mp es=>¬V.nl id/\∃ents clock,V.w.heap[V.ρ id]?=some (.map ents clock)/\ents.toList.map (λe=>(e.key,e.val))=es
 | .sld T l=>¬V.nl id/\bH V.w T l
theorem AA{V V':View}(e:Ext V V'){id:Nat}(a:id<V.nx){o:O}{b:Nat}:En V' id o b↔En V id o b:=by
 cases o<;>simp[En,e.ρ id a]
structure GG (V:View) (σ:Ab):Prop where
 obj:∀id o,look σ id=some o->Ci V id o
 lt:∀id o,look σ id=some o->id<V.nx
 free:∀id o,look σ id=some o->¬V.nl id->∀b,En V id o b->¬V.I b
 inj:∀id id' o o',look σ id=some o->look σ id'=some o'->id≠id'->¬V.nl id->¬V.nl id'->∀b,En V id o b->¬En V id' o' b
structure RO where
 B:Nat->Prop
 J:Nat->Prop
structure Ctx where
 V:View
 F:Nat->Prop
 J:Nat->Prop
def Du(V:View)(σ:Ab)(b:Nat):Prop:=∃id o,look σ id=some o/\¬V.nl id/\En V id o b
theorem Ci.AR{V V':View}(e:Ext V V'){id:Nat}(a:id<V.nx){o:O}(hb:¬V.nl id->∀b,En V id o b->V'.w.heap[b]?=V.w.heap[b]?)(h:Ci V id o):Ci V' id o:=by
 cases o with
 | cells T k rows=>
  replace hb:=λg=>hb g _ (show En V id (.cells T k rows) (V.ρ id) from rfl)
  rcases h with ⟨n,d⟩|⟨f,cur,d,B,A,z,y,u⟩
  ·exact .inl ⟨(e.nl id a).2 n,d⟩
  ·refine .inr ⟨λh=>f ((e.nl id a).1 h),cur,by rw[e.ρ id a,hb f];exact d,by rw[e.cap id a];exact B,by rw[e.cap id a];exact A,by rw[e.cap id a];exact z,y,λi r j c hi q=>?_⟩
   obtain⟨v,t,s⟩:=u i r j c hi q;exact⟨v,t,s.ext e⟩
 | mp es=>
  replace hb:=λg=>hb g _ (show En V id (.mp es) (V.ρ id) from rfl);obtain⟨f,ents,clock,n,d⟩:=h;exact⟨λh=>f ((e.nl id a).1 h),ents,clock,by rw[e.ρ id a,hb f];exact n,d⟩
 | sld T l=>exact⟨λF=>h.1 ((e.nl id a).1 F),h.2.AR λx p b m=>hb h.1 b ⟨x,p,m⟩⟩
theorem Ci.blt{V:View}{id:Nat}{o:O}(h:Ci V id o)(d:¬V.nl id){b:Nat}(hb:En V id o b):b<V.w.heap.size:=by
 cases o with
 | sld T l=>obtain⟨x,c,hb⟩:=hb;exact(h.2.2 x c).blt hb
 | cells T k rows=>
  subst hb
  rcases h with ⟨a,_⟩|⟨_,cur,e,_⟩
  ·exact absurd a d
  ·exact(lQ.1 e).1
 | mp=>
  subst hb;obtain⟨_,ents,clock,a,_⟩:=h;exact(lQ.1 a).1
theorem H0{V V':View}(e:Ext V V'){σ:Ab}(a:∀id o,look σ id=some o->id<V.nx){b:Nat}(h:Du V' σ b):Du V σ b:=by
 obtain⟨id,o,d,i,g⟩:=h;have c:=a id o d;exact⟨id,o,d,λf=>i ((e.nl id c).2 f),(AA e c).1 g⟩
structure Hid where
 S:Type
 st:S->Ab
 nx:Nat
structure BA where
 tabs:List (Nat×Obj)
 hid:Option (Hid×Nat)
instance:Membership (Nat×Obj) BA:=⟨λa x=>x∈a.tabs⟩
def Qk(TB:BA)(S:RO)(w:World):Prop:=match TB.hid with
 | none=>∀b,¬S.B b
 | some (H,r)=>∃(s:H.S) (V:View),V.I=S.J/\V.w=w/\V.nx=H.nx/\GG V (H.st s)/\(0<V.nx/\V.ρ 0=r/\¬V.nl 0/\∀x∈TB,V.I x.1)/\∀b,S.B b↔Du V (H.st s) b
theorem Qk.blt{TB:BA}{S:RO}{w:World}(h:Qk TB S w){b:Nat}(hb:S.B b):b<w.heap.size:=by
 unfold Qk at h;split at h
 ·exact absurd hb (h b)
 ·obtain⟨s,V,k,d,j,c,i,a⟩:=h
  obtain⟨id,o,g,f,e⟩:=(a b).1 hb;rw[<-d];exact(c.obj id o g).blt f e
theorem Qk.AR{TB:BA}{S:RO}{w w':World}(h:Qk TB S w)(t:∀b,S.J b->w'.heap[b]?=w.heap[b]?)(hs:w.heap.size<=w'.heap.size)(u:∀b,S.B b->w'.heap[b]?=w.heap[b]?):Qk TB S w':=by
 unfold Qk at *;split at h
 ·exact h
 ·obtain⟨s,V,r,q,x,d,v,p⟩:=h
  have e:Ext V { V with w:=w' } := by
   subst q;exact⟨λ_ h=>h,λb hb=>t b (by rw[<-r];exact hb),hs,λ_ _=>rfl,λ_ _=>rfl,λ_ _=>Iff.rfl,i9 _⟩
  have bw:∀ {i o b},En { V with w:=w' } i o b↔En V i o b:=λ{i o b} => by cases o<;>exact Iff.rfl
  refine⟨s,{ V with w:=w' },r,rfl,x,⟨λid o a=>?_,d.lt,λid o a c b hb=>d.free id o a c b (bw.1 hb),λid id' o o' a f g c j b hb k=>d.inj id id' o o' a f g c j b (bw.1 hb) (bw.1 k)⟩,v,λb=>?_⟩
  ·exact(d.obj id o a).AR e (d.lt id o a) λc b hb=>by
    have:=u b ((p b).2 ⟨id,o,a,c,hb⟩);rw[q];exact this
  ·rw[p b]
   exact⟨λ⟨id,o,n,m,l⟩=>⟨id,o,n,m,bw.2 l⟩,λ⟨id,o,n,m,l⟩=>⟨id,o,n,m,bw.1 l⟩⟩
structure MD (TB:BA) (V:View) (σ:Ab) (S:RO):Prop where
 r:Qk TB S V.w
 ji:∀b,S.J b->V.I b
 bi:∀b,S.B b->¬V.I b
 ap:∀b,Du V σ b->¬S.B b
def TF(TB:BA)(Γ:Ctx)(V:View)(σ:Ab):Prop:=∃S,MD TB V σ S/\(∀b,S.J b->Γ.J b\/Γ.V.w.heap.size<=b\/Γ.F b)/\∀b,S.B b->Γ.V.w.heap.size<=b\/Γ.F b
theorem MD.step{TB:BA}{S:RO}{V V':View}{σ σ':Ab}(h:MD TB V σ S)(hI:∀b,V.I b->V'.I b)(d:∀b,V.I b->V'.w.heap[b]?=V.w.heap[b]?)(hs:V.w.heap.size<=V'.w.heap.size)
 (e:∀b,b<V.w.heap.size->¬V.I b->¬Du V σ b->V'.w.heap[b]?=V.w.heap[b]?) (g:∀b,V'.I b->V.I b\/Du V σ b\/V.w.heap.size<=b) (i:∀b,Du V' σ' b->Du V σ b\/V.w.heap.size<=b):MD TB V' σ' S:=by
 have f:∀b,S.B b->¬Du V σ b:=λb hb c=>h.ap b c hb;refine⟨h.r.AR (λb hb=>d b (h.ji b hb)) hs (λb hb=>e b (h.r.blt hb) (h.bi b hb) (f b hb)),λb hb=>hI b (h.ji b hb),λb hb hi=>?_,λb c hb=>?_⟩
 ·rcases g b hi with a|a|a
  ·exact h.bi b hb a
  ·exact h.ap b a hb
  ·have:=h.r.blt hb;omega
 ·rcases i b c with a|a
  ·exact h.ap b a hb
  ·have:=h.r.blt hb;omega
theorem TF.step{TB:BA}{Γ:Ctx}{V V':View}{σ σ':Ab}(h:TF TB Γ V σ)(hI:∀b,V.I b->V'.I b)(a:∀b,V.I b->V'.w.heap[b]?=V.w.heap[b]?)(hs:V.w.heap.size<=V'.w.heap.size)
 (c:∀b,b<V.w.heap.size->¬V.I b->¬Du V σ b->V'.w.heap[b]?=V.w.heap[b]?) (d:∀b,V'.I b->V.I b\/Du V σ b\/V.w.heap.size<=b) (e:∀b,Du V' σ' b->Du V σ b\/V.w.heap.size<=b):TF TB Γ V' σ':=by
 obtain⟨S,g,f⟩:=h;exact⟨S,g.step hI a hs c d e,f⟩
theorem TF.same{TB:BA}{Γ:Ctx}{V V':View}{σ σ':Ab}(h:TF TB Γ V σ)(a:V'.w=V.w)(hI:∀b,V.I b->V'.I b)(c:∀b,V'.I b->V.I b\/Du V σ b)(d:∀b,Du V' σ' b->Du V σ b):TF TB Γ V' σ':=
 h.step hI (λb _=>by rw[a]) (by rw[a];exact i9 _) (λb _ _ _=>by rw[a]) (λb hb=>(c b hb).elim .inl λh=>.inr (.inl h)) (λb hb=>.inl (d b hb))
structure Inv (TB:BA) (Γ:Ctx) (V:View) (σ:Ab):Prop where
 os:V.w.os=Γ.V.w.os
 tape:V.w.tape=Γ.V.w.tape
 output:V.w.output=Γ.V.w.output
 old:∀b,b<Γ.V.w.heap.size->¬Γ.F b->V.w.heap[b]?=Γ.V.w.heap[b]?
 iLt:∀b,V.I b->b<V.w.heap.size
 iNew:∀b,V.I b->Γ.V.I b\/Γ.V.w.heap.size<=b\/Γ.F b
 ext:Ext Γ.V V
 st:GG V σ
 live:∀id o,look σ id=some o->¬V.nl id->∀b,En V id o b->Γ.V.w.heap.size<=b\/Γ.F b
 tabs:∀x∈TB,V.I x.1/\V.w.heap[x.1]?=some x.2
 hid:TF TB Γ V σ
abbrev Env:=Nat->Option E
def BO(f:Env)(d:Option Tmp)(x:E):Env:=match d with
 | some d=>λt=>if t=d then some x else f t
 | none=>f
def DW(V:View)(f:Env)(tmps:Array Value):Prop:=∀t e,f t=some e->Bd V e (tmps.getD t undef)
def HR(V:View)(o:Oper)(f:Env)(a:Act):Prop:=∀t e,.tmp t∈o.op.operands->f t=some e->Bd V e (a.tmps.getD t undef)
theorem DW.op{V:View}{f:Env}{a:Act}(h:DW V f a.tmps)(o:Oper):HR V o f a:=λt e _ b=>h t e b
theorem DW.ext{V V':View}{f:Env}{tmps:Array Value}(e:Ext V V')(h:DW V f tmps):DW V' f tmps:=λt x a=>(h t x a).ext e
def jF:Exit->Act->World->Prop:=λ_ _ _=>False
section
variable (P:Program)(TB:BA)(Γ:Ctx)
def A1(o:Oper)(f:Env)(σ:Ab)(nx:Nat)(x:E):Prop:=
 ∀V a,HR V o f a->Inv TB Γ V σ->V.nx=nx->o.wp P a V.w (λa' w'=>∃V' v,V'.w=w'/\a'=a.put o.dst v/\Ext V V'/\Inv TB Γ V' σ/\V'.nx=nx/\Bd V' x v) jF
def Cr(o:Oper)(f:Env)(σ:Ab)(nx:Nat)(K:E->Ab->Nat->Prop):Prop:=
 ∀V a,HR V o f a->Inv TB Γ V σ->V.nx=nx->o.wp P a V.w (λa' w'=>∃V' v x σ',V'.w=w'/\a'=a.put o.dst v/\Ext V V'/\Inv TB Γ V' σ'/\Bd V' x v/\K x σ' V'.nx) jF
theorem UM{o:Oper}{a:Act}{w:World}{K:Act->World->Prop}{Q:Exit->Act->World->Prop}(h:o.wp P a w K jF):o.wp P a w K Q:=by
 unfold Oper.wp at *;generalize (execOp a.eval o).run P w=r at *
 cases r with
 | ok n w'=>
  cases n<;>simp only[Oper.upon]at h |-
  case value=>exact h
  case skip=>exact h
  case defer=>exact h
  case enter f args=>
   refine h.mono λe w'' b=>?_
   cases e with
   | returned v=>exact b
   | panicked c=>exact b.elim
   | outgrown=>obtain⟨_,_,h⟩:=b;exact h.elim
  case row=>exact h
 | halt x w'=>
  cases x<;>simp only[Oper.upon]at h |-
  case panic v=>exact h.elim
theorem A1.jM{o:Oper}{f:Env}{σ:Ab}{nx:Nat}{x:E}{K:E->Ab->Nat->Prop}(h:A1 P TB Γ o f σ nx x)(b:K x σ nx):Cr P TB Γ o f σ nx K:=by
 intro V a e d c;refine Oper.wp_mono ?_ (h V a e d c);rintro a' w' ⟨V',v,m,l,k,j,i,g⟩;exact⟨V',v,x,σ,m,l,k,j,g,i▸b⟩
def Bw(ops:Array Oper)(o:Oper)(f:Env):Option Bool:=
 match o.guard with
 | none=>some true
 | some (g,want)=>
  match ((ops[g]?).bind (·.dst)).bind f with
  | some (.o (.d (.v (.bool b))))=>some (b == want)
  | some (.t _)=>some false
  | _=>none
theorem He{V:View}{ops:Array Oper}{o:Oper}{f:Env}{a:Act}{b:Bool}(q:DW V f a.tmps)(c:∀t e,f t=some e->t<a.tmps.size)(h:Bw ops o f=some b) :
 Region.wanted o (yielded ops a.tmps)=b:=by
 unfold Bw at h;unfold Region.wanted;split at h
 ·rename_i hg;simp only[hg];exact Option.some.inj h
 ·rename_i g want hg
  simp only[hg];split at h
  ·rename_i b' hb
   have l:∃t,((ops[g]?).bind (·.dst))=some t/\f t=some (.o (.d (.v (.bool b')))):=by
    cases ht:((ops[g]?).bind (·.dst)) with
    | none=>rw[ht]at hb;cases hb
    | some t=>exact⟨t,rfl,by rw[ht]at hb;exact hb⟩
   obtain⟨t,p,j⟩:=l;have k:=q t _ j;have i:=c t _ j;have r:a.tmps.getD t undef=.bool b':=AF.val k
   have n:a.tmps[t]?=some (.bool b'):=by
    rw[lI i];rw[Array.getD,dif_pos i]at r;exact congrArg some r
   have m:yielded ops a.tmps g=some b':=by
    unfold yielded;rw[p];simp[n]
   rw[m];cases b'<;>cases want<;>simp_all
  ·rename_i xs hb
   have l:∃t,((ops[g]?).bind (·.dst))=some t/\f t=some (.t xs):=by
    cases ht:((ops[g]?).bind (·.dst)) with
    | none=>rw[ht]at hb;cases hb
    | some t=>exact⟨t,rfl,by rw[ht]at hb;exact hb⟩
   obtain⟨t,p,j⟩:=l;obtain⟨vs,k,_⟩:=q t _ j;have i:=c t _ j
   have n:a.tmps[t]?=some (.tuple vs):=by
    rw[lI i];rw[Array.getD,dif_pos i]at k;exact congrArg some k
   have m:yielded ops a.tmps g=none:=by
    unfold yielded;rw[p];simp[n]
   rw[m];exact Option.some.inj h
  ·cases h
end
theorem Ln{f:Env}{d d':Option Tmp}{x y:E}(h:∀t,d=some t->d'≠some t):BO (BO f d x) d' y=BO (BO f d' y) d x:=by
 cases d with
 | none=>rfl
 | some t=>
  cases d' with
  | none=>rfl
  | some t'=>
   have a:t≠t':=λe=>h t rfl (by rw[e]);funext s;simp only[BO];by_cases c:s=t<;>by_cases b:s=t'<;>simp_all
theorem Dl{f:Env}{d:Option Tmp}{x:E}{t:Tmp}(h:d≠some t):BO f d x t=f t:=by
 cases d with
 | none=>rfl
 | some d=>
  have:t≠d:=λe=>h (by rw[e]);simp[BO,this]
section
variable (P:Program)(TB:BA)(Γ:Ctx)(ops:Array Oper)
def U0(n:Bool)(o:Oper)(K:Env->Ab->Nat->Prop)(f:Env)(σ:Ab)(nx:Nat):Prop:=
 (Bw ops o f=some false/\K (BO f o.dst (.t [])) σ nx)\/
 (Bw ops o f=some true/\bif n then Cr P TB Γ o f σ nx (λx σ' nx'=>K (BO f o.dst x) σ' nx') else ∃x,A1 P TB Γ o f σ nx x/\K (BO f o.dst x) σ nx)
def Kept(m:Nat)(σ σ':Ab):Prop:=∀id,Nat.testBit m id=true->look σ' id=look σ id
def ju(c:Nat)(o:Oper)(K:Env->Ab->Nat->Prop)(f:Env)(σ:Ab)(nx:Nat):Prop:=
 (Bw ops o f=some false/\K (BO f o.dst (.t [])) σ nx)\/
 (Bw ops o f=some true/\bif Nat.ble 1000 c then Cr P TB Γ o f σ nx (λx σ' nx'=>Kept (c-1000) σ σ'/\K (BO f o.dst x) σ' nx')
  else ∃x,(∀σ' nx',look σ' (c-10)=look σ (c-10)->A1 P TB Γ o f σ' nx' x)/\K (BO f o.dst x) σ nx)
def Lex : List (Nat×Nat)->(Env->Ab->Nat->Prop)->Env->Ab->Nat->Prop
 | [],K,f,σ,nx=>K f σ nx
 | (i, c)::r,K,f,σ,nx=>∃o,ops[i]?=some o/\
  bif Nat.ble 10 c then ju P TB Γ ops c o (Lex r K) f σ nx else bif Nat.beq c 2 then
   (Bw ops o f=some false/\Lex r K (BO f o.dst (.t [])) σ nx)\/
   (Bw ops o f=some true/\∃x,(∀σ nx,A1 P TB Γ o f σ nx x)/\Lex r K (BO f o.dst x) σ nx)
  else U0 P TB Γ ops (Nat.beq c 1) o (Lex r K) f σ nx
end
def RS(c:Nat):Bool:=Nat.beq c 0 || Nat.beq c 1
def Ev(c:Nat):Bool:=Nat.beq c 1 || Nat.ble 1000 c
def Nt(c cj:Nat):Bool:=Nat.beq c 2 || (!Ev cj || (Nat.ble 10 c && (Nat.ble 1000 cj && Nat.testBit (cj-1000) (c-10))))
section
variable {P:Program}{TB:BA}{Γ:Ctx}{ops:Array Oper}
theorem HR.congr{V:View}{o:Oper}{f f':Env}{a:Act}(h:∀t,.tmp t∈o.op.operands->f t=f' t)(b:HR V o f a):HR V o f' a:=
 λt e ht c=>b t e ht (by rw[h t ht];exact c)
theorem A1.congr{o:Oper}{f f':Env}{σ:Ab}{nx:Nat}{x:E}(h:∀t,.tmp t∈o.op.operands->f t=f' t)(b:A1 P TB Γ o f σ nx x):A1 P TB Γ o f' σ nx x:=
 λV a c=>b V a (c.congr λt ht=>(h t ht).symm)
theorem Cr.congr{o:Oper}{f f':Env}{σ:Ab}{nx:Nat}{K:E->Ab->Nat->Prop}(h:∀t,.tmp t∈o.op.operands->f t=f' t)(b:Cr P TB Γ o f σ nx K):Cr P TB Γ o f' σ nx K:=
 λV a c=>b V a (c.congr λt ht=>(h t ht).symm)
theorem Cr.mono{o:Oper}{f:Env}{σ:Ab}{nx:Nat}{K K':E->Ab->Nat->Prop}(b:Cr P TB Γ o f σ nx K)(h:∀x σ nx,K x σ nx->K' x σ nx):Cr P TB Γ o f σ nx K':=by
 intro V a e d c;refine Oper.wp_mono ?_ (b V a e d c);rintro a' w' ⟨V',v,x,σ',m,l,k,j,i,g⟩;exact⟨V',v,x,σ',m,l,k,j,i,h _ _ _ g⟩
theorem GS{o:Oper}{t:Tmp}(h:.tmp t∈o.op.operands):t∈o.looksAt ops:=
 lP _ (List.mem_filterMap.2 ⟨.tmp t,by simpa using h,rfl⟩)
theorem GO{o:Oper}{f:Env}{d:Option Tmp}{x:E}(h:∀t,d=some t->t∉o.looksAt ops):Bw ops o (BO f d x)=Bw ops o f:=by
 unfold Bw
 cases hg:o.guard with
 | none=>rfl
 | some gw=>
  obtain⟨g,want⟩:=gw
  cases ht:(ops[g]?).bind (·.dst) with
  | none=>simp only[ht];rfl
  | some t=>
   have a:d≠some t:=λe=>h t e (by simp[Oper.looksAt,hg,ht]);simp only[ht,mJ,Dl a]
theorem FH{o:Oper}{f:Env}{d:Option Tmp}{x:E}(h:∀t,d=some t->t∉o.looksAt ops):∀t,.tmp t∈o.op.operands->BO f d x t=f t:=
 λt ht=>Dl λe=>h t e (GS ht)
def waits(ops:Array Oper)(i:Nat):Nat->Nat->Bool
 | 0,_=>false
 | n+1,j=>((ops[j]?).map (·.after.any λe=>Region.binds .any e && (Nat.beq e.on i || waits ops i n e.on))).getD false
def Fw(ops:Array Oper)(listed:Array Bool):Prop:=
 ∀j,listed.getD j false=true->∀o,ops[j]?=some o->∀e∈o.after,Region.binds .any e=true->listed.getD e.on false=true
theorem KR{listed:Array Bool}(c:Fw ops listed){i:Nat}:∀(n j:Nat),waits ops i n j=true->listed.getD j false=true->listed.getD i false=true
 | 0,_,h,_=>by cases h
 | n+1,j,h,e=>by
  unfold waits at h
  cases a:ops[j]? with
  | none=>rw[a]at h;cases h
  | some o=>
   rw[a]at h;simp only[nq,ox]at h;rw[oh]at h;obtain⟨k,hk,h⟩:=h;simp only[d4,lT]at h;have d:=c j e o a _ (pb hk) h.1
   rcases h.2 with b|b
   ·have:=gc b;rw[<-this];exact d
   ·exact KR c n _ b d
theorem MA{listed:Array Bool}(f:Fw ops listed){i:Nat}(hi:listed.getD i false=false){n j:Nat}(h:waits ops i n j=true):j∉Region.ready .any ops listed:=by
 intro d;obtain⟨_,o,e,a⟩:=mem_ready.1 d
 cases n with
 | zero=>cases h
 | succ n=>
  unfold waits at h;rw[e]at h;simp only[nq,ox]at h;rw[oh]at h;obtain⟨k,hk,h⟩:=h;simp only[d4,lT]at h;have c:=a _ (pb hk) h.1
  rcases h.2 with b|b
  ·have:=gc b;rw[this,hi]at c;cases c
  ·have:=KR f n _ b c;rw[hi]at this;cases this
def QW(ops:Array Oper)(i c:Nat)(r:List (Nat×Nat)):Bool:=
 (r.all λ(j,cj)=>waits ops i ops.size j || (!Ev c && (match ops[i]?,ops[j]? with|some x,some y=>x.apart ops y|_,_=>false) && Nt c cj))
def DS(ops:Array Oper):List (Nat×Nat)->Bool
 | []=>true
 | (i,c)::r=>QW ops i c r && DS ops r
def Bk(ops:Array Oper):List (Nat×Nat)->Array Bool->Bool
 | [],listed=>(Region.ready .any ops listed).isEmpty
 | (i,_)::r,listed=>(Region.ready .any ops listed).contains i && Bk ops r (listed.setIfInBounds i true)
end
section
variable {P:Program}{TB:BA}{Γ:Ctx}{ops:Array Oper}
theorem O9(listed:Array Bool)(i:Nat):(listed.setIfInBounds i true).getD i true=true:=by
 by_cases h:i<listed.size
 ·simp[h]
 ·simp[h]
theorem Oj{listed:Array Bool}{j:Nat}(h:j∈Region.ready .any ops listed):listed.getD j true=false:=(mem_ready.1 h).1
theorem Tr{listed:Array Bool}{j:Nat}(h:listed.getD j true=false):listed.getD j false=false:=by
 rcases l5 j listed.size with a|a
 ·simpa[a]using h
 ·simp[Array.getElem?_eq_none a]
theorem Hj{listed:Array Bool}{j:Nat}(h:Fw ops listed)(g:j∈Region.ready .any ops listed):Fw ops (listed.setIfInBounds j true):=by
 intro i hi o d e f hb;by_cases b:j=i
 ·subst b
  obtain⟨_,o',a,c⟩:=mem_ready.1 g;rw[d]at a
  injection a with a
  subst a;exact getD_set_true (c e f hb)
 ·rw[getD_set_ne false b]at hi
  exact getD_set_true (h i hi o d e f hb)
theorem Ku:∀(r:List (Nat×Nat)) (listed:Array Bool),Bk ops r listed=true->∀j,j∈Region.ready .any ops listed->j∈r.map (·.1)
 | [],listed,h,j,b=>by
  simp only[Bk,List.isEmpty_iff]at h;rw[h]at b;cases b
 | (i,c)::r,listed,h,j,b=>by
  simp only[Bk,d4]at h;by_cases a:j=i
  ·subst a;simp
  ·have:=Ku r _ h.2 j (ready_mono b a)
   simp only[mP,lJ];exact .inr this
theorem VP:∀(r:List (Nat×Nat)) (listed:Array Bool),Bk ops r listed=true->∀j,listed.getD j true=true->j∉r.map (·.1)
 | [],_,_,_,_=>by simp
 | (i,c)::r,listed,h,j,b=>by
  simp only[Bk,d4]at h
  have hi:i∈Region.ready .any ops listed:=by simpa using h.1
  have a:i≠j:=λe=>by subst e;rw[Oj hi]at b;cases b
  have:=VP r _ h.2 j (by rw[getD_set_ne true a];exact b);simp only[mP,lJ,not_or];exact⟨λe=>a e.symm,this⟩
theorem Od:∀(f b:List (Nat×Nat)) (j c:Nat) (listed:Array Bool),Bk ops (f++(j,c)::b) listed=true->j∈Region.ready .any ops listed->
 Bk ops (f++b) (listed.setIfInBounds j true)=true
 | [],b,j,c,listed,h,_=>by
  simp only[nV,Bk,d4]at h;exact h.2
 | (i,d)::f,b,j,c,listed,h,g=>by
  simp only[mK,Bk,d4]at h |-
  have hi:i∈Region.ready .any ops listed:=by simpa using h.1
  have a:j≠i:=by
   intro e;subst e;have:=VP _ _ h.2 j (O9 _ _);exact this (by simp)
  refine⟨by simpa using ready_mono hi (Ne.symm a),?_⟩;rw[Array.setIfInBounds_comm _ _ a];exact Od f b j c _ h.2 (ready_mono g a)
theorem Ks:∀(e a:List (Nat×Nat)) (x:Nat×Nat),DS ops (e++x::a)=true->DS ops (e++a)=true
 | [],a,(j,c),h=>by
  simp only[nV,DS,d4]at h;exact h.2
 | (i,d)::e,a,x,h=>by
  simp only[mK,DS,d4]at h |-;refine⟨?_,Ks e a x h.2⟩;have f:=h.1;unfold QW at f |-;rw[ge]at f |-;intro y b;refine f y ?_
  rcases f6.1 b with b|b
  ·exact lP _ b
  ·exact lX _ (lU _ b)
def QC(P:Program)(TB:BA)(Γ:Ctx)(c:Nat)(o:Oper)(x:E)(f:Env)(σ:Ab)(nx:Nat):Prop:=
 bif Nat.ble 10 c then ∀σ' nx',look σ' (c-10)=look σ (c-10)->A1 P TB Γ o f σ' nx' x else bif Nat.beq c 2 then ∀σ nx,A1 P TB Γ o f σ nx x else A1 P TB Γ o f σ nx x
def Yl(P:Program)(TB:BA)(Γ:Ctx)(ops:Array Oper)(c:Nat)(o:Oper)(x:E)(f:Env)(σ:Ab)(nx:Nat):Prop:=
 (Bw ops o f=some false/\x=.t [])\/(Bw ops o f=some true/\QC P TB Γ c o x f σ nx)
theorem QC.congr{c:Nat}{o:Oper}{x:E}{f f':Env}{σ:Ab}{nx:Nat}(h:∀t,.tmp t∈o.op.operands->f t=f' t)(q:QC P TB Γ c o x f σ nx):QC P TB Γ c o x f' σ nx:=by
 unfold QC at q |-;cases b:Nat.ble 10 c
 ·rw[b]at q
  cases a:Nat.beq c 2
  ·rw[a]at q;exact A1.congr h q
  ·rw[a]at q;exact λσ nx=>A1.congr h (q σ nx)
 ·rw[b]at q;exact λσ' nx' hs=>A1.congr h (q σ' nx' hs)
theorem QC.move{c:Nat}{o:Oper}{x:E}{f:Env}{σ σ':Ab}{nx nx':Nat}(q:QC P TB Γ c o x f σ nx)(hs:(Nat.ble 10 c=false/\Nat.beq c 2=true)\/(σ'=σ/\nx'=nx)\/(Nat.ble 10 c=true/\look σ' (c-10)=look σ (c-10))):QC P TB Γ c o x f σ' nx':=by
 rcases hs with ⟨e,d⟩|⟨rfl,rfl⟩|⟨e,d⟩
 ·unfold QC at q |-;rw[e,d]at q |-;exact q
 ·exact q
 ·unfold QC at q |-;rw[e]at q |-;exact λa b g=>q a b (g.trans d)
def GC(P:Program)(TB:BA)(Γ:Ctx)(ops:Array Oper)(c:Nat)(o:Oper)(K:Env->Ab->Nat->Prop)(f:Env)(σ:Ab)(nx:Nat):Prop:=
 bif Nat.ble 10 c then ju P TB Γ ops c o K f σ nx else bif Nat.beq c 2 then
  (Bw ops o f=some false/\K (BO f o.dst (.t [])) σ nx)\/
  (Bw ops o f=some true/\∃x,(∀σ nx,A1 P TB Γ o f σ nx x)/\K (BO f o.dst x) σ nx)
 else U0 P TB Γ ops (Nat.beq c 1) o K f σ nx
theorem DZ{c:Nat}{o:Oper}{K:Env->Ab->Nat->Prop}{f:Env}{σ:Ab}{nx:Nat}(a:Ev c=false) :
 GC P TB Γ ops c o K f σ nx↔∃x,Yl P TB Γ ops c o x f σ nx/\K (BO f o.dst x) σ nx:=by
 unfold Ev at a;rw[Bool.or_eq_false_iff]at a;unfold GC Yl U0 ju QC;rw[a.1,a.2];have key:∀ {q:E->Prop},((Bw ops o f=some false/\K (BO f o.dst (.t [])) σ nx)\/(Bw ops o f=some true/\∃x,q x/\K (BO f o.dst x) σ nx))↔
  ∃x,((Bw ops o f=some false/\x=.t [])\/(Bw ops o f=some true/\q x))/\K (BO f o.dst x) σ nx:=by
  intro q;constructor
  ·rintro(⟨h,k⟩|⟨h,x,q,k⟩)
   ·exact⟨_,.inl ⟨h,rfl⟩,k⟩
   ·exact⟨x,.inr ⟨h,q⟩,k⟩
  ·rintro⟨x,⟨h,rfl⟩|⟨h,q⟩,k⟩
   ·exact .inl ⟨h,k⟩
   ·exact .inr ⟨h,x,q,k⟩
 cases d:Nat.ble 10 c
 ·cases b:Nat.beq c 2
  ·exact key
  ·exact key
 ·exact key
theorem FO{c:Nat}{o:Oper}{K:Env->Ab->Nat->Prop}{f:Env}{σ:Ab}{nx:Nat}(b:Ev c=true) :
 GC P TB Γ ops c o K f σ nx↔(Bw ops o f=some false/\K (BO f o.dst (.t [])) σ nx)\/(Bw ops o f=some true/\Cr P TB Γ o f σ nx (λx σ' nx'=>(Nat.ble 1000 c=true->Kept (c-1000) σ σ')/\K (BO f o.dst x) σ' nx')):=by
 unfold Ev at b;unfold GC U0 ju;cases g:Nat.ble 1000 c
 ·rw [g,Bool.or_false]at b
  have a:=gc b;subst a;constructor
  ·rintro(h|⟨h,q⟩)
   ·exact .inl h
   ·exact .inr ⟨h,Cr.mono q λx σ' nx' k=>⟨λe=>by simp at e,k⟩⟩
  ·rintro(h|⟨h,q⟩)
   ·exact .inl h
   ·exact .inr ⟨h,Cr.mono q λx σ' nx' k=>k.2⟩
 ·have d:Nat.ble 10 c=true:=nN (by have:=ce g;omega)
  rw[d];simp only[cond_true];constructor
  ·rintro(h|⟨h,q⟩)
   ·exact .inl h
   ·exact .inr ⟨h,Cr.mono q λx σ' nx' k=>⟨λ_=>k.1,k.2⟩⟩
  ·rintro(h|⟨h,q⟩)
   ·exact .inl h
   ·exact .inr ⟨h,Cr.mono q λx σ' nx' k=>⟨k.1 trivial,k.2⟩⟩
theorem GC.mono{c:Nat}{o:Oper}{K K':Env->Ab->Nat->Prop}{f:Env}{σ:Ab}{nx:Nat}(hk:∀f σ nx,K f σ nx->K' f σ nx)(h:GC P TB Γ ops c o K f σ nx):GC P TB Γ ops c o K' f σ nx:=by
 cases d:Ev c
 ·rw[DZ d]at h |-
  obtain⟨x,b,a⟩:=h;exact⟨x,b,hk _ _ _ a⟩
 ·rw[FO d]at h |-
  rcases h with ⟨b,a⟩|⟨b,a⟩
  ·exact .inl ⟨b,hk _ _ _ a⟩
  ·exact .inr ⟨b,Cr.mono a λx σ' nx' k=>⟨k.1,hk _ _ _ k.2⟩⟩
theorem Xt{ci cj:Nat}{oi oj:Oper}{x:E}{f:Env}{σ:Ab}{nx:Nat}{K:Env->Ab->Nat->Prop}
 (e:Ev ci=false) (g:oi.apart ops oj=true) (b:Nt ci cj=true) (d:Yl P TB Γ ops ci oi x f σ nx)
 (h:GC P TB Γ ops cj oj K (BO f oi.dst x) σ nx):GC P TB Γ ops cj oj (GC P TB Γ ops ci oi K) f σ nx:=by
 obtain⟨k,l,j⟩:=Oper.apart_spec g;have hg:Bw ops oj (BO f oi.dst x)=Bw ops oj f:=GO k;have ag:∀t,.tmp t∈oj.op.operands->BO f oi.dst x t=f t:=FH k
 have back:∀(y:E) (σ':Ab) (nx':Nat),((Nat.ble 10 ci=false/\Nat.beq ci 2=true)\/(σ'=σ/\nx'=nx)\/(Nat.ble 10 ci=true/\look σ' (ci-10)=look σ (ci-10)))->K (BO (BO f oi.dst x) oj.dst y) σ' nx'->GC P TB Γ ops ci oi K (BO f oj.dst y) σ' nx':=by
  intro y σ' nx' hs hk;rw[DZ e];refine⟨x,?_,by rw[Ln l]at hk;exact hk⟩;unfold Yl at d |-;rw[GO j]
  rcases d with d|⟨d,q⟩
  ·exact .inl d
  ·exact .inr ⟨d,(q.move hs).congr λt ht=>(FH j t ht).symm⟩
 cases c:Ev cj
 ·rw[DZ c]at h |-
  obtain⟨y,a,hk⟩:=h;refine⟨y,?_,back y σ nx (.inr (.inl ⟨rfl,rfl⟩)) hk⟩;unfold Yl at a |-;rw[hg]at a
  rcases a with a|⟨a,q⟩
  ·exact .inl a
  ·exact .inr ⟨a,q.congr ag⟩
 ·rw [FO c]at h |-
  rw[hg]at h
  have hs:∀σ' nx',(Nat.ble 1000 cj=true->Kept (cj-1000) σ σ')->(Nat.ble 10 ci=false/\Nat.beq ci 2=true)\/(σ'=σ/\nx'=nx)\/(Nat.ble 10 ci=true/\look σ' (ci-10)=look σ (ci-10)):=λσ' nx' hk=>by
   unfold Nt at b;rw[c]at b;simp only[Bool.not_true,o8,lT,d4]at b
   rcases b with b|⟨o,n,m⟩
   ·have:=gc b
    subst this;exact .inl ⟨rfl,rfl⟩
   ·exact .inr (.inr ⟨o,hk n _ m⟩)
  rcases h with ⟨i,hk⟩|⟨i,hk⟩
  ·exact .inl ⟨i,back _ σ nx (.inr (.inl ⟨rfl,rfl⟩)) hk⟩
  ·exact .inr ⟨i,(Cr.congr ag hk).mono λy σ' nx' hk=>⟨hk.1,back y σ' nx' (hs σ' nx' hk.1) hk.2⟩⟩
theorem E4(K:Env->Ab->Nat->Prop):∀(r:List (Nat×Nat)) (listed:Array Bool) (f:Env) (σ:Ab) (nx:Nat),Fw ops listed->Bk ops r listed=true->DS ops r=true->
 Lex P TB Γ ops r K f σ nx->∀j,j∈Region.ready .any ops listed->∃k c g o,r=k++(j,c)::g/\ops[j]?=some o/\GC P TB Γ ops c o (Lex P TB Γ ops (k++g) K) f σ nx
 | [],listed,_,_,_,_,q,_,_,j,t=>by have:=Ku _ _ q j t;simp at this
 | (i, ci)::r,listed,f,σ,nx,F,q,hk,h,j,t=>by
  obtain⟨oi,m,h⟩:=h;by_cases n:j=i
  ·subst n
   exact⟨[],ci,r,oi,rfl,m,h⟩
  ·simp only [Bk,d4]at q
   simp only[DS,d4]at hk
   have hi:i∈Region.ready .any ops listed:=by simpa using q.1
   have y:j∈r.map (·.1):=Ku r _ q.2 j (ready_mono t n);obtain⟨⟨j',cj⟩,s,rfl⟩:=d8.1 y;have p:=hk.1;unfold QW at p;rw[ge]at p
   have l:∀c',(j',c')∈r->Ev ci=false/\(∃oj,ops[j']?=some oj/\oi.apart ops oj=true)/\Nt ci c'=true:=by
    intro c' w;have d:=p _ w;simp only[lT,d4]at d
    rcases d with d|⟨⟨Q,v⟩,N⟩
    ·exact absurd t (MA F (Tr (Oj hi)) d)
    ·refine⟨by simpa using Q,?_,N⟩
     rw[m]at v
     cases b:ops[j']? with
     | none=>rw[b]at v;cases v
     | some oj=>rw[b]at v;exact⟨oj,rfl,v⟩
   have u:=(l cj s).1;have G:GC P TB Γ ops ci oi (Lex P TB Γ ops r K) f σ nx:=h;rw[DZ u]at G;obtain⟨x,H,I⟩:=G;obtain⟨k,c,g,oj,B,b,M⟩:=E4 K r (listed.setIfInBounds i true) _ σ nx (Hj F hi) q.2 hk.2 I j' (ready_mono t n);obtain⟨_,⟨oj',a,A⟩,z⟩:=l c (by rw[B];simp);rw[b]at a
   injection a with a
   subst a;refine⟨(i,ci)::k,c,g,oj,by rw[B];rfl,b,?_⟩;have L:=Xt u A z H M;have e:Lex P TB Γ ops ((i,ci)::k++g) K=λf σ nx=>∃o,ops[i]?=some o/\GC P TB Γ ops ci o (Lex P TB Γ ops (k++g) K) f σ nx:=rfl;rw[e]
   have J:∀f σ nx,GC P TB Γ ops ci oi (Lex P TB Γ ops (k++g) K) f σ nx->∃o,ops[i]?=some o/\GC P TB Γ ops ci o (Lex P TB Γ ops (k++g) K) f σ nx:=λf σ nx h=>⟨oi,m,h⟩
   exact GC.mono J L
end
structure BS (TB:BA) (Γ:Ctx) (N:Nat) (V:View) (f:Env) (σ:Ab) (nx:Nat) (a:Act):Prop where
 env:DW V f a.tmps
 lt:∀t e,f t=some e->t<N
 size:a.tmps.size=N
 inv:Inv TB Γ V σ
 nx:V.nx=nx
 defers:a.defers=[]
def Gh(N:Nat)(ops:Array Oper):Bool:=ops.all λo=>match o.dst with|some d=>Nat.blt d N|none=>true
section
variable {P:Program}{TB:BA}{Γ:Ctx}{N:Nat}{ops:Array Oper}
theorem TU(h:Gh N ops=true){i:Nat}{o:Oper}(a:ops[i]?=some o){d:Tmp}(b:o.dst=some d):d<N:=by
 unfold Gh at h;rw[Array.all_eq_true]at h;obtain⟨hi,rfl⟩:=lQ.1 a;have:=h i hi;rw[b]at this;exact ce this
theorem BS.put{V V':View}{f:Env}{σ σ':Ab}{nx nx':Nat}{a:Act}{d:Option Tmp}{x:E}{v:Value}(h:BS TB Γ N V f σ nx a)(g:∀t,d=some t->t<N)
 (e:Ext V V') (hi:Inv TB Γ V' σ') (c:V'.nx=nx') (i:Bd V' x v):BS TB Γ N V' (BO f d x) σ' nx' (a.put d v):=by
 cases d with
 | none=>exact⟨h.env.ext e,h.lt,h.size,hi,c,h.defers⟩
 | some d=>
  refine⟨?_,?_,by simp[Act.put,h.size],hi,c,h.defers⟩
  ·intro t y b
   simp only[BO]at b;by_cases ht:t=d
   ·subst ht
    simp only[if_true]at b
    injection b with b
    subst b
    have:t<a.tmps.size:=by rw[h.size];exact g t rfl
    simpa[Act.put,this]using i
   ·rw[if_neg ht]at b
    have:=(h.env t y b).ext e
    simpa[Act.put,mW (Ne.symm ht)]using this
  ·intro t y b
   simp only[BO]at b;by_cases ht:t=d
   ·subst ht;exact g t rfl
   ·rw[if_neg ht]at b;exact h.lt t y b
theorem LW(V:View):Bd V (.t []) undef:=⟨#[],rfl,rfl,λj x v h=>by simp at h⟩
def UY(TB:BA)(Γ:Ctx)(N:Nat)(K:Env->Ab->Nat->Prop)(Q:Exit->Act->World->Prop):Prop:=
 ∀V f σ a,BS TB Γ N V f σ V.nx a->K f σ V.nx->Q .normal a V.w
theorem Nf{c:Nat}{i:Nat}{o:Oper}(z:ops[i]?=some o)(j:∀t,o.dst=some t->t<N){K:Env->Ab->Nat->Prop}{K':Act->World->Prop}{Q:Exit->Act->World->Prop}
 (k:∀V f σ a,BS TB Γ N V f σ V.nx a->K f σ V.nx->K' a V.w)
 {V:View} {f:Env} {σ:Ab} {nx:Nat} {a:Act} (b:BS TB Γ N V f σ nx a) (h:GC P TB Γ ops c o K f σ nx):wpOp P ops Q i K' a V.w:=by
 have d:∀t e,f t=some e->t<a.tmps.size:=λt e A=>by rw[b.size];exact b.lt t e A
 unfold wpOp;simp only[z]
 have no:Bw ops o f=some false->K (BO f o.dst (.t [])) σ nx->(if Region.wanted o (yielded ops a.tmps) then o.wp P a V.w K' Q\/(o.asks P a V.w/\LetsOut Q) else K' (a.put o.dst undef) V.w):=by
  intro hg hk;rw[He b.env d hg];have g:BS TB Γ N V (BO f o.dst (.t [])) σ V.nx (a.put o.dst undef):=b.put j (Ext.refl _) b.inv rfl (LW V)
  simpa using k _ _ _ _ g (by rw[b.nx];exact hk)
 have yes:Bw ops o f=some true->(∃x,A1 P TB Γ o f σ nx x/\K (BO f o.dst x) σ nx)->(if Region.wanted o (yielded ops a.tmps) then o.wp P a V.w K' Q\/(o.asks P a V.w/\LetsOut Q) else K' (a.put o.dst undef) V.w):=by
  rintro hg ⟨x,y,hk⟩;rw[He b.env d hg];simp only[if_true];refine .inl (UM P (Oper.wp_mono ?_ (y V a (b.env.op o) b.inv b.nx)));rintro a' w' ⟨V',v,rfl,rfl,p,n,m,l⟩;exact k V' _ σ _ (b.put j p n rfl l) (by rw[m];exact hk)
 cases r:Ev c
 ·rw [DZ r]at h
  obtain⟨x,u,hk⟩:=h
  rcases u with ⟨hg,rfl⟩|⟨hg,q⟩
  ·exact no hg hk
  ·refine yes hg ⟨x,?_,hk⟩
   unfold QC at q;cases g:Nat.ble 10 c
   ·rw[g]at q
    cases s:Nat.beq c 2
    ·rw[s]at q;exact q
    ·rw[s]at q;exact q σ nx
   ·rw[g]at q;exact q σ nx rfl
 ·rw [FO r]at h
  rcases h with ⟨hg,hk⟩|⟨hg,hk⟩
  ·exact no hg hk
  ·rw[He b.env d hg]
   simp only[if_true];refine .inl (UM P (Oper.wp_mono ?_ (hk V a (b.env.op o) b.inv b.nx)));rintro a' w' ⟨V',v,x,σ',rfl,rfl,p,n,m,l⟩;exact k V' _ σ' _ (b.put j p n rfl m) l.2
theorem KU(g:Gh N ops=true){K:Env->Ab->Nat->Prop}{Q:Exit->Act->World->Prop}(j:UY TB Γ N K Q):∀(r:List (Nat×Nat)) (V:View) (f:Env) (σ:Ab) (a:Act),
 BS TB Γ N V f σ V.nx a->Lex P TB Γ ops r K f σ V.nx->wpOps P ops Q (r.map (·.1)) a V.w
 | [],V,f,σ,a,d,h=>j V f σ a d h
 | (i,c)::r,V,f,σ,a,d,h=>by
  obtain⟨o,e,h⟩:=h;rw[mP,wpOps_cons];exact Nf e (λt ht=>TU g e ht) (λV' f' σ' a' b hk=>KU g j r V' f' σ' a' b hk) d h
theorem KS(v:Gh N ops=true){K:Env->Ab->Nat->Prop}{Q:Exit->Act->World->Prop}(y:UY TB Γ N K Q):∀(n:Nat) (r:List (Nat×Nat)) (listed:Array Bool) (V:View) (f:Env) (σ:Ab) (a:Act),
 r.length=n->Fw ops listed->Bk ops r listed=true->DS ops r=true->BS TB Γ N V f σ V.nx a->Lex P TB Γ ops r K f σ V.nx->wpAny P .any ops Q n listed a V.w
 | 0,r,listed,V,f,σ,a,g,u,b,hk,p,h=>by
  have:r=[]:=lL.1 g;subst this;refine⟨?_,y V f σ a p h⟩
  simpa[Bk]using b
 | n + 1,r,listed,V,f,σ,a,g,u,b,hk,p,h=>by
  refine⟨λe=>?_,λj s=>?_⟩
  ·cases r with
   | nil=>simp at g
   | cons x r=>
    obtain⟨i,c⟩:=x;simp only[Bk,d4]at b;have:=b.1;rw[e]at this;simp at this
  ·obtain⟨l,c,k,o,rfl,d,z⟩:=E4 K r listed f σ V.nx u b hk h j s
   refine Nf d (λt ht=>TU v d ht) (λV' f' σ' a' m q=>?_) p z;exact KS v y n (l++k) _ V' f' σ' a' (by simp at g |-;omega) (Hj u s) (Od l k j c listed b s) (Ks l k _ hk) m q
def Aj(P:Program)(TB:BA)(Γ:Ctx)(N:Nat)(c:Code)(Q:Exit->Env->Ab->Nat->Prop)(f:Env)(σ:Ab)(nx:Nat):Prop:=
 ∀V a,BS TB Γ N V f σ nx a->c.wp P (λe a' w'=>∃V' f' σ',V'.w=w'/\Q e f' σ' V'.nx/\BS TB Γ N V' f' σ' V'.nx a') a V.w
variable {Q:Exit->Env->Ab->Nat->Prop}{f:Env}{σ:Ab}{nx:Nat}
theorem Aj.skip(h:Q .normal f σ nx):Aj P TB Γ N .skip Q f σ nx:=λV _ a=>wp_skip ⟨V,f,σ,rfl,by rw[a.nx];exact h,by rw[a.nx];exact a⟩
theorem Aj.exit{id:Nat}(h:Q (.exit id) f σ nx):Aj P TB Γ N (.exit id) Q f σ nx:=λV _ a=>wp_exit ⟨V,f,σ,rfl,by rw[a.nx];exact h,by rw[a.nx];exact a⟩
theorem Aj.ret(h:Q .ret f σ nx):Aj P TB Γ N .ret Q f σ nx:=λV _ a=>wp_ret ⟨V,f,σ,rfl,by rw[a.nx];exact h,by rw[a.nx];exact a⟩
def KK(K:Env->Ab->Nat->Prop)(Q:Exit->Env->Ab->Nat->Prop):Exit->Env->Ab->Nat->Prop
 | .normal=>K
 | e=>Q e
theorem Aj.seq{x y:Code}(h:Aj P TB Γ N x (KK (Aj P TB Γ N y Q) Q) f σ nx):Aj P TB Γ N (.seq x y) Q f σ nx:=by
 intro V a d;refine wp_seq (wp_mono (h V a d) ?_);rintro e a' w' ⟨V',f',σ',rfl,c,b⟩
 cases e with
 | normal=>exact c V' a' b
 | exit id=>exact⟨V',f',σ',rfl,c,b⟩
 | goto l=>exact⟨V',f',σ',rfl,c,b⟩
 | ret=>exact⟨V',f',σ',rfl,c,b⟩
 | panic ch=>exact⟨V',f',σ',rfl,c,b⟩
 | outgrown=>exact⟨V',f',σ',rfl,c,b⟩
def jC(id:Nat)(Q:Exit->Env->Ab->Nat->Prop):Exit->Env->Ab->Nat->Prop
 | .exit id'=>bif Nat.beq id' id then Q .normal else Q (.exit id')
 | e=>Q e
theorem Aj.block{id:Nat}{c:Code}(h:Aj P TB Γ N c (jC id Q) f σ nx):Aj P TB Γ N (.block id c) Q f σ nx:=by
 intro V a i;refine wp_block (wp_mono (h V a i) ?_);rintro e a' w' ⟨V',f',σ',rfl,b,g⟩
 cases e with
 | exit id'=>
  simp only[Exit.inBlock];by_cases d:id'=id
  ·subst d
   simp only[jC,oN,cond_true]at b;rw[if_pos rfl];exact⟨V',f',σ',rfl,b,g⟩
  ·have:Nat.beq id' id=false:=by
    cases hb:Nat.beq id' id
    ·rfl
    ·exact absurd (gc hb) d
   simp only[jC,this,cond_false]at b;rw[if_neg d];exact⟨V',f',σ',rfl,b,g⟩
 | normal=>exact⟨V',f',σ',rfl,b,g⟩
 | goto l=>exact⟨V',f',σ',rfl,b,g⟩
 | ret=>exact⟨V',f',σ',rfl,b,g⟩
 | panic ch=>exact⟨V',f',σ',rfl,b,g⟩
 | outgrown=>exact⟨V',f',σ',rfl,b,g⟩
def cE:Value->Option E
 | .slice none 0 0=>some (.o (.d (.l [])))
 | v=>bif OA v then some (.o (.d (.v v))) else none
def ev(f:Env):Operand->Option E
 | .tmp t=>f t
 | .const v=>cE v
 | .global _=>none
 | .func f=>some (.o (.fn f []))
theorem YM{V:View}{v:Value}{e:E}(h:cE v=some e):Bd V e v:=by
 unfold cE at h;split at h
 ·injection h with h;subst h;exact .d .nil
 ·cases hs:OA v
  ·rw[hs]at h;cases h
  ·rw[hs]at h;injection h with h;subst h;exact .d (.v hs)
theorem eK{V:View}{o:Oper}{f:Env}{a:Act}(h:HR V o f a){x:Operand}(d:x∈o.op.operands){e:E}(b:ev f x=some e):Bd V e (a.eval x):=by
 cases x with
 | tmp t=>exact h t e d b
 | const v=>exact YM b
 | global g=>cases b
 | func g=>
  injection b with b;subst b
  exact .fn rfl (λj c v i=>by simp at i)
theorem eJ{V:View}{f:Env}{a:Act}(h:DW V f a.tmps){x:Operand}{e:E}(b:ev f x=some e):Bd V e (a.eval x):=by
 cases x with
 | tmp t=>exact h t e b
 | const v=>exact YM b
 | global g=>cases b
 | func g=>
  injection b with b;subst b
  exact .fn rfl (λj c v d=>by simp at d)
theorem Aj.cond{c:Operand}{x y:Code}{b:Bool}(i:ev f c=some (.o (.d (.v (.bool b)))))(ht:b=true->Aj P TB Γ N x Q f σ nx)(g:b=false->Aj P TB Γ N y Q f σ nx) :
 Aj P TB Γ N (.cond c x y) Q f σ nx:=by
 intro V a e;have j:a.eval c=.bool b:=AF.val (eJ e.env i);exact wp_cond_split j (λh=>ht h V a e) (λh=>g h V a e)
theorem Aj.region{id:Nat}(r:List (Nat×Nat))(d:Gh N ops=true)(c:r.map (·.1)=List.range ops.size)(h:Lex P TB Γ ops r (λf σ nx=>Q .normal f σ nx) f σ nx) :
 Aj P TB Γ N (.region id ops false) Q f σ nx:=by
 intro V a hs;refine wp_region ?_;rw[<-c];have b:=hs.nx;subst b;exact KU d (λV f σ a hs hk=>⟨V,f,σ,rfl,hk,hs⟩) r V f σ a hs h
theorem Mf(ops:Array Oper):Fw ops (Array.replicate ops.size false):=by
 intro j a
 have:(Array.replicate ops.size false).getD j false=false:=by
  rcases l5 j ops.size with h|h
  ·simp[h]
  ·simp[h]
 rw[this]at a;cases a
theorem Inv.drew{V:View}(h:Inv TB Γ V σ):Inv TB Γ { V with w:={ V.w with drawn:=V.w.drawn+1 } } σ/\Ext V { V with w:={ V.w with drawn:=V.w.drawn+1 } } := by
 have e:Ext V { V with w:={ V.w with drawn:=V.w.drawn+1 } } := ⟨λ_ h=>h,λ_ _=>rfl,i9 _,λ_ _=>rfl,λ_ _=>rfl,λ_ _=>Iff.rfl,i9 _⟩
 refine⟨⟨h.os,h.tape,h.output,h.old,h.iLt,h.iNew,h.ext.trans e,⟨λid o d=>?_,h.st.lt,h.st.free,h.st.inj⟩,h.live,h.tabs,h.hid.step (λ_ h=>h) (λ_ _=>rfl) (i9 _) (λ_ _ _ _=>rfl) (λ_ h=>.inl h) (λb hb=>.inl (H0 e h.st.lt hb))⟩,e⟩;have a:=h.st.obj id o d
 cases o with
 | cells T k rows=>
  rcases a with a|⟨u,cur,t,s,q,p,n,m⟩
  ·exact .inl a
  ·exact .inr ⟨u,cur,t,s,q,p,n,λi r j c hi f=>let ⟨v,l,g⟩:=m i r j c hi f;⟨v,l,g.ext e⟩⟩
 | mp=>exact a
 | sld=>exact a
theorem Aj.dg{id:Nat}(r:List (Nat×Nat))(g:P.follows .mixedOrders=true)(i:Gh N ops=true)(e:r.length=ops.size)(c:(Bk ops r (Array.replicate ops.size false) && DS ops r)=true)
 (h:Lex P TB Γ ops r (λf σ nx=>Q .normal f σ nx) f σ nx):Aj P TB Γ N (.region id ops true) Q f σ nx:=by
 intro V a hs;rw[d4]at c;refine wp_region_any g ?_;obtain⟨k,j⟩:=hs.inv.drew
 have b:BS TB Γ N { V with w:={ V.w with drawn:=V.w.drawn+1 } } f σ V.nx a:=⟨hs.env.ext j,hs.lt,hs.size,k,rfl,hs.defers⟩
 have d:=hs.nx;subst d;exact KS i (λV f σ a hs hk=>⟨V,f,σ,rfl,hk,hs⟩) ops.size r _ { V with w:={ V.w with drawn:=V.w.drawn+1 } } f σ a e (Mf ops) c.1 c.2 b h
theorem Aj.loop{α:Type}{c:Code}(S:α->Env×Ab×Nat)(μ:α->Nat)(back:α->Env->Ab->Nat->Prop)
 (g:∀y f σ nx V a,back y f σ nx->BS TB Γ N V f σ nx a->∃V',V'.w=V.w/\BS TB Γ N V' (S y).1 (S y).2.1 (S y).2.2 a)
 (x:α) (u:back x f σ nx) (round:∀x,Aj P TB Γ N c (KK (λf σ nx=>∃y,μ y<μ x/\back y f σ nx) Q) (S x).1 (S x).2.1 (S x).2.2) :
 Aj P TB Γ N (.loop c) Q f σ nx:=by
 intro V a o b k cs;have key:∀n y,μ y=n->∀V a,BS TB Γ N V (S y).1 (S y).2.1 (S y).2.2 a->
  ∃e a' w',(∃V' f' σ',V'.w=w'/\Q e f' σ' V'.nx/\BS TB Γ N V' f' σ' V'.nx a')/\Arrives P (lone (b.at a (.code c::.inLoop c::k)) cs V.w) b k cs e a' w':=by
  intro n
  induction n using Nat.strongRecOn with
  | _ n r=>
   intro y t V a o;obtain⟨e,a₁,w₁,p,d⟩:=round y V a o b (.inLoop c::k) cs;obtain⟨V',f',σ',rfl,i,h⟩:=p
   cases e with
   | normal=>
    obtain⟨z,s,hb⟩:=i;obtain⟨V'',q,j⟩:=g z f' σ' V'.nx V' a₁ hb h;obtain⟨e₂,a₂,w₂,hq₂,harr₂⟩:=r (μ z) (t▸s) z rfl V'' a₁ j;rw[q]at harr₂;exact⟨e₂,a₂,w₂,hq₂,.of_steps (Steps.trans d (.one step_inLoop)) harr₂⟩
   | exit id=>exact⟨_,a₁,_,⟨V',f',σ',rfl,i,h⟩,.pass (x:=.inLoop c) rfl (λ_ _=>.inl (by simp)) d⟩
   | goto l=>exact⟨_,a₁,_,⟨V',f',σ',rfl,i,h⟩,.pass (x:=.inLoop c) rfl (λ_ _=>.inl (by simp)) d⟩
   | ret=>exact⟨_,a₁,_,⟨V',f',σ',rfl,i,h⟩,.pass (x:=.inLoop c) rfl (λ_ _=>.inl (by simp)) d⟩
   | panic ch=>exact⟨_,a₁,_,⟨V',f',σ',rfl,i,h⟩,.pass (x:=.inLoop c) rfl (λ_ _=>.inl (by simp)) d⟩
   | outgrown=>exact⟨_,a₁,_,⟨V',f',σ',rfl,i,h⟩,.pass (x:=.inLoop c) rfl (λ_ _=>.inl (by simp)) d⟩
 obtain⟨V',q,m⟩:=g x f σ nx V a u o;obtain⟨e,a',w',p,d⟩:=key _ x rfl V' a m;rw[q]at d;exact⟨e,a',w',p,.of_steps (.one step_loop) d⟩
end
end Go.Am
namespace Go.Proofs.YtdipaikojjjebaaGreatDoor
open Go
theorem bC:mapsRowed Tryz.prog=true:=by kernel_rfl
theorem gj:(Tryz.prog.stops == [])=true:=by kernel_rfl
theorem gh:(Tryz.prog.stopKnobs == [])=true:=by kernel_rfl
theorem gf:Tryz.prog.stopsHeard=true:=by kernel_rfl
theorem bE:(false == Tryz.prog.plainKeys)=true:=by kernel_rfl
end Go.Proofs.YtdipaikojjjebaaGreatDoor
