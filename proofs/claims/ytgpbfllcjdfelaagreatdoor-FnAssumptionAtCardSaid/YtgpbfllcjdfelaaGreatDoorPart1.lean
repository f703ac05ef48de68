/-
  A machine of pure data over the kit's machine: values without addresses, their reading in a world, the walk of code over them, any order of a region that draws.
-/
import Derived.Still
import Derived.Laws.AppendOwn
import Derived.IntWalk
import Derived.Laws.Cells
import Derived.Laws.Entries
import Derived.Laws.CopyRow
import Derived.Laws.IdiomStrings
import Derived.ChangeKeysEq
import Derived.Test.YtgpbfllcjdfelaaGreatDoorRows
import Derived.JoinedCond
import Derived.KernelRfl
set_option linter.all false
namespace Go.Am
abbrev am:=@Nat.le_of_ble_eq_true
abbrev ce:=@List.getElem?_eq_some_iff
abbrev co:=@List.mem_of_getElem?
abbrev d4:=@Bool.and_eq_true
abbrev d5:=@Function.comp_def
abbrev d6:=@List.getElem?_eq_getElem
abbrev d7:=@Option.map_eq_some_iff
abbrev d8:=@List.mem_map
abbrev d9:=@List.mem_append
abbrev em:=@List.getElem?_append_left
abbrev f6:=@List.take_add_one
abbrev f7:=@List.getElem?_append_right
abbrev f9:=@Int.toNat_natCast
abbrev gc:=@List.all_eq_true
abbrev ge:=@List.take_of_length_le
abbrev gt:=@List.length_map
abbrev i7:=@Nat.eq_of_beq_eq_true
abbrev i8:=@List.getElem?_map
abbrev i9:=@Nat.le_refl
abbrev io:=@List.take_length
abbrev jp:=@Nat.not_lt_zero
abbrev kw:=@Result.andThen_ok
abbrev lc:=@Nat.le_trans
abbrev lm:=@List.nodup_nil
abbrev lw:=@Nat.lt_of_lt_of_le
abbrev ms:=@Nat.zero_add
abbrev mt:=@List.mem_cons
abbrev ol:=@List.getElem?_eq_none
abbrev p6:=@List.getElem_mem
abbrev p7:=@Int.mul_le_mul_of_nonneg_left
abbrev p8:=@Nat.mul_le_mul_right
abbrev p9:=@List.length_cons
abbrev pG:=@List.mem_range
abbrev pH:=@List.pairwise_iff_getElem
abbrev pI:=@Array.getElem?_eq_some_iff
abbrev pJ:=@List.mem_append_left
abbrev pK:=@Bool.or_eq_true
abbrev pL:=@List.mem_of_mem_take
abbrev pM:=@Array.getElem?_append_left
abbrev pN:=@List.mem_cons_of_mem
abbrev pO:=@List.mem_filter
abbrev pP:=@List.getElem?_take
abbrev pQ:=@List.getElem?_drop
abbrev pR:=@List.getElem_of_mem
abbrev pS:=@List.mem_append_right
abbrev pT:=@Nat.lt_or_ge
abbrev pU:=@Nat.mod_eq_of_lt
abbrev pV:=@Nat.add_assoc
abbrev pX:=@List.append_nil
abbrev pY:=@List.length_set
abbrev pZ:=@Nat.add_mul
abbrev pi:=@List.length_eq_zero_iff
abbrev pm:=@Array.getElem?_eq_getElem
abbrev pp:=@Sem.run_bind
abbrev pu:=@Option.bind_eq_some_iff
abbrev q6:=@List.eq_of_mem_replicate
abbrev q7:=@Array.eq_empty_of_size_eq_zero
abbrev q8:=@List.range_succ
abbrev q9:=@List.pairwise_append
abbrev qA:=@List.getElem?_toArray
abbrev qB:=@Array.getElem?_setIfInBounds
abbrev qC:=@List.map_set
abbrev qD:=@Bool.not_false
abbrev qE:=@List.foldl_cons
abbrev qF:=@Array.getElem?_append_right
abbrev qG:=@List.filter_append
abbrev qH:=@List.filter_cons_of_pos
abbrev qI:=@List.cons_append
abbrev qJ:=@List.mem_flatMap
abbrev qK:=@List.drop_of_length_le
abbrev qL:=@List.nodup_append
abbrev qM:=@List.map_congr_left
abbrev qN:=@Int.mul_le_mul_of_nonneg_right
abbrev qO:=@List.mem_of_mem_drop
abbrev qP:=@Nat.testBit_or
abbrev qQ:=@Nat.eq_of_testBit_eq
abbrev qR:=@Nat.le_mul_of_pos_right
abbrev qS:=@List.pairwise_map
abbrev qT:=@Option.map_some
abbrev qU:=@Bool.eq_iff_iff
abbrev qV:=@Nat.testBit_two_pow
abbrev qW:=@Nat.zero_mul
abbrev qX:=@List.length_take
abbrev qY:=@List.length_filter_le
abbrev qZ:=@Array.getElem?_setIfInBounds_ne
abbrev qb:=@Int.mul_le_mul
abbrev qc:=@Bool.true_and
abbrev qd:=@List.pairwise_cons
abbrev qe:=@List.map_append
abbrev qf:=@Int.mul_nonneg
abbrev qg:=@Nat.zero_le
abbrev qh:=@List.getElem?_set_self
abbrev qi:=@List.getElem?_set_ne
abbrev qj:=@Nat.pow_le_pow_right
abbrev qk:=@Nat.eq_zero_or_pos
abbrev ql:=@Int.emod_lt_of_pos
abbrev qm:=@List.drop_zero
abbrev qo:=@List.take_append_drop
abbrev qp:=@List.getD_eq_getElem?_getD
abbrev qq:=@Bool.false_ne_true
abbrev qt:=@List.map_map
abbrev qu:=@Array.getElem?_toList
abbrev qv:=@Bool.not_true
abbrev qw:=@List.length_append
abbrev qx:=@Int.emod_nonneg
abbrev qy:=@List.ext_getElem?
abbrev qz:=@List.map_cons
abbrev r5:=@Nat.ble_eq_true_of_le
abbrev r6:=@Nat.add_zero
abbrev r7:=@List.set_append_right
abbrev r8:=@List.dropLast_concat_getLast
abbrev rA:=@List.map_inj_left
abbrev rB:=@List.drop_eq_getElem_cons
abbrev rC:=@List.getElem?_of_mem
abbrev rF:=@Nat.pow_lt_pow_right
abbrev rH:=@List.getElem?_eq_none_iff
abbrev rI:=@Int.add_mul
abbrev rJ:=@List.mapM_cons
abbrev rK:=@Bool.false_and
abbrev rL:=@Option.bind_some
abbrev rM:=@Nat.lt_succ_self
abbrev rN:=@Int.mul_comm
abbrev rO:=@Array.toList_map
abbrev rP:=@Nat.lt_succ_iff_lt_or_eq
abbrev rQ:=@List.getElem?_range
abbrev rR:=@Int.ediv_ediv_of_nonneg
abbrev rS:=@List.filter_cons_of_neg
abbrev rT:=@Nat.lt_or_gt_of_ne
abbrev rU:=@Bool.false_eq_true
abbrev rV:=@Nat.testBit_and
abbrev rW:=@Sem.run_map
abbrev rX:=@List.flatMap_cons
abbrev rY:=@List.foldl_append
abbrev rZ:=@List.idxOf_append
abbrev rf:=@Nat.lt_succ_of_lt
abbrev rh:=@Bool.not_eq_true'
abbrev rm:=@Nat.or_lt_two_pow
abbrev rn:=@Int.mul_assoc
abbrev ro:=@Option.getD_some
abbrev rr:=@Int.ediv_le_self
abbrev rt:=@List.any_eq_true
abbrev ru:=@Nat.testBit_succ
abbrev rv:=@List.drop_length
abbrev rx:=@List.mem_cons_self
abbrev ry:=@List.find?_eq_none
abbrev rz:=@Int.ediv_nonneg
abbrev s5:=@List.idxOf_cons_self
abbrev s6:=@Bool.or_true
abbrev s7:=@List.length_flatten
abbrev s8:=@Option.bind_eq_bind
abbrev s9:=@List.length_pos_iff
abbrev sB:=@List.getElem?_cons_succ
abbrev sD:=@Array.any_eq_true
abbrev sE:=@List.length_range
abbrev sF:=@Nat.lt_trichotomy
abbrev sG:=@List.append_assoc
abbrev sH:=@List.filter_congr
abbrev sJ:=@Array.getElem?_extract
abbrev sK:=@List.filter_eq_nil_iff
abbrev sL:=@List.prefix_refl
abbrev sO:=@Nat.testBit_eq_decide_div_mod_eq
abbrev sQ:=@List.not_mem_nil
abbrev sR:=@List.length_replicate
abbrev sS:=@List.getElem?_zipWith
abbrev sT:=@List.mem_iff_getElem?
abbrev sU:=@List.eraseIdx_eq_take_drop_succ
abbrev sV:=@List.mk_mem_zipIdx_iff_getElem?
abbrev sW:=@Nat.beq_refl
abbrev sY:=@List.length_nil
abbrev sZ:=@Nat.and_le_left
abbrev se:=@List.filter_cons
abbrev sf:=@Bool.false_or
abbrev sg:=@List.replicate_succ
abbrev sh:=@List.take_succ_cons
abbrev si:=@Int.toNat_of_nonneg
abbrev sj:=@List.nil_append
abbrev sk:=@Array.mapM_eq_mapM_toList
abbrev sq:=@Nat.two_pow_pos
abbrev sr:=@Nat.add_comm
abbrev su:=@Nat.mul_comm
abbrev sv:=@List.idxOf_lt_length_iff
abbrev sw:=@List.mem_singleton
abbrev sx:=@Nat.pow_succ
abbrev tB:=@List.length_drop
abbrev tC:=@Nat.zero_testBit
abbrev tE:=@List.nodup_cons
abbrev tF:=@Nat.zero_lt_one
abbrev tG:=@List.find?_cons
abbrev tH:=@List.any_append
abbrev tJ:=@Int.le_refl
abbrev tK:=@Nat.mul_one
abbrev tc:=@Int.one_mul
abbrev td:=@List.prefix_append
abbrev tf:=@List.map_take
abbrev tg:=@Bool.and_self
abbrev th:=@Array.getElem_mem
abbrev ti:=@List.getElem?_set
abbrev tj:=@List.size_toArray
abbrev tl:=@List.flatten_cons
abbrev tm:=@List.all_eq_false
abbrev tn:=@List.find?_append
abbrev tt:=@Nat.le_of_lt
abbrev tu:=@List.map_toArray
abbrev tw:=@List.map_nil
abbrev tz:=@Nat.sub_zero
open Go
inductive D where
 | v (x:Value)
 | l (rows:List (List D))
 | p (cells:List D)
inductive C where
 | d (x:D)
 | arr (id k off len:Nat)
 | ptr (id k i j:Nat)
 | fn (f:FuncId) (cap:List C)
 | mp (id:Nat)
 | mv (f:FuncId) (recv:List C)
abbrev C.ip(cells:List D):C:=.d (.p cells)
inductive E where
 | o (c:C)
 | a (cs:List C)
 | t (xs:List (Bool×List C))
 | e
def Qq:Value->Bool
 | .bool _|.int ..|.float ..|.complex ..|.string _|.pointer _|.map none|.chan none|.nilFunc|.nilIface|.slice .. => true
 | .func (.func _) ⟨[]⟩ ⟨[]⟩=>true
 | _=>false
structure View where
 I:Nat->Prop
 ρ:Nat->Nat
 cap:Nat->Nat
 nl:Nat->Prop
 nx:Nat
 w:World
inductive Dn (I:Nat->Prop) (w:World):D->Value->Prop
 | v {x:Value}:Qq x=true->Dn I w (.v x) x
 | nil:Dn I w (.l []) (.slice none 0 0)
 | e {a:Addr} {cap:Nat}:cap<=maxLen->Dn I w (.l []) (.slice (some a) 0 cap)
 | l {rows:List (List D)} {b o k cap:Nat} {vs:Nat->Nat->Value}:I b->rows.length<=cap->cap<=maxLen->
  (∀(i:Nat) (r:List D),rows[i]?=some r->r.length=k)->
  (∀(i:Nat) (r:List D) (j:Nat) (d:D),rows[i]?=some r->r[j]?=some d->w.cell? ⟨b,o+i*k+j,none⟩=some (vs i j))->
  (∀(i:Nat) (r:List D) (j:Nat) (d:D),rows[i]?=some r->r[j]?=some d->Dn I w d (vs i j))->
  Dn I w (.l rows) (.slice (some ⟨b,o,none⟩) rows.length cap)
 | p {cells:List D} {b o:Nat} {vs:Nat->Value}:I b->(∀(j:Nat) (d:D),cells[j]?=some d->w.cell? ⟨b,o+j,none⟩=some (vs j))->(∀(j:Nat) (d:D),cells[j]?=some d->Dn I w d (vs j))->
  Dn I w (.p cells) (.pointer (some ⟨b,o,none⟩))
theorem Pk{w w':World}{b:Nat}(h:w'.heap[b]?=w.heap[b]?)(o:Nat):w'.cell? ⟨b,o,none⟩=w.cell? ⟨b,o,none⟩:=by
 simp[World.cell?,h]
theorem Dn.mono{I I':Nat->Prop}{w w':World}{d:D}{v:Value}(hI:∀b,I b->I' b)(g:∀b,I b->w'.heap[b]?=w.heap[b]?)(h:Dn I w d v):Dn I' w' d v:=by
 induction h with
 | v h=>exact .v h
 | nil=>exact .nil
 | e h=>exact .e h
 | @l rows b o k cap vs hb f q n m _ c=>
  exact .l (hI b hb) f q n (λi r j d hi a=>by rw[Pk (g b hb)];exact m i r j d hi a) (λi r j d hi a=>c i r j d hi a)
 | @p cells b o vs hb f _ c=>exact .p (hI b hb) (λj d a=>by rw[Pk (g b hb)];exact f j d a) (λj d a=>c j d a)
inductive AJ (V:View):C->Value->Prop
 | d {x:D} {v:Value}:Dn V.I V.w x v->AJ V (.d x) v
 | nil {id k:Nat}:id<V.nx->V.nl id->AJ V (.arr id k 0 0) (.slice none 0 0)
 | arr {id k off len:Nat}:id<V.nx->¬V.nl id->off+len<=V.cap id->AJ V (.arr id k off len) (.slice (some ⟨V.ρ id,off*k,none⟩) len (V.cap id-off))
 | ptr {id k i j:Nat}:id<V.nx->¬V.nl id->AJ V (.ptr id k i j) (.pointer (some ⟨V.ρ id,i*k+j,none⟩))
 | fn {f:FuncId} {cap:List C} {vs:Array Value}:vs.size=cap.length->(∀(j:Nat) (c:C) (v:Value),cap[j]?=some c->vs[j]?=some v->AJ V c v)->AJ V (.fn f cap) (.func (.func f) #[] vs)
 | mp {id:Nat}:id<V.nx->AJ V (.mp id) (.map (some (V.ρ id)))
 | mv {f:FuncId} {recv:List C} {vs:Array Value}:vs.size=recv.length->(∀(j:Nat) (c:C) (v:Value),recv[j]?=some c->vs[j]?=some v->AJ V c v)->AJ V (.mv f recv) (.func (.func f) vs #[])
theorem AJ.ip{V:View}{cells:List D}{b o:Nat}{vs:Nat->Value}(hb:V.I b)(c:∀(j:Nat) (d:D),cells[j]?=some d->V.w.cell? ⟨b,o+j,none⟩=some (vs j))(a:∀(j:Nat) (d:D),cells[j]?=some d->Dn V.I V.w d (vs j)) :
 AJ V (.ip cells) (.pointer (some ⟨b,o,none⟩)):=.d (.p hb c a)
theorem Dn.val{I:Nat->Prop}{w:World}{x v:Value}(h:Dn I w (.v x) v):v=x:=by cases h;rfl
theorem AJ.val{V:View}{x v:Value}(h:AJ V (.d (.v x)) v):v=x:=by cases h with|d h=>exact h.val
structure Ext (V V':View):Prop where
 i:∀b,V.I b->V'.I b
 heap:∀b,V.I b->V'.w.heap[b]?=V.w.heap[b]?
 size:V.w.heap.size<=V'.w.heap.size
 ρ:∀id,id<V.nx->V'.ρ id=V.ρ id
 cap:∀id,id<V.nx->V'.cap id=V.cap id
 nl:∀id,id<V.nx->(V'.nl id↔V.nl id)
 nx:V.nx<=V'.nx
theorem Ext.refl(V:View):Ext V V:=⟨λ_ h=>h,λ_ _=>rfl,i9 _,λ_ _=>rfl,λ_ _=>rfl,λ_ _=>Iff.rfl,i9 _⟩
theorem Ext.trans{A B C:View}(h:Ext A B)(k:Ext B C):Ext A C:=
 ⟨λb hb=>k.i b (h.i b hb),λb hb=>(k.heap b (h.i b hb)).trans (h.heap b hb),lc h.size k.size,
  λi hi=>(k.ρ i (lw hi h.nx)).trans (h.ρ i hi),λi hi=>(k.cap i (lw hi h.nx)).trans (h.cap i hi),λi hi=>(k.nl i (lw hi h.nx)).trans (h.nl i hi),lc h.nx k.nx⟩
theorem Dn.ext{V V':View}{d:D}{v:Value}(e:Ext V V')(h:Dn V.I V.w d v):Dn V'.I V'.w d v:=h.mono e.i e.heap
theorem AJ.ext{V V':View}{c:C}{v:Value}(e:Ext V V')(h:AJ V c v):AJ V' c v:=by
 induction h with
 | d h=>exact .d (h.ext e)
 | @nil id k a f=>exact .nil (lw a e.nx) ((e.nl id a).2 f)
 | @arr id k off len a g f=>rw[<-e.ρ id a,<-e.cap id a];exact .arr (lw a e.nx) (λh=>g ((e.nl id a).1 h)) (by rw[e.cap id a];exact f)
 | @ptr id k i j a g=>rw[<-e.ρ id a];exact .ptr (lw a e.nx) (λh=>g ((e.nl id a).1 h))
 | fn a _ b=>exact .fn a b
 | @mp id a=>rw[<-e.ρ id a];exact .mp (lw a e.nx)
 | mv a _ b=>exact .mv a b
def Dk(V:View)(cs:List C)(vs:Array Value):Prop:=vs.size=cs.length/\∀(j:Nat) c v,cs[j]?=some c->vs[j]?=some v->AJ V c v
theorem Dk.ext{V V':View}{cs:List C}{vs:Array Value}(e:Ext V V')(h:Dk V cs vs):Dk V' cs vs:=⟨h.1,λj c v a b=>(h.2 j c v a b).ext e⟩
def MX(V:View):Bool×List C->Value->Prop
 | (true,cs),v=>∃vs,v=.agg vs/\Dk V cs vs
 | (false,cs),v=>∃c,cs=[c]/\AJ V c v
theorem MX.ext{V V':View}{x:Bool×List C}{v:Value}(e:Ext V V')(h:MX V x v):MX V' x v:=by
 obtain⟨b,cs⟩:=x;cases b
 ·obtain⟨c,d,a⟩:=h;exact⟨c,d,a.ext e⟩
 ·obtain⟨vs,d,a⟩:=h;exact⟨vs,d,a.ext e⟩
def Br(V:View):E->Value->Prop
 | .o c,v=>AJ V c v
 | .a cs,v=>∃vs,v=.agg vs/\Dk V cs vs
 | .t xs,v=>∃vs:Array Value,v=.tuple vs/\vs.size=xs.length/\∀(j:Nat) x v,xs[j]?=some x->vs[j]?=some v->MX V x v
 | .e,v=>∃b,v=.slice b 0 0
theorem Br.ext{V V':View}{x:E}{v:Value}(e:Ext V V')(h:Br V x v):Br V' x v:=by
 cases x with
 | o c=>exact AJ.ext e h
 | a cs=>obtain⟨vs,f,d⟩:=h;exact⟨vs,f,d.ext e⟩
 | t xs=>obtain⟨vs,f,d,g⟩:=h;exact⟨vs,f,d,λj x v a b=>(g j x v a b).ext e⟩
 | e=>exact h
inductive O where
 | cells (T k:Nat) (rows:List (List C))
 | mp (es:List (Value×Value))
 | sld (T:Nat) (l:List (Value×List Value))
abbrev Ab:=List (Nat×O)
def look{α:Type}:List (Nat×α)->Nat->Option α
 | [],_=>none
 | (k,x)::r,i=>bif Nat.beq k i then some x else look r i
theorem AD{α:Type}(k:Nat)(x:α)(r:List (Nat×α))(i:Nat):look ((k,x)::r) i=if k=i then some x else look r i:=by
 simp only[look];by_cases h:k=i
 ·subst h;simp
 ·have:Nat.beq k i=false:=by
   cases hb:Nat.beq k i
   ·rfl
   ·exact absurd (i7 hb) h
  simp[this,h]
def KO(v:Value)(b:Nat):Prop:=∃o n c,v=.slice (some ⟨b,o,none⟩) n c
def E9(V:View)(id:Nat):O->Nat->Prop
 | .cells ..,b=>b=V.ρ id
 | .mp _,b=>b=V.ρ id
 | .sld _ l,b=>∃x∈l,KO x.1 b
def Ly(w:World)(T:Nat)(v:Value)(row:List Value):Prop:=(v=.slice none 0 0/\row=[])\/
 ∃b cap cur,v=.slice (some ⟨b,0,none⟩) row.length cap/\w.heap[b]?=some (.cells cur T (0,0))/\cur.size=cap/\row.length<=cap/\cap<=maxLen/\∀(j:Nat) (x:Value),row[j]?=some x->cur[j]?=some x/\Qq x=true
def gk(w:World)(T:Nat)(l:List (Value×List Value)):Prop:=l.Pairwise (λx y=>∀b,KO x.1 b->¬KO y.1 b)/\∀x∈l,Ly w T x.1 x.2
theorem Ly.AO{w w':World}{T:Nat}{v:Value}{row:List Value}(a:∀b,KO v b->w'.heap[b]?=w.heap[b]?)(h:Ly w T v row):Ly w' T v row:=by
 rcases h with h|⟨b,cap,cur,rfl,d,c⟩
 ·exact .inl h
 ·exact .inr ⟨b,cap,cur,rfl,by rw[a b ⟨_,_,_,rfl⟩];exact d,c⟩
theorem Ly.blt{w:World}{T:Nat}{v:Value}{row:List Value}(h:Ly w T v row){b:Nat}(hb:KO v b):b<w.heap.size:=by
 obtain⟨o,n,c,hb⟩:=hb
 rcases h with ⟨h,_⟩|⟨b',cap,cur,rfl,a,_⟩
 ·rw[h]at hb;cases hb
 ·injection hb with hb;injection hb with hb;injection hb with hb;subst hb;exact(pI.1 a).1
theorem gk.AO{w w':World}{T:Nat}{l:List (Value×List Value)}(c:∀x∈l,∀b,KO x.1 b->w'.heap[b]?=w.heap[b]?)(h:gk w T l):gk w' T l:=
 ⟨h.1,λx a=>(h.2 x a).AO (c x a)⟩
def CJ(V:View)(id:Nat):O->Prop
 | .cells T k rows=>(V.nl id/\rows=[])\/¬V.nl id/\∃cur,V.w.heap[V.ρ id]?=some (.cells cur T (0,0))/\cur.size=V.cap id*k/\rows.length<=V.cap id/\V.cap id<=maxLen/\(∀r∈rows,r.length=k)/\
  ∀i r j c,rows[i]?=some r->r[j]?=some c->∃v,cur[i*k+j]?=some v/\AJ V c v
 | .mp es=>¬V.nl id/\∃ents clock,V.w.heap[V.ρ id]?=some (.map ents clock)/\ents.toList.map (λe=>(e.key,e.val))=es
 | .sld T l=>¬V.nl id/\gk V.w T l
theorem AG{V V':View}(e:Ext V V'){id:Nat}(a:id<V.nx){o:O}{b:Nat}:E9 V' id o b↔E9 V id o b:=by
 cases o<;>simp[E9,e.ρ id a]
structure HQ (V:View) (σ:Ab):Prop where
 obj:∀id o,look σ id=some o->CJ V id o
 lt:∀id o,look σ id=some o->id<V.nx
 free:∀id o,look σ id=some o->¬V.nl id->∀b,E9 V id o b->¬V.I b
 inj:∀id id' o o',look σ id=some o->look σ id'=some o'->id≠id'->¬V.nl id->¬V.nl id'->∀b,E9 V id o b->¬E9 V id' o' b
structure Uu where
 B:Nat->Prop
 J:Nat->Prop
structure Ctx where
 V:View
 F:Nat->Prop
 J:Nat->Prop
def DS(V:View)(σ:Ab)(b:Nat):Prop:=∃id o,look σ id=some o/\¬V.nl id/\E9 V id o b
theorem CJ.AO{V V':View}(e:Ext V V'){id:Nat}(a:id<V.nx){o:O}(hb:¬V.nl id->∀b,E9 V id o b->V'.w.heap[b]?=V.w.heap[b]?)(h:CJ V id o):CJ V' id o:=by
 cases o with
 | cells T k rows=>
  replace hb:=λg=>hb g _ (show E9 V id (.cells T k rows) (V.ρ id) from rfl)
  rcases h with ⟨n,d⟩|⟨f,cur,d,B,A,z,y,u⟩
  ·exact .inl ⟨(e.nl id a).2 n,d⟩
  ·refine .inr ⟨λh=>f ((e.nl id a).1 h),cur,by rw[e.ρ id a,hb f];exact d,by rw[e.cap id a];exact B,by rw[e.cap id a];exact A,by rw[e.cap id a];exact z,y,λi r j c hi q=>?_⟩
   obtain⟨v,t,s⟩:=u i r j c hi q;exact⟨v,t,s.ext e⟩
 | mp es=>
  replace hb:=λg=>hb g _ (show E9 V id (.mp es) (V.ρ id) from rfl);obtain⟨f,ents,clock,n,d⟩:=h;exact⟨λh=>f ((e.nl id a).1 h),ents,clock,by rw[e.ρ id a,hb f];exact n,d⟩
 | sld T l=>exact⟨λF=>h.1 ((e.nl id a).1 F),h.2.AO λx p b m=>hb h.1 b ⟨x,p,m⟩⟩
theorem CJ.blt{V:View}{id:Nat}{o:O}(h:CJ V id o)(d:¬V.nl id){b:Nat}(hb:E9 V id o b):b<V.w.heap.size:=by
 cases o with
 | sld T l=>obtain⟨x,c,hb⟩:=hb;exact(h.2.2 x c).blt hb
 | cells T k rows=>
  subst hb
  rcases h with ⟨a,_⟩|⟨_,cur,e,_⟩
  ·exact absurd a d
  ·exact(pI.1 e).1
 | mp=>
  subst hb;obtain⟨_,ents,clock,a,_⟩:=h;exact(pI.1 a).1
theorem Jv{V V':View}(e:Ext V V'){σ:Ab}(a:∀id o,look σ id=some o->id<V.nx){b:Nat}(h:DS V' σ b):DS V σ b:=by
 obtain⟨id,o,d,i,g⟩:=h;have c:=a id o d;exact⟨id,o,d,λf=>i ((e.nl id c).2 f),(AG e c).1 g⟩
structure Hid where
 S:Type
 st:S->Ab
 nx:Nat
structure BR where
 tabs:List (Nat×Obj)
 hid:Option (Hid×Nat)
instance:Membership (Nat×Obj) BR:=⟨λa x=>x∈a.tabs⟩
def SP(TB:BR)(S:Uu)(w:World):Prop:=match TB.hid with
 | none=>∀b,¬S.B b
 | some (H,r)=>∃(s:H.S) (V:View),V.I=S.J/\V.w=w/\V.nx=H.nx/\HQ V (H.st s)/\(0<V.nx/\V.ρ 0=r/\¬V.nl 0/\∀x∈TB,V.I x.1)/\∀b,S.B b↔DS V (H.st s) b
theorem SP.blt{TB:BR}{S:Uu}{w:World}(h:SP TB S w){b:Nat}(hb:S.B b):b<w.heap.size:=by
 unfold SP at h;split at h
 ·exact absurd hb (h b)
 ·obtain⟨s,V,k,d,j,c,i,a⟩:=h
  obtain⟨id,o,g,f,e⟩:=(a b).1 hb;rw[<-d];exact(c.obj id o g).blt f e
theorem SP.AO{TB:BR}{S:Uu}{w w':World}(h:SP TB S w)(t:∀b,S.J b->w'.heap[b]?=w.heap[b]?)(u:w.heap.size<=w'.heap.size)(v:∀b,S.B b->w'.heap[b]?=w.heap[b]?):SP TB S w':=by
 unfold SP at *;split at h
 ·exact h
 ·obtain⟨s,V,r,q,y,d,x,p⟩:=h
  have e:Ext V { V with w:=w' } := by
   subst q;exact⟨λ_ h=>h,λb hb=>t b (by rw[<-r];exact hb),u,λ_ _=>rfl,λ_ _=>rfl,λ_ _=>Iff.rfl,i9 _⟩
  have bw:∀ {i o b},E9 { V with w:=w' } i o b↔E9 V i o b:=λ{i o b} => by cases o<;>exact Iff.rfl
  refine⟨s,{ V with w:=w' },r,rfl,y,⟨λid o a=>?_,d.lt,λid o a c b hb=>d.free id o a c b (bw.1 hb),λid id' o o' a f g c j b hb k=>d.inj id id' o o' a f g c j b (bw.1 hb) (bw.1 k)⟩,x,λb=>?_⟩
  ·exact(d.obj id o a).AO e (d.lt id o a) λc b hb=>by
    have:=v b ((p b).2 ⟨id,o,a,c,hb⟩);rw[q];exact this
  ·rw[p b]
   exact⟨λ⟨id,o,n,m,l⟩=>⟨id,o,n,m,bw.2 l⟩,λ⟨id,o,n,m,l⟩=>⟨id,o,n,m,bw.1 l⟩⟩
structure Ov (TB:BR) (V:View) (σ:Ab) (S:Uu):Prop where
 r:SP TB S V.w
 ji:∀b,S.J b->V.I b
 bi:∀b,S.B b->¬V.I b
 ap:∀b,DS V σ b->¬S.B b
def WO(TB:BR)(Z:Ctx)(V:View)(σ:Ab):Prop:=∃S,Ov TB V σ S/\(∀b,S.J b->Z.J b\/Z.V.w.heap.size<=b\/Z.F b)/\∀b,S.B b->Z.V.w.heap.size<=b\/Z.F b
theorem Ov.step{TB:BR}{S:Uu}{V V':View}{σ σ':Ab}(h:Ov TB V σ S)(hI:∀b,V.I b->V'.I b)(d:∀b,V.I b->V'.w.heap[b]?=V.w.heap[b]?)(f:V.w.heap.size<=V'.w.heap.size)
 (e:∀b,b<V.w.heap.size->¬V.I b->¬DS V σ b->V'.w.heap[b]?=V.w.heap[b]?) (i:∀b,V'.I b->V.I b\/DS V σ b\/V.w.heap.size<=b) (j:∀b,DS V' σ' b->DS V σ b\/V.w.heap.size<=b):Ov TB V' σ' S:=by
 have g:∀b,S.B b->¬DS V σ b:=λb hb c=>h.ap b c hb;refine⟨h.r.AO (λb hb=>d b (h.ji b hb)) f (λb hb=>e b (h.r.blt hb) (h.bi b hb) (g b hb)),λb hb=>hI b (h.ji b hb),λb hb hi=>?_,λb c hb=>?_⟩
 ·rcases i b hi with a|a|a
  ·exact h.bi b hb a
  ·exact h.ap b a hb
  ·have:=h.r.blt hb;omega
 ·rcases j b c with a|a
  ·exact h.ap b a hb
  ·have:=h.r.blt hb;omega
theorem WO.step{TB:BR}{Z:Ctx}{V V':View}{σ σ':Ab}(h:WO TB Z V σ)(hI:∀b,V.I b->V'.I b)(a:∀b,V.I b->V'.w.heap[b]?=V.w.heap[b]?)(d:V.w.heap.size<=V'.w.heap.size)
 (c:∀b,b<V.w.heap.size->¬V.I b->¬DS V σ b->V'.w.heap[b]?=V.w.heap[b]?) (e:∀b,V'.I b->V.I b\/DS V σ b\/V.w.heap.size<=b) (f:∀b,DS V' σ' b->DS V σ b\/V.w.heap.size<=b):WO TB Z V' σ':=by
 obtain⟨S,i,g⟩:=h;exact⟨S,i.step hI a d c e f,g⟩
theorem WO.same{TB:BR}{Z:Ctx}{V V':View}{σ σ':Ab}(h:WO TB Z V σ)(a:V'.w=V.w)(hI:∀b,V.I b->V'.I b)(c:∀b,V'.I b->V.I b\/DS V σ b)(d:∀b,DS V' σ' b->DS V σ b):WO TB Z V' σ':=
 h.step hI (λb _=>by rw[a]) (by rw[a];exact i9 _) (λb _ _ _=>by rw[a]) (λb hb=>(c b hb).elim .inl λh=>.inr (.inl h)) (λb hb=>.inl (d b hb))
structure Inv (TB:BR) (Z:Ctx) (V:View) (σ:Ab):Prop where
 os:V.w.os=Z.V.w.os
 tape:V.w.tape=Z.V.w.tape
 output:V.w.output=Z.V.w.output
 old:∀b,b<Z.V.w.heap.size->¬Z.F b->V.w.heap[b]?=Z.V.w.heap[b]?
 iLt:∀b,V.I b->b<V.w.heap.size
 iNew:∀b,V.I b->Z.V.I b\/Z.V.w.heap.size<=b\/Z.F b
 ext:Ext Z.V V
 st:HQ V σ
 live:∀id o,look σ id=some o->¬V.nl id->∀b,E9 V id o b->Z.V.w.heap.size<=b\/Z.F b
 tabs:∀x∈TB,V.I x.1/\V.w.heap[x.1]?=some x.2
 hid:WO TB Z V σ
abbrev Env:=Nat->Option E
def BY(f:Env)(d:Option Tmp)(x:E):Env:=match d with
 | some d=>λt=>if t=d then some x else f t
 | none=>f
def Ew(V:View)(f:Env)(tmps:Array Value):Prop:=∀t e,f t=some e->Br V e (tmps.getD t undef)
def Jl(V:View)(o:Oper)(f:Env)(a:Act):Prop:=∀t e,.tmp t∈o.op.operands->f t=some e->Br V e (a.tmps.getD t undef)
theorem Ew.op{V:View}{f:Env}{a:Act}(h:Ew V f a.tmps)(o:Oper):Jl V o f a:=λt e _ b=>h t e b
theorem Ew.ext{V V':View}{f:Env}{tmps:Array Value}(e:Ext V V')(h:Ew V f tmps):Ew V' f tmps:=λt x a=>(h t x a).ext e
def nD:Exit->Act->World->Prop:=λ_ _ _=>False
section
variable (P:Program)(TB:BR)(Z:Ctx)
def A9(o:Oper)(f:Env)(σ:Ab)(nx:Nat)(x:E):Prop:=
 ∀V a,Jl V o f a->Inv TB Z V σ->V.nx=nx->o.wp P a V.w (λa' w'=>∃V' v,V'.w=w'/\a'=a.put o.dst v/\Ext V V'/\Inv TB Z V' σ/\V'.nx=nx/\Br V' x v) nD
def CY(o:Oper)(f:Env)(σ:Ab)(nx:Nat)(K:E->Ab->Nat->Prop):Prop:=
 ∀V a,Jl V o f a->Inv TB Z V σ->V.nx=nx->o.wp P a V.w (λa' w'=>∃V' v x σ',V'.w=w'/\a'=a.put o.dst v/\Ext V V'/\Inv TB Z V' σ'/\Br V' x v/\K x σ' V'.nx) nD
theorem Yw{o:Oper}{a:Act}{w:World}{K:Act->World->Prop}{Q:Exit->Act->World->Prop}(h:o.wp P a w K nD):o.wp P a w K Q:=by
 unfold Oper.wp at *;generalize (execOp a.eval o).run P w=r at *
 cases r with
 | ok n w'=>
  cases n<;>simp only[Oper.upon]at h |-
  case value=>exact h
  case skip=>exact h
  case defer=>exact h
  case enter f args=>
   refine h.mono λe w'' b=>?_
   cases e with
   | returned v=>exact b
   | panicked c=>exact b.elim
   | outgrown=>obtain⟨_,_,h⟩:=b;exact h.elim
  case row=>exact h
 | halt x w'=>
  cases x<;>simp only[Oper.upon]at h |-
  case panic v=>exact h.elim
theorem A9.nL{o:Oper}{f:Env}{σ:Ab}{nx:Nat}{x:E}{K:E->Ab->Nat->Prop}(h:A9 P TB Z o f σ nx x)(b:K x σ nx):CY P TB Z o f σ nx K:=by
 intro V a e d c;refine Oper.wp_mono ?_ (h V a e d c);rintro a' w' ⟨V',v,m,l,k,j,i,g⟩;exact⟨V',v,x,σ,m,l,k,j,g,i▸b⟩
def BG(ops:Array Oper)(o:Oper)(f:Env):Option Bool:=
 match o.guard with
 | none=>some true
 | some (g,want)=>
  match ((ops[g]?).bind (·.dst)).bind f with
  | some (.o (.d (.v (.bool b))))=>some (b == want)
  | some (.t _)=>some false
  | _=>none
theorem It{V:View}{ops:Array Oper}{o:Oper}{f:Env}{a:Act}{b:Bool}(r:Ew V f a.tmps)(c:∀t e,f t=some e->t<a.tmps.size)(h:BG ops o f=some b) :
 Region.wanted o (yielded ops a.tmps)=b:=by
 unfold BG at h;unfold Region.wanted;split at h
 ·rename_i m;simp only[m];exact Option.some.inj h
 ·rename_i g want m
  simp only[m];split at h
  ·rename_i b' hb
   have l:∃t,((ops[g]?).bind (·.dst))=some t/\f t=some (.o (.d (.v (.bool b')))):=by
    cases ht:((ops[g]?).bind (·.dst)) with
    | none=>rw[ht]at hb;cases hb
    | some t=>exact⟨t,rfl,by rw[ht]at hb;exact hb⟩
   obtain⟨t,q,j⟩:=l;have k:=r t _ j;have i:=c t _ j;have s:a.tmps.getD t undef=.bool b':=AJ.val k
   have p:a.tmps[t]?=some (.bool b'):=by
    rw[pm i];rw[Array.getD,dif_pos i]at s;exact congrArg some s
   have n:yielded ops a.tmps g=some b':=by
    unfold yielded;rw[q];simp[p]
   rw[n];cases b'<;>cases want<;>simp_all
  ·rename_i xs hb
   have l:∃t,((ops[g]?).bind (·.dst))=some t/\f t=some (.t xs):=by
    cases ht:((ops[g]?).bind (·.dst)) with
    | none=>rw[ht]at hb;cases hb
    | some t=>exact⟨t,rfl,by rw[ht]at hb;exact hb⟩
   obtain⟨t,q,j⟩:=l;obtain⟨vs,k,_⟩:=r t _ j;have i:=c t _ j
   have p:a.tmps[t]?=some (.tuple vs):=by
    rw[pm i];rw[Array.getD,dif_pos i]at k;exact congrArg some k
   have n:yielded ops a.tmps g=none:=by
    unfold yielded;rw[q];simp[p]
   rw[n];exact Option.some.inj h
  ·cases h
end
theorem Nn{f:Env}{d d':Option Tmp}{x y:E}(h:∀t,d=some t->d'≠some t):BY (BY f d x) d' y=BY (BY f d' y) d x:=by
 cases d with
 | none=>rfl
 | some t=>
  cases d' with
  | none=>rfl
  | some t'=>
   have a:t≠t':=λe=>h t rfl (by rw[e]);funext s;simp only[BY];by_cases c:s=t<;>by_cases b:s=t'<;>simp_all
theorem DM{f:Env}{d:Option Tmp}{x:E}{t:Tmp}(h:d≠some t):BY f d x t=f t:=by
 cases d with
 | none=>rfl
 | some d=>
  have:t≠d:=λe=>h (by rw[e]);simp[BY,this]
section
variable (P:Program)(TB:BR)(Z:Ctx)(ops:Array Oper)
def YL(n:Bool)(o:Oper)(K:Env->Ab->Nat->Prop)(f:Env)(σ:Ab)(nx:Nat):Prop:=
 (BG ops o f=some false/\K (BY f o.dst (.t [])) σ nx)\/
 (BG ops o f=some true/\bif n then CY P TB Z o f σ nx (λx σ' nx'=>K (BY f o.dst x) σ' nx') else ∃x,A9 P TB Z o f σ nx x/\K (BY f o.dst x) σ nx)
def Kept(m:Nat)(σ σ':Ab):Prop:=∀id,Nat.testBit m id=true->look σ' id=look σ id
def nu(c:Nat)(o:Oper)(K:Env->Ab->Nat->Prop)(f:Env)(σ:Ab)(nx:Nat):Prop:=
 (BG ops o f=some false/\K (BY f o.dst (.t [])) σ nx)\/
 (BG ops o f=some true/\bif Nat.ble 1000 c then CY P TB Z o f σ nx (λx σ' nx'=>Kept (c-1000) σ σ'/\K (BY f o.dst x) σ' nx')
  else ∃x,(∀σ' nx',look σ' (c-10)=look σ (c-10)->A9 P TB Z o f σ' nx' x)/\K (BY f o.dst x) σ nx)
def Lex : List (Nat×Nat)->(Env->Ab->Nat->Prop)->Env->Ab->Nat->Prop
 | [],K,f,σ,nx=>K f σ nx
 | (i, c)::r,K,f,σ,nx=>∃o,ops[i]?=some o/\
  bif Nat.ble 10 c then nu P TB Z ops c o (Lex r K) f σ nx else bif Nat.beq c 2 then
   (BG ops o f=some false/\Lex r K (BY f o.dst (.t [])) σ nx)\/
   (BG ops o f=some true/\∃x,(∀σ nx,A9 P TB Z o f σ nx x)/\Lex r K (BY f o.dst x) σ nx)
  else YL P TB Z ops (Nat.beq c 1) o (Lex r K) f σ nx
end
def SY(c:Nat):Bool:=Nat.beq c 0 || Nat.beq c 1
def Fe(c:Nat):Bool:=Nat.beq c 1 || Nat.ble 1000 c
def Pr(c cj:Nat):Bool:=Nat.beq c 2 || (!Fe cj || (Nat.ble 10 c && (Nat.ble 1000 cj && Nat.testBit (cj-1000) (c-10))))
section
variable {P:Program}{TB:BR}{Z:Ctx}{ops:Array Oper}
theorem Jl.congr{V:View}{o:Oper}{f f':Env}{a:Act}(h:∀t,.tmp t∈o.op.operands->f t=f' t)(b:Jl V o f a):Jl V o f' a:=
 λt e ht c=>b t e ht (by rw[h t ht];exact c)
theorem A9.congr{o:Oper}{f f':Env}{σ:Ab}{nx:Nat}{x:E}(h:∀t,.tmp t∈o.op.operands->f t=f' t)(b:A9 P TB Z o f σ nx x):A9 P TB Z o f' σ nx x:=
 λV a c=>b V a (c.congr λt ht=>(h t ht).symm)
theorem CY.congr{o:Oper}{f f':Env}{σ:Ab}{nx:Nat}{K:E->Ab->Nat->Prop}(h:∀t,.tmp t∈o.op.operands->f t=f' t)(b:CY P TB Z o f σ nx K):CY P TB Z o f' σ nx K:=
 λV a c=>b V a (c.congr λt ht=>(h t ht).symm)
theorem CY.mono{o:Oper}{f:Env}{σ:Ab}{nx:Nat}{K K':E->Ab->Nat->Prop}(b:CY P TB Z o f σ nx K)(h:∀x σ nx,K x σ nx->K' x σ nx):CY P TB Z o f σ nx K':=by
 intro V a e d c;refine Oper.wp_mono ?_ (b V a e d c);rintro a' w' ⟨V',v,x,σ',m,l,k,j,i,g⟩;exact⟨V',v,x,σ',m,l,k,j,i,h _ _ _ g⟩
theorem Ig{o:Oper}{t:Tmp}(h:.tmp t∈o.op.operands):t∈o.looksAt ops:=
 pJ _ (List.mem_filterMap.2 ⟨.tmp t,by simpa using h,rfl⟩)
theorem HZ{o:Oper}{f:Env}{d:Option Tmp}{x:E}(h:∀t,d=some t->t∉o.looksAt ops):BG ops o (BY f d x)=BG ops o f:=by
 unfold BG
 cases b:o.guard with
 | none=>rfl
 | some gw=>
  obtain⟨g,want⟩:=gw
  cases ht:(ops[g]?).bind (·.dst) with
  | none=>simp only[ht];rfl
  | some t=>
   have a:d≠some t:=λe=>h t e (by simp[Oper.looksAt,b,ht]);simp only[ht,rL,DM a]
theorem GP{o:Oper}{f:Env}{d:Option Tmp}{x:E}(h:∀t,d=some t->t∉o.looksAt ops):∀t,.tmp t∈o.op.operands->BY f d x t=f t:=
 λt ht=>DM λe=>h t e (Ig ht)
def waits(ops:Array Oper)(i:Nat):Nat->Nat->Bool
 | 0,_=>false
 | n+1,j=>((ops[j]?).map (·.after.any λe=>Region.binds .any e && (Nat.beq e.on i || waits ops i n e.on))).getD false
def Gy(ops:Array Oper)(listed:Array Bool):Prop:=
 ∀j,listed.getD j false=true->∀o,ops[j]?=some o->∀e∈o.after,Region.binds .any e=true->listed.getD e.on false=true
theorem MN{listed:Array Bool}(c:Gy ops listed){i:Nat}:∀(n j:Nat),waits ops i n j=true->listed.getD j false=true->listed.getD i false=true
 | 0,_,h,_=>by cases h
 | n+1,j,h,e=>by
  unfold waits at h
  cases a:ops[j]? with
  | none=>rw[a]at h;cases h
  | some o=>
   rw[a]at h;simp only[qT,ro]at h;rw[sD]at h;obtain⟨k,hk,h⟩:=h;simp only[d4,pK]at h;have d:=c j e o a _ (th hk) h.1
   rcases h.2 with b|b
   ·have:=i7 b;rw[<-this];exact d
   ·exact MN c n _ b d
theorem Oo{listed:Array Bool}(f:Gy ops listed){i:Nat}(hi:listed.getD i false=false){n j:Nat}(h:waits ops i n j=true):j∉Region.ready .any ops listed:=by
 intro d;obtain⟨_,o,e,a⟩:=mem_ready.1 d
 cases n with
 | zero=>cases h
 | succ n=>
  unfold waits at h;rw[e]at h;simp only[qT,ro]at h;rw[sD]at h;obtain⟨k,hk,h⟩:=h;simp only[d4,pK]at h;have c:=a _ (th hk) h.1
  rcases h.2 with b|b
  ·have:=i7 b;rw[this,hi]at c;cases c
  ·have:=MN f n _ b c;rw[hi]at this;cases this
def TJ(ops:Array Oper)(i c:Nat)(r:List (Nat×Nat)):Bool:=
 (r.all λ(j,cj)=>waits ops i ops.size j || (!Fe c && (match ops[i]?,ops[j]? with|some x,some y=>x.apart ops y|_,_=>false) && Pr c cj))
def Em(ops:Array Oper):List (Nat×Nat)->Bool
 | []=>true
 | (i,c)::r=>TJ ops i c r && Em ops r
def Bx(ops:Array Oper):List (Nat×Nat)->Array Bool->Bool
 | [],listed=>(Region.ready .any ops listed).isEmpty
 | (i,_)::r,listed=>(Region.ready .any ops listed).contains i && Bx ops r (listed.setIfInBounds i true)
end
section
variable {P:Program}{TB:BR}{Z:Ctx}{ops:Array Oper}
theorem Ro(listed:Array Bool)(i:Nat):(listed.setIfInBounds i true).getD i true=true:=by
 by_cases h:i<listed.size
 ·simp[h]
 ·simp[h]
theorem Qb{listed:Array Bool}{j:Nat}(h:j∈Region.ready .any ops listed):listed.getD j true=false:=(mem_ready.1 h).1
theorem WA{listed:Array Bool}{j:Nat}(h:listed.getD j true=false):listed.getD j false=false:=by
 rcases pT j listed.size with a|a
 ·simpa[a]using h
 ·simp[Array.getElem?_eq_none a]
theorem Iy{listed:Array Bool}{j:Nat}(h:Gy ops listed)(g:j∈Region.ready .any ops listed):Gy ops (listed.setIfInBounds j true):=by
 intro i hi o d e f hb;by_cases b:j=i
 ·subst b
  obtain⟨_,o',a,c⟩:=mem_ready.1 g;rw[d]at a
  injection a with a
  subst a;exact getD_set_true (c e f hb)
 ·rw[getD_set_ne false b]at hi
  exact getD_set_true (h i hi o d e f hb)
theorem Mr:∀(r:List (Nat×Nat)) (listed:Array Bool),Bx ops r listed=true->∀j,j∈Region.ready .any ops listed->j∈r.map (·.1)
 | [],listed,h,j,b=>by
  simp only[Bx,List.isEmpty_iff]at h;rw[h]at b;cases b
 | (i,c)::r,listed,h,j,b=>by
  simp only[Bx,d4]at h;by_cases a:j=i
  ·subst a;simp
  ·have:=Mr r _ h.2 j (ready_mono b a)
   simp only[qz,mt];exact .inr this
theorem Zt:∀(r:List (Nat×Nat)) (listed:Array Bool),Bx ops r listed=true->∀j,listed.getD j true=true->j∉r.map (·.1)
 | [],_,_,_,_=>by simp
 | (i,c)::r,listed,h,j,b=>by
  simp only[Bx,d4]at h
  have hi:i∈Region.ready .any ops listed:=by simpa using h.1
  have a:i≠j:=λe=>by subst e;rw[Qb hi]at b;cases b
  have:=Zt r _ h.2 j (by rw[getD_set_ne true a];exact b);simp only[qz,mt,not_or];exact⟨λe=>a e.symm,this⟩
theorem P5:∀(f b:List (Nat×Nat)) (j c:Nat) (listed:Array Bool),Bx ops (f++(j,c)::b) listed=true->j∈Region.ready .any ops listed->
 Bx ops (f++b) (listed.setIfInBounds j true)=true
 | [],b,j,c,listed,h,_=>by
  simp only[sj,Bx,d4]at h;exact h.2
 | (i,d)::f,b,j,c,listed,h,g=>by
  simp only[qI,Bx,d4]at h |-
  have hi:i∈Region.ready .any ops listed:=by simpa using h.1
  have a:j≠i:=by
   intro e;subst e;have:=Zt _ _ h.2 j (Ro _ _);exact this (by simp)
  refine⟨by simpa using ready_mono hi (Ne.symm a),?_⟩;rw[Array.setIfInBounds_comm _ _ a];exact P5 f b j c _ h.2 (ready_mono g a)
theorem Mp:∀(e a:List (Nat×Nat)) (x:Nat×Nat),Em ops (e++x::a)=true->Em ops (e++a)=true
 | [],a,(j,c),h=>by
  simp only[sj,Em,d4]at h;exact h.2
 | (i,d)::e,a,x,h=>by
  simp only[qI,Em,d4]at h |-;refine⟨?_,Mp e a x h.2⟩;have f:=h.1;unfold TJ at f |-;rw[gc]at f |-;intro y b;refine f y ?_
  rcases d9.1 b with b|b
  ·exact pJ _ b
  ·exact pS _ (pN _ b)
def QC(P:Program)(TB:BR)(Z:Ctx)(c:Nat)(o:Oper)(x:E)(f:Env)(σ:Ab)(nx:Nat):Prop:=
 bif Nat.ble 10 c then ∀σ' nx',look σ' (c-10)=look σ (c-10)->A9 P TB Z o f σ' nx' x else bif Nat.beq c 2 then ∀σ nx,A9 P TB Z o f σ nx x else A9 P TB Z o f σ nx x
def Yl(P:Program)(TB:BR)(Z:Ctx)(ops:Array Oper)(c:Nat)(o:Oper)(x:E)(f:Env)(σ:Ab)(nx:Nat):Prop:=
 (BG ops o f=some false/\x=.t [])\/(BG ops o f=some true/\QC P TB Z c o x f σ nx)
theorem QC.congr{c:Nat}{o:Oper}{x:E}{f f':Env}{σ:Ab}{nx:Nat}(h:∀t,.tmp t∈o.op.operands->f t=f' t)(q:QC P TB Z c o x f σ nx):QC P TB Z c o x f' σ nx:=by
 unfold QC at q |-;cases b:Nat.ble 10 c
 ·rw[b]at q
  cases a:Nat.beq c 2
  ·rw[a]at q;exact A9.congr h q
  ·rw[a]at q;exact λσ nx=>A9.congr h (q σ nx)
 ·rw[b]at q;exact λσ' nx' d=>A9.congr h (q σ' nx' d)
theorem QC.move{c:Nat}{o:Oper}{x:E}{f:Env}{σ σ':Ab}{nx nx':Nat}(q:QC P TB Z c o x f σ nx)(g:(Nat.ble 10 c=false/\Nat.beq c 2=true)\/(σ'=σ/\nx'=nx)\/(Nat.ble 10 c=true/\look σ' (c-10)=look σ (c-10))):QC P TB Z c o x f σ' nx':=by
 rcases g with ⟨e,d⟩|⟨rfl,rfl⟩|⟨e,d⟩
 ·unfold QC at q |-;rw[e,d]at q |-;exact q
 ·exact q
 ·unfold QC at q |-;rw[e]at q |-;exact λa b h=>q a b (h.trans d)
def HN(P:Program)(TB:BR)(Z:Ctx)(ops:Array Oper)(c:Nat)(o:Oper)(K:Env->Ab->Nat->Prop)(f:Env)(σ:Ab)(nx:Nat):Prop:=
 bif Nat.ble 10 c then nu P TB Z ops c o K f σ nx else bif Nat.beq c 2 then
  (BG ops o f=some false/\K (BY f o.dst (.t [])) σ nx)\/
  (BG ops o f=some true/\∃x,(∀σ nx,A9 P TB Z o f σ nx x)/\K (BY f o.dst x) σ nx)
 else YL P TB Z ops (Nat.beq c 1) o K f σ nx
theorem EA{c:Nat}{o:Oper}{K:Env->Ab->Nat->Prop}{f:Env}{σ:Ab}{nx:Nat}(a:Fe c=false) :
 HN P TB Z ops c o K f σ nx↔∃x,Yl P TB Z ops c o x f σ nx/\K (BY f o.dst x) σ nx:=by
 unfold Fe at a;rw[Bool.or_eq_false_iff]at a;unfold HN Yl YL nu QC;rw[a.1,a.2];have key:∀ {q:E->Prop},((BG ops o f=some false/\K (BY f o.dst (.t [])) σ nx)\/(BG ops o f=some true/\∃x,q x/\K (BY f o.dst x) σ nx))↔
  ∃x,((BG ops o f=some false/\x=.t [])\/(BG ops o f=some true/\q x))/\K (BY f o.dst x) σ nx:=by
  intro q;constructor
  ·rintro(⟨h,k⟩|⟨h,x,q,k⟩)
   ·exact⟨_,.inl ⟨h,rfl⟩,k⟩
   ·exact⟨x,.inr ⟨h,q⟩,k⟩
  ·rintro⟨x,⟨h,rfl⟩|⟨h,q⟩,k⟩
   ·exact .inl ⟨h,k⟩
   ·exact .inr ⟨h,x,q,k⟩
 cases d:Nat.ble 10 c
 ·cases b:Nat.beq c 2
  ·exact key
  ·exact key
 ·exact key
theorem Ha{c:Nat}{o:Oper}{K:Env->Ab->Nat->Prop}{f:Env}{σ:Ab}{nx:Nat}(b:Fe c=true) :
 HN P TB Z ops c o K f σ nx↔(BG ops o f=some false/\K (BY f o.dst (.t [])) σ nx)\/(BG ops o f=some true/\CY P TB Z o f σ nx (λx σ' nx'=>(Nat.ble 1000 c=true->Kept (c-1000) σ σ')/\K (BY f o.dst x) σ' nx')):=by
 unfold Fe at b;unfold HN YL nu;cases g:Nat.ble 1000 c
 ·rw [g,Bool.or_false]at b
  have a:=i7 b;subst a;constructor
  ·rintro(h|⟨h,q⟩)
   ·exact .inl h
   ·exact .inr ⟨h,CY.mono q λx σ' nx' k=>⟨λe=>by simp at e,k⟩⟩
  ·rintro(h|⟨h,q⟩)
   ·exact .inl h
   ·exact .inr ⟨h,CY.mono q λx σ' nx' k=>k.2⟩
 ·have d:Nat.ble 10 c=true:=r5 (by have:=am g;omega)
  rw[d];simp only[cond_true];constructor
  ·rintro(h|⟨h,q⟩)
   ·exact .inl h
   ·exact .inr ⟨h,CY.mono q λx σ' nx' k=>⟨λ_=>k.1,k.2⟩⟩
  ·rintro(h|⟨h,q⟩)
   ·exact .inl h
   ·exact .inr ⟨h,CY.mono q λx σ' nx' k=>⟨k.1 trivial,k.2⟩⟩
theorem HN.mono{c:Nat}{o:Oper}{K K':Env->Ab->Nat->Prop}{f:Env}{σ:Ab}{nx:Nat}(hk:∀f σ nx,K f σ nx->K' f σ nx)(h:HN P TB Z ops c o K f σ nx):HN P TB Z ops c o K' f σ nx:=by
 cases d:Fe c
 ·rw[EA d]at h |-
  obtain⟨x,b,a⟩:=h;exact⟨x,b,hk _ _ _ a⟩
 ·rw[Ha d]at h |-
  rcases h with ⟨b,a⟩|⟨b,a⟩
  ·exact .inl ⟨b,hk _ _ _ a⟩
  ·exact .inr ⟨b,CY.mono a λx σ' nx' k=>⟨k.1,hk _ _ _ k.2⟩⟩
theorem bu{ci cj:Nat}{oi oj:Oper}{x:E}{f:Env}{σ:Ab}{nx:Nat}{K:Env->Ab->Nat->Prop}
 (g:Fe ci=false) (i:oi.apart ops oj=true) (b:Pr ci cj=true) (d:Yl P TB Z ops ci oi x f σ nx)
 (h:HN P TB Z ops cj oj K (BY f oi.dst x) σ nx):HN P TB Z ops cj oj (HN P TB Z ops ci oi K) f σ nx:=by
 obtain⟨m,n,l⟩:=Oper.apart_spec i;have k:BG ops oj (BY f oi.dst x)=BG ops oj f:=HZ m;have ag:∀t,.tmp t∈oj.op.operands->BY f oi.dst x t=f t:=GP m
 have back:∀(y:E) (σ':Ab) (nx':Nat),((Nat.ble 10 ci=false/\Nat.beq ci 2=true)\/(σ'=σ/\nx'=nx)\/(Nat.ble 10 ci=true/\look σ' (ci-10)=look σ (ci-10)))->K (BY (BY f oi.dst x) oj.dst y) σ' nx'->HN P TB Z ops ci oi K (BY f oj.dst y) σ' nx':=by
  intro y σ' nx' e hk;rw[EA g];refine⟨x,?_,by rw[Nn n]at hk;exact hk⟩;unfold Yl at d |-;rw[HZ l]
  rcases d with d|⟨d,q⟩
  ·exact .inl d
  ·exact .inr ⟨d,(q.move e).congr λt ht=>(GP l t ht).symm⟩
 cases c:Fe cj
 ·rw[EA c]at h |-
  obtain⟨y,a,hk⟩:=h;refine⟨y,?_,back y σ nx (.inr (.inl ⟨rfl,rfl⟩)) hk⟩;unfold Yl at a |-;rw[k]at a
  rcases a with a|⟨a,q⟩
  ·exact .inl a
  ·exact .inr ⟨a,q.congr ag⟩
 ·rw [Ha c]at h |-
  rw[k]at h
  have e:∀σ' nx',(Nat.ble 1000 cj=true->Kept (cj-1000) σ σ')->(Nat.ble 10 ci=false/\Nat.beq ci 2=true)\/(σ'=σ/\nx'=nx)\/(Nat.ble 10 ci=true/\look σ' (ci-10)=look σ (ci-10)):=λσ' nx' hk=>by
   unfold Pr at b;rw[c]at b;simp only[qv,sf,pK,d4]at b
   rcases b with b|⟨r,p,o⟩
   ·have:=i7 b
    subst this;exact .inl ⟨rfl,rfl⟩
   ·exact .inr (.inr ⟨r,hk p _ o⟩)
  rcases h with ⟨j,hk⟩|⟨j,hk⟩
  ·exact .inl ⟨j,back _ σ nx (.inr (.inl ⟨rfl,rfl⟩)) hk⟩
  ·exact .inr ⟨j,(CY.congr ag hk).mono λy σ' nx' hk=>⟨hk.1,back y σ' nx' (e σ' nx' hk.1) hk.2⟩⟩
theorem FX(K:Env->Ab->Nat->Prop):∀(r:List (Nat×Nat)) (listed:Array Bool) (f:Env) (σ:Ab) (nx:Nat),Gy ops listed->Bx ops r listed=true->Em ops r=true->
 Lex P TB Z ops r K f σ nx->∀j,j∈Region.ready .any ops listed->∃k c g o,r=k++(j,c)::g/\ops[j]?=some o/\HN P TB Z ops c o (Lex P TB Z ops (k++g) K) f σ nx
 | [],listed,_,_,_,_,q,_,_,j,t=>by have:=Mr _ _ q j t;simp at this
 | (i, ci)::r,listed,f,σ,nx,F,q,hk,h,j,t=>by
  obtain⟨oi,m,h⟩:=h;by_cases n:j=i
  ·subst n
   exact⟨[],ci,r,oi,rfl,m,h⟩
  ·simp only [Bx,d4]at q
   simp only[Em,d4]at hk
   have hi:i∈Region.ready .any ops listed:=by simpa using q.1
   have y:j∈r.map (·.1):=Mr r _ q.2 j (ready_mono t n);obtain⟨⟨j',cj⟩,s,rfl⟩:=d8.1 y;have p:=hk.1;unfold TJ at p;rw[gc]at p
   have l:∀c',(j',c')∈r->Fe ci=false/\(∃oj,ops[j']?=some oj/\oi.apart ops oj=true)/\Pr ci c'=true:=by
    intro c' w;have d:=p _ w;simp only[pK,d4]at d
    rcases d with d|⟨⟨Q,v⟩,N⟩
    ·exact absurd t (Oo F (WA (Qb hi)) d)
    ·refine⟨by simpa using Q,?_,N⟩
     rw[m]at v
     cases b:ops[j']? with
     | none=>rw[b]at v;cases v
     | some oj=>rw[b]at v;exact⟨oj,rfl,v⟩
   have u:=(l cj s).1;have G:HN P TB Z ops ci oi (Lex P TB Z ops r K) f σ nx:=h;rw[EA u]at G;obtain⟨x,H,I⟩:=G;obtain⟨k,c,g,oj,B,b,M⟩:=FX K r (listed.setIfInBounds i true) _ σ nx (Iy F hi) q.2 hk.2 I j' (ready_mono t n);obtain⟨_,⟨oj',a,A⟩,z⟩:=l c (by rw[B];simp);rw[b]at a
   injection a with a
   subst a;refine⟨(i,ci)::k,c,g,oj,by rw[B];rfl,b,?_⟩;have L:=bu u A z H M;have e:Lex P TB Z ops ((i,ci)::k++g) K=λf σ nx=>∃o,ops[i]?=some o/\HN P TB Z ops ci o (Lex P TB Z ops (k++g) K) f σ nx:=rfl;rw[e]
   have J:∀f σ nx,HN P TB Z ops ci oi (Lex P TB Z ops (k++g) K) f σ nx->∃o,ops[i]?=some o/\HN P TB Z ops ci o (Lex P TB Z ops (k++g) K) f σ nx:=λf σ nx h=>⟨oi,m,h⟩
   exact HN.mono J L
end
structure Cv (TB:BR) (Z:Ctx) (N:Nat) (V:View) (f:Env) (σ:Ab) (nx:Nat) (a:Act):Prop where
 env:Ew V f a.tmps
 lt:∀t e,f t=some e->t<N
 size:a.tmps.size=N
 inv:Inv TB Z V σ
 nx:V.nx=nx
 defers:a.defers=[]
def Hv(N:Nat)(ops:Array Oper):Bool:=ops.all λo=>match o.dst with|some d=>Nat.blt d N|none=>true
section
variable {P:Program}{TB:BR}{Z:Ctx}{N:Nat}{ops:Array Oper}
theorem Xe(h:Hv N ops=true){i:Nat}{o:Oper}(a:ops[i]?=some o){d:Tmp}(b:o.dst=some d):d<N:=by
 unfold Hv at h;rw[Array.all_eq_true]at h;obtain⟨hi,rfl⟩:=pI.1 a;have:=h i hi;rw[b]at this;exact am this
theorem Cv.put{V V':View}{f:Env}{σ σ':Ab}{nx nx':Nat}{a:Act}{d:Option Tmp}{x:E}{v:Value}(h:Cv TB Z N V f σ nx a)(g:∀t,d=some t->t<N)
 (e:Ext V V') (hi:Inv TB Z V' σ') (c:V'.nx=nx') (i:Br V' x v):Cv TB Z N V' (BY f d x) σ' nx' (a.put d v):=by
 cases d with
 | none=>exact⟨h.env.ext e,h.lt,h.size,hi,c,h.defers⟩
 | some d=>
  refine⟨?_,?_,by simp[Act.put,h.size],hi,c,h.defers⟩
  ·intro t y b
   simp only[BY]at b;by_cases ht:t=d
   ·subst ht
    simp only[if_true]at b
    injection b with b
    subst b
    have:t<a.tmps.size:=by rw[h.size];exact g t rfl
    simpa[Act.put,this]using i
   ·rw[if_neg ht]at b
    have:=(h.env t y b).ext e
    simpa[Act.put,qZ (Ne.symm ht)]using this
  ·intro t y b
   simp only[BY]at b;by_cases ht:t=d
   ·subst ht;exact g t rfl
   ·rw[if_neg ht]at b;exact h.lt t y b
theorem NS(V:View):Br V (.t []) undef:=⟨#[],rfl,rfl,λj x v h=>by simp at h⟩
def YJ(TB:BR)(Z:Ctx)(N:Nat)(K:Env->Ab->Nat->Prop)(Q:Exit->Act->World->Prop):Prop:=
 ∀V f σ a,Cv TB Z N V f σ V.nx a->K f σ V.nx->Q .normal a V.w
theorem O6{c:Nat}{i:Nat}{o:Oper}(A:ops[i]?=some o)(k:∀t,o.dst=some t->t<N){K:Env->Ab->Nat->Prop}{K':Act->World->Prop}{Q:Exit->Act->World->Prop}
 (l:∀V f σ a,Cv TB Z N V f σ V.nx a->K f σ V.nx->K' a V.w)
 {V:View} {f:Env} {σ:Ab} {nx:Nat} {a:Act} (b:Cv TB Z N V f σ nx a) (h:HN P TB Z ops c o K f σ nx):wpOp P ops Q i K' a V.w:=by
 have g:∀t e,f t=some e->t<a.tmps.size:=λt e B=>by rw[b.size];exact b.lt t e B
 unfold wpOp;simp only[A]
 have no:BG ops o f=some false->K (BY f o.dst (.t [])) σ nx->(if Region.wanted o (yielded ops a.tmps) then o.wp P a V.w K' Q\/(o.asks P a V.w/\LetsOut Q) else K' (a.put o.dst undef) V.w):=by
  intro d hk;rw[It b.env g d];have j:Cv TB Z N V (BY f o.dst (.t [])) σ V.nx (a.put o.dst undef):=b.put k (Ext.refl _) b.inv rfl (NS V)
  simpa using l _ _ _ _ j (by rw[b.nx];exact hk)
 have yes:BG ops o f=some true->(∃x,A9 P TB Z o f σ nx x/\K (BY f o.dst x) σ nx)->(if Region.wanted o (yielded ops a.tmps) then o.wp P a V.w K' Q\/(o.asks P a V.w/\LetsOut Q) else K' (a.put o.dst undef) V.w):=by
  rintro d ⟨x,z,hk⟩;rw[It b.env g d];simp only[if_true];refine .inl (Yw P (Oper.wp_mono ?_ (z V a (b.env.op o) b.inv b.nx)));rintro a' w' ⟨V',v,rfl,rfl,r,p,n,m⟩;exact l V' _ σ _ (b.put k r p rfl m) (by rw[n];exact hk)
 cases s:Fe c
 ·rw [EA s]at h
  obtain⟨x,y,hk⟩:=h
  rcases y with ⟨d,rfl⟩|⟨d,q⟩
  ·exact no d hk
  ·refine yes d ⟨x,?_,hk⟩
   unfold QC at q;cases j:Nat.ble 10 c
   ·rw[j]at q
    cases u:Nat.beq c 2
    ·rw[u]at q;exact q
    ·rw[u]at q;exact q σ nx
   ·rw[j]at q;exact q σ nx rfl
 ·rw [Ha s]at h
  rcases h with ⟨d,hk⟩|⟨d,hk⟩
  ·exact no d hk
  ·rw[It b.env g d]
   simp only[if_true];refine .inl (Yw P (Oper.wp_mono ?_ (hk V a (b.env.op o) b.inv b.nx)));rintro a' w' ⟨V',v,x,σ',rfl,rfl,r,p,n,m⟩;exact l V' _ σ' _ (b.put k r p rfl n) m.2
theorem MQ(g:Hv N ops=true){K:Env->Ab->Nat->Prop}{Q:Exit->Act->World->Prop}(j:YJ TB Z N K Q):∀(r:List (Nat×Nat)) (V:View) (f:Env) (σ:Ab) (a:Act),
 Cv TB Z N V f σ V.nx a->Lex P TB Z ops r K f σ V.nx->wpOps P ops Q (r.map (·.1)) a V.w
 | [],V,f,σ,a,d,h=>j V f σ a d h
 | (i,c)::r,V,f,σ,a,d,h=>by
  obtain⟨o,e,h⟩:=h;rw[qz,wpOps_cons];exact O6 e (λt ht=>Xe g e ht) (λV' f' σ' a' b hk=>MQ g j r V' f' σ' a' b hk) d h
theorem MP(v:Hv N ops=true){K:Env->Ab->Nat->Prop}{Q:Exit->Act->World->Prop}(y:YJ TB Z N K Q):∀(n:Nat) (r:List (Nat×Nat)) (listed:Array Bool) (V:View) (f:Env) (σ:Ab) (a:Act),
 r.length=n->Gy ops listed->Bx ops r listed=true->Em ops r=true->Cv TB Z N V f σ V.nx a->Lex P TB Z ops r K f σ V.nx->wpAny P .any ops Q n listed a V.w
 | 0,r,listed,V,f,σ,a,g,u,b,hk,p,h=>by
  have:r=[]:=pi.1 g;subst this;refine⟨?_,y V f σ a p h⟩
  simpa[Bx]using b
 | n + 1,r,listed,V,f,σ,a,g,u,b,hk,p,h=>by
  refine⟨λe=>?_,λj s=>?_⟩
  ·cases r with
   | nil=>simp at g
   | cons x r=>
    obtain⟨i,c⟩:=x;simp only[Bx,d4]at b;have:=b.1;rw[e]at this;simp at this
  ·obtain⟨l,c,k,o,rfl,d,z⟩:=FX K r listed f σ V.nx u b hk h j s
   refine O6 d (λt ht=>Xe v d ht) (λV' f' σ' a' m q=>?_) p z;exact MP v y n (l++k) _ V' f' σ' a' (by simp at g |-;omega) (Iy u s) (P5 l k j c listed b s) (Mp l k _ hk) m q
def Ak(P:Program)(TB:BR)(Z:Ctx)(N:Nat)(c:Code)(Q:Exit->Env->Ab->Nat->Prop)(f:Env)(σ:Ab)(nx:Nat):Prop:=
 ∀V a,Cv TB Z N V f σ nx a->c.wp P (λe a' w'=>∃V' f' σ',V'.w=w'/\Q e f' σ' V'.nx/\Cv TB Z N V' f' σ' V'.nx a') a V.w
variable {Q:Exit->Env->Ab->Nat->Prop}{f:Env}{σ:Ab}{nx:Nat}
theorem Ak.skip(h:Q .normal f σ nx):Ak P TB Z N .skip Q f σ nx:=λV _ a=>wp_skip ⟨V,f,σ,rfl,by rw[a.nx];exact h,by rw[a.nx];exact a⟩
theorem Ak.exit{id:Nat}(h:Q (.exit id) f σ nx):Ak P TB Z N (.exit id) Q f σ nx:=λV _ a=>wp_exit ⟨V,f,σ,rfl,by rw[a.nx];exact h,by rw[a.nx];exact a⟩
theorem Ak.ret(h:Q .ret f σ nx):Ak P TB Z N .ret Q f σ nx:=λV _ a=>wp_ret ⟨V,f,σ,rfl,by rw[a.nx];exact h,by rw[a.nx];exact a⟩
def MI(K:Env->Ab->Nat->Prop)(Q:Exit->Env->Ab->Nat->Prop):Exit->Env->Ab->Nat->Prop
 | .normal=>K
 | e=>Q e
theorem Ak.seq{x y:Code}(h:Ak P TB Z N x (MI (Ak P TB Z N y Q) Q) f σ nx):Ak P TB Z N (.seq x y) Q f σ nx:=by
 intro V a d;refine wp_seq (wp_mono (h V a d) ?_);rintro e a' w' ⟨V',f',σ',rfl,c,b⟩
 cases e with
 | normal=>exact c V' a' b
 | exit id=>exact⟨V',f',σ',rfl,c,b⟩
 | goto l=>exact⟨V',f',σ',rfl,c,b⟩
 | ret=>exact⟨V',f',σ',rfl,c,b⟩
 | panic ch=>exact⟨V',f',σ',rfl,c,b⟩
 | outgrown=>exact⟨V',f',σ',rfl,c,b⟩
def nA(id:Nat)(Q:Exit->Env->Ab->Nat->Prop):Exit->Env->Ab->Nat->Prop
 | .exit id'=>bif Nat.beq id' id then Q .normal else Q (.exit id')
 | e=>Q e
theorem Ak.block{id:Nat}{c:Code}(h:Ak P TB Z N c (nA id Q) f σ nx):Ak P TB Z N (.block id c) Q f σ nx:=by
 intro V a i;refine wp_block (wp_mono (h V a i) ?_);rintro e a' w' ⟨V',f',σ',rfl,b,g⟩
 cases e with
 | exit id'=>
  simp only[Exit.inBlock];by_cases d:id'=id
  ·subst d
   simp only[nA,sW,cond_true]at b;rw[if_pos rfl];exact⟨V',f',σ',rfl,b,g⟩
  ·have:Nat.beq id' id=false:=by
    cases hb:Nat.beq id' id
    ·rfl
    ·exact absurd (i7 hb) d
   simp only[nA,this,cond_false]at b;rw[if_neg d];exact⟨V',f',σ',rfl,b,g⟩
 | normal=>exact⟨V',f',σ',rfl,b,g⟩
 | goto l=>exact⟨V',f',σ',rfl,b,g⟩
 | ret=>exact⟨V',f',σ',rfl,b,g⟩
 | panic ch=>exact⟨V',f',σ',rfl,b,g⟩
 | outgrown=>exact⟨V',f',σ',rfl,b,g⟩
def cE:Value->Option E
 | .slice none 0 0=>some (.o (.d (.l [])))
 | v=>bif Qq v then some (.o (.d (.v v))) else none
def ev(f:Env):Operand->Option E
 | .tmp t=>f t
 | .const v=>cE v
 | .global _=>none
 | .func f=>some (.o (.fn f []))
theorem dm{V:View}{v:Value}{e:E}(h:cE v=some e):Br V e v:=by
 unfold cE at h;split at h
 ·injection h with h;subst h;exact .d .nil
 ·cases a:Qq v
  ·rw[a]at h;cases h
  ·rw[a]at h;injection h with h;subst h;exact .d (.v a)
theorem j9{V:View}{o:Oper}{f:Env}{a:Act}(h:Jl V o f a){x:Operand}(d:x∈o.op.operands){e:E}(b:ev f x=some e):Br V e (a.eval x):=by
 cases x with
 | tmp t=>exact h t e d b
 | const v=>exact dm b
 | global g=>cases b
 | func g=>
  injection b with b;subst b
  exact .fn rfl (λj c v i=>by simp at i)
theorem j8{V:View}{f:Env}{a:Act}(h:Ew V f a.tmps){x:Operand}{e:E}(b:ev f x=some e):Br V e (a.eval x):=by
 cases x with
 | tmp t=>exact h t e b
 | const v=>exact dm b
 | global g=>cases b
 | func g=>
  injection b with b;subst b
  exact .fn rfl (λj c v d=>by simp at d)
theorem Ak.cond{c:Operand}{x y:Code}{b:Bool}(i:ev f c=some (.o (.d (.v (.bool b)))))(ht:b=true->Ak P TB Z N x Q f σ nx)(g:b=false->Ak P TB Z N y Q f σ nx) :
 Ak P TB Z N (.cond c x y) Q f σ nx:=by
 intro V a e;have j:a.eval c=.bool b:=AJ.val (j8 e.env i);exact wp_cond_split j (λh=>ht h V a e) (λh=>g h V a e)
theorem Ak.region{id:Nat}(r:List (Nat×Nat))(e:Hv N ops=true)(d:r.map (·.1)=List.range ops.size)(h:Lex P TB Z ops r (λf σ nx=>Q .normal f σ nx) f σ nx) :
 Ak P TB Z N (.region id ops false) Q f σ nx:=by
 intro V a b;refine wp_region ?_;rw[<-d];have c:=b.nx;subst c;exact MQ e (λV f σ a b hk=>⟨V,f,σ,rfl,hk,b⟩) r V f σ a b h
theorem NZ(ops:Array Oper):Gy ops (Array.replicate ops.size false):=by
 intro j a
 have:(Array.replicate ops.size false).getD j false=false:=by
  rcases pT j ops.size with h|h
  ·simp[h]
  ·simp[h]
 rw[this]at a;cases a
theorem Inv.drew{V:View}(h:Inv TB Z V σ):Inv TB Z { V with w:={ V.w with drawn:=V.w.drawn+1 } } σ/\Ext V { V with w:={ V.w with drawn:=V.w.drawn+1 } } := by
 have e:Ext V { V with w:={ V.w with drawn:=V.w.drawn+1 } } := ⟨λ_ h=>h,λ_ _=>rfl,i9 _,λ_ _=>rfl,λ_ _=>rfl,λ_ _=>Iff.rfl,i9 _⟩
 refine⟨⟨h.os,h.tape,h.output,h.old,h.iLt,h.iNew,h.ext.trans e,⟨λid o d=>?_,h.st.lt,h.st.free,h.st.inj⟩,h.live,h.tabs,h.hid.step (λ_ h=>h) (λ_ _=>rfl) (i9 _) (λ_ _ _ _=>rfl) (λ_ h=>.inl h) (λb hb=>.inl (Jv e h.st.lt hb))⟩,e⟩;have a:=h.st.obj id o d
 cases o with
 | cells T k rows=>
  rcases a with a|⟨u,cur,t,s,q,p,n,m⟩
  ·exact .inl a
  ·exact .inr ⟨u,cur,t,s,q,p,n,λi r j c hi f=>let ⟨v,l,g⟩:=m i r j c hi f;⟨v,l,g.ext e⟩⟩
 | mp=>exact a
 | sld=>exact a
theorem Ak.iO{id:Nat}(r:List (Nat×Nat))(i:P.follows .mixedOrders=true)(j:Hv N ops=true)(g:r.length=ops.size)(d:(Bx ops r (Array.replicate ops.size false) && Em ops r)=true)
 (h:Lex P TB Z ops r (λf σ nx=>Q .normal f σ nx) f σ nx):Ak P TB Z N (.region id ops true) Q f σ nx:=by
 intro V a b;rw[d4]at d;refine wp_region_any i ?_;obtain⟨l,k⟩:=b.inv.drew
 have c:Cv TB Z N { V with w:={ V.w with drawn:=V.w.drawn+1 } } f σ V.nx a:=⟨b.env.ext k,b.lt,b.size,l,rfl,b.defers⟩
 have e:=b.nx;subst e;exact MP j (λV f σ a b hk=>⟨V,f,σ,rfl,hk,b⟩) ops.size r _ { V with w:={ V.w with drawn:=V.w.drawn+1 } } f σ a g (NZ ops) d.1 d.2 c h
theorem Ak.loop{α:Type}{c:Code}(S:α->Env×Ab×Nat)(μ:α->Nat)(back:α->Env->Ab->Nat->Prop)
 (g:∀y f σ nx V a,back y f σ nx->Cv TB Z N V f σ nx a->∃V',V'.w=V.w/\Cv TB Z N V' (S y).1 (S y).2.1 (S y).2.2 a)
 (x:α) (u:back x f σ nx) (round:∀x,Ak P TB Z N c (MI (λf σ nx=>∃y,μ y<μ x/\back y f σ nx) Q) (S x).1 (S x).2.1 (S x).2.2) :
 Ak P TB Z N (.loop c) Q f σ nx:=by
 intro V a o b k cs;have key:∀n y,μ y=n->∀V a,Cv TB Z N V (S y).1 (S y).2.1 (S y).2.2 a->
  ∃e a' w',(∃V' f' σ',V'.w=w'/\Q e f' σ' V'.nx/\Cv TB Z N V' f' σ' V'.nx a')/\Arrives P (lone (b.at a (.code c::.inLoop c::k)) cs V.w) b k cs e a' w':=by
  intro n
  induction n using Nat.strongRecOn with
  | _ n r=>
   intro y t V a o;obtain⟨e,a₁,w₁,p,d⟩:=round y V a o b (.inLoop c::k) cs;obtain⟨V',f',σ',rfl,i,h⟩:=p
   cases e with
   | normal=>
    obtain⟨z,s,hb⟩:=i;obtain⟨V'',q,j⟩:=g z f' σ' V'.nx V' a₁ hb h;obtain⟨e₂,a₂,w₂,hq₂,harr₂⟩:=r (μ z) (t▸s) z rfl V'' a₁ j;rw[q]at harr₂;exact⟨e₂,a₂,w₂,hq₂,.of_steps (Steps.trans d (.one step_inLoop)) harr₂⟩
   | exit id=>exact⟨_,a₁,_,⟨V',f',σ',rfl,i,h⟩,.pass (x:=.inLoop c) rfl (λ_ _=>.inl (by simp)) d⟩
   | goto l=>exact⟨_,a₁,_,⟨V',f',σ',rfl,i,h⟩,.pass (x:=.inLoop c) rfl (λ_ _=>.inl (by simp)) d⟩
   | ret=>exact⟨_,a₁,_,⟨V',f',σ',rfl,i,h⟩,.pass (x:=.inLoop c) rfl (λ_ _=>.inl (by simp)) d⟩
   | panic ch=>exact⟨_,a₁,_,⟨V',f',σ',rfl,i,h⟩,.pass (x:=.inLoop c) rfl (λ_ _=>.inl (by simp)) d⟩
   | outgrown=>exact⟨_,a₁,_,⟨V',f',σ',rfl,i,h⟩,.pass (x:=.inLoop c) rfl (λ_ _=>.inl (by simp)) d⟩
 obtain⟨V',q,m⟩:=g x f σ nx V a u o;obtain⟨e,a',w',p,d⟩:=key _ x rfl V' a m;rw[q]at d;exact⟨e,a',w',p,.of_steps (.one step_loop) d⟩
end
mutual
def C.Bd(r:Nat->Nat):C->C
 | .d x=>.d x
 | .arr id k off len=>.arr (r id) k off len
 | .ptr id k i j=>.ptr (r id) k i j
 | .fn f cap=>.fn f (C.Cp r cap)
 | .mp id=>.mp (r id)
 | .mv f l=>.mv f (C.Cp r l)
def C.Cp(r:Nat->Nat):List C->List C
 | []=>[]
 | c::l=>C.Bd r c::C.Cp r l
end
mutual
def C.BT:C->Bool
 | .d _=>true
 | .fn _ cap=>C.C1 cap
 | .mv _ l=>C.C1 l
 | _=>false
def C.C1:List C->Bool
 | []=>true
 | c::l=>c.BT && C.C1 l
end
def E.Bd(r:Nat->Nat):E->E
 | .o c=>.o (c.Bd r)
 | .a cs=>.a (C.Cp r cs)
 | .t xs=>.t (xs.map λx=>(x.1,C.Cp r x.2))
 | .e=>.e
def E.BT:E->Bool
 | .o c=>c.BT
 | .a cs=>C.C1 cs
 | .t xs=>xs.all λx=>C.C1 x.2
 | .e=>true
def O.Bd(r:Nat->Nat):O->O
 | .cells T k rows=>.cells T k (rows.map (C.Cp r))
 | .mp es=>.mp es
 | .sld T l=>.sld T l
theorem Ff(r:Nat->Nat):∀(l:List C) (j:Nat),(C.Cp r l)[j]?=(l[j]?).map (C.Bd r)
 | [],j=>by simp[C.Cp]
 | c::l,0=>by simp[C.Cp]
 | c::l,j+1=>by simpa[C.Cp]using Ff r l j
theorem CX(r:Nat->Nat):∀(l:List C),(C.Cp r l).length=l.length
 | []=>rfl
 | c::l=>by simp[C.Cp,CX r l]
theorem Gd:∀(l:List C),C.C1 l=true->∀(j:Nat) (c:C),l[j]?=some c->c.BT=true
 | [],_,j,c,h=>by simp at h
 | x::l,a,0,c,h=>by
  simp only[C.C1,d4]at a;simp at h;subst h;exact a.1
 | x::l,a,j+1,c,h=>by
  simp only[C.C1,d4]at a;exact Gd l a.2 j c (by simpa using h)
def View.Bd(V:View)(r:Nat->Nat)(nx:Nat):View:={ V with ρ:=λi=>V.ρ (r i),cap:=λi=>V.cap (r i),nl:=λi=>V.nl (r i),nx:=nx }
theorem AJ.Bd{V:View}{r:Nat->Nat}{nx:Nat}(e:∀id,r id<V.nx->id<nx){n:C}{v:Value}(h:AJ V n v):∀c,n=c.Bd r->AJ (V.Bd r nx) c v:=by
 induction h with
 | d h=>intro c a;cases c<;>simp only[C.Bd]at a<;>first|(injection a with a;subst a;exact .d h)|cases a
 | nil b k=>
  intro c a
  cases c<;>simp only[C.Bd]at a<;>try cases a
  exact .nil (e _ b) k
 | arr b m k=>
  intro c a
  cases c<;>simp only[C.Bd]at a<;>try cases a
  exact .arr (V:=V.Bd r nx) (e _ b) m k
 | ptr b m=>
  intro c a
  cases c<;>simp only[C.Bd]at a<;>try cases a
  exact .ptr (V:=V.Bd r nx) (e _ b) m
 | fn b _ f=>
  intro c a
  cases c<;>simp only[C.Bd]at a<;>try cases a
  rename_i cap;refine .fn (by rw[b,CX]) (λj c v i g=>f j (c.Bd r) v (by rw[Ff,i];rfl) g c rfl)
 | mp b=>
  intro c a
  cases c<;>simp only[C.Bd]at a<;>try cases a
  exact .mp (V:=V.Bd r nx) (e _ b)
 | mv b _ f=>
  intro c a
  cases c<;>simp only[C.Bd]at a<;>try cases a
  rename_i l;refine .mv (by rw[b,CX]) (λj c v i g=>f j (c.Bd r) v (by rw[Ff,i];rfl) g c rfl)
theorem AJ.BT{V V':View}(hI:V'.I=V.I)(i:V'.w=V.w){c:C}{v:Value}(h:AJ V c v)(a:c.BT=true):AJ V' c v:=by
 induction h with
 | d h=>exact .d (by rw[hI,i];exact h)
 | nil=>simp[C.BT]at a
 | arr=>simp[C.BT]at a
 | ptr=>simp[C.BT]at a
 | fn g _ e=>
  simp only[C.BT]at a;exact .fn g λj c v b f=>e j c v b f (Gd _ a j c b)
 | mp=>simp[C.BT]at a
 | mv g _ e=>
  simp only[C.BT]at a;exact .mv g λj c v b f=>e j c v b f (Gd _ a j c b)
theorem Dk.Bd{V:View}{r:Nat->Nat}{nx:Nat}(b:∀id,r id<V.nx->id<nx){cs:List C}{vs:Array Value}(h:Dk V (C.Cp r cs) vs):Dk (V.Bd r nx) cs vs:=
 ⟨by rw[h.1,CX],λj c v d a=>AJ.Bd b (h.2 j (c.Bd r) v (by rw[Ff,d];rfl) a) c rfl⟩
theorem Dk.BT{V V':View}(hI:V'.I=V.I)(b:V'.w=V.w){cs:List C}{vs:Array Value}(h:Dk V cs vs)(e:C.C1 cs=true):Dk V' cs vs:=
 ⟨h.1,λj c v a d=>(h.2 j c v a d).BT hI b (Gd _ e j c a)⟩
theorem MX.BT{V V':View}(hI:V'.I=V.I)(e:V'.w=V.w){x:Bool×List C}{v:Value}(h:MX V x v)(f:C.C1 x.2=true):MX V' x v:=by
 obtain⟨b,cs⟩:=x;cases b
 ·obtain⟨c,a,d⟩:=h
  have a:cs=[c]:=a;subst a;exact⟨c,rfl,d.BT hI e (by simpa[C.C1]using f)⟩
 ·obtain⟨vs,a,d⟩:=h;exact⟨vs,a,d.BT hI e f⟩
theorem Br.BT{V V':View}(hI:V'.I=V.I)(f:V'.w=V.w){x:E}{v:Value}(h:Br V x v)(d:x.BT=true):Br V' x v:=by
 cases x with
 | o c=>exact AJ.BT hI f h d
 | a cs=>obtain⟨vs,i,g⟩:=h;exact⟨vs,i,g.BT hI f d⟩
 | t xs=>
  obtain⟨vs,i,g,k⟩:=h;simp only[E.BT,gc]at d;exact⟨vs,i,g,λj x v a b=>(k j x v a b).BT hI f (d x (co a))⟩
 | e=>exact h
theorem Br.Bd{V:View}{r:Nat->Nat}{nx:Nat}(f:∀id,r id<V.nx->id<nx){x:E}{v:Value}(h:Br V (x.Bd r) v):Br (V.Bd r nx) x v:=by
 cases x with
 | e=>exact h
 | o c=>exact AJ.Bd f h c rfl
 | a cs=>obtain⟨vs,k,i⟩:=h;exact⟨vs,k,i.Bd f⟩
 | t xs =>
  obtain⟨vs,k,i,q⟩:=h;refine⟨vs,k,by rw[i];simp,λj x v a b=>?_⟩;have:=q j (x.1,C.Cp r x.2) v (by simp[a]) b;obtain⟨bb,cs⟩:=x;cases bb
  ·obtain⟨c,d,g⟩:=this
   cases cs with
   | nil=>simp[C.Cp]at d
   | cons m l=>
    simp only[C.Cp,List.cons.injEq]at d;obtain⟨p,n⟩:=d
    cases l with
    | nil=>exact⟨m,rfl,AJ.Bd f g m p.symm⟩
    | cons=>simp[C.Cp]at n
  ·obtain⟨ws,d,g⟩:=this;exact⟨ws,d,g.Bd f⟩
def Ed(r:Nat->Nat)(f:Env):List (Nat×E)->Prop
 | []=>True
 | (t,e)::L=>f t=some (e.Bd r)/\Ed r f L
def Be(r:Nat->Nat)(σ:Ab):Ab->Prop
 | []=>True
 | (id,o)::L=>look σ (r id)=some (o.Bd r)/\Be r σ L
theorem Ed.get{r:Nat->Nat}{f:Env}:∀ {L:List (Nat×E)},Ed r f L->∀t e,look L t=some e->f t=some (e.Bd r)
 | [],_,t,e,h=>by cases h
 | (k,x)::L,a,t,e,h=>by
  rw[AD]at h;by_cases hk:k=t
  ·rw[if_pos hk]at h;injection h with h;subst h;subst hk;exact a.1
  ·rw[if_neg hk]at h;exact a.2.get t e h
theorem Be.get{r:Nat->Nat}{σ:Ab}:∀ {L:Ab},Be r σ L->∀t e,look L t=some e->look σ (r t)=some (e.Bd r)
 | [],_,t,e,h=>by cases h
 | (k,x)::L,a,t,e,h=>by
  rw[AD]at h;by_cases hk:k=t
  ·rw[if_pos hk]at h;injection h with h;subst h;subst hk;exact a.1
  ·rw[if_neg hk]at h;exact Be.get a.2 t e h
theorem CJ.Bd{V:View}{r:Nat->Nat}{nx:Nat}(d:∀id,r id<V.nx->id<nx){id:Nat}{o:O}(h:CJ V (r id) (o.Bd r)):CJ (V.Bd r nx) id o:=by
 cases o with
 | cells T k rows=>
  rcases h with ⟨s,a⟩|⟨t,cur,a,q,p,n,m,l⟩
  ·exact .inl ⟨s,by simpa using a⟩
  ·refine .inr ⟨t,cur,a,q,by simpa[View.Bd]using p,n,λx b=>?_,λi x j c hi e=>?_⟩
   ·have:=m (C.Cp r x) (d8.2 ⟨x,b,rfl⟩)
    rwa[CX]at this
   ·obtain⟨v,g,f⟩:=l i (C.Cp r x) j (c.Bd r) (by simp[hi]) (by rw[Ff,e];rfl)
    exact⟨v,g,AJ.Bd d f c rfl⟩
 | mp es=>exact h
 | sld=>exact h
theorem Cw{V:View}{r:Nat->Nat}{nx id:Nat}{o:O}{b:Nat}:E9 (V.Bd r nx) id o b↔E9 V (r id) (o.Bd r) b:=by
 cases o<;>exact Iff.rfl
section
variable {P:Program}{TB:BR}{Z:Ctx}{N:Nat}
def nm(l:List Nat)(nx:Nat)(i:Nat):Nat:=match l[i]? with|some j=>j|none=>nx+i
theorem Sm{l:List Nat}{nx id:Nat}(h:nm l nx id<nx):id<l.length:=by
 unfold nm at h;split at h
 ·rename_i a;exact(ce.1 a).1
 ·omega
theorem Cv.Bd{V:View}{f:Env}{σ:Ab}{nx:Nat}{a:Act}(h:Cv TB Z N V f σ nx a)(l:List Nat)(L:List (Nat×E))(σ':Ab)
 (F:∀i,i<Z.V.nx->l[i]?=some i) (u:l.Nodup) (H:Ed (nm l nx) f L) (k:Be (nm l nx) σ σ'):∃V',V'.w=V.w/\Cv TB Z N V' (look L) σ' l.length a:=by
 have r:=h.nx;subst r;have q:∀id,nm l V.nx id<V.nx->id<l.length:=λid=>Sm
 have j:∀i,i<Z.V.nx->nm l V.nx i=i:=λi hi=>by unfold nm;rw[F i hi]
 have g:∀id o,look σ' id=some o->id<l.length:=λid o c=>q id (h.inv.st.lt _ _ (Be.get k id o c))
 have e:Ext Z.V (V.Bd (nm l V.nx) l.length):=by
  refine⟨h.inv.ext.i,h.inv.ext.heap,h.inv.ext.size,λi hi=>?_,λi hi=>?_,λi hi=>?_,?_⟩
  ·show V.ρ (nm l V.nx i)=_
   rw[j i hi];exact h.inv.ext.ρ i hi
  ·show V.cap (nm l V.nx i)=_
   rw[j i hi];exact h.inv.ext.cap i hi
  ·show V.nl (nm l V.nx i)↔_
   rw[j i hi];exact h.inv.ext.nl i hi
  ·show Z.V.nx<=l.length
   rcases qk Z.V.nx with I|I
   ·omega
   ·have:=(ce.1 (F (Z.V.nx-1) (by omega))).1;omega
 refine⟨V.Bd (nm l V.nx) l.length,rfl,⟨λt x p=>(h.env t _ (H.get t x p)).Bd q,λt x p=>h.lt t _ (H.get t x p),h.size,?_,rfl,h.defers⟩⟩
 refine⟨h.inv.os,h.inv.tape,h.inv.output,h.inv.old,h.inv.iLt,h.inv.iNew,e,⟨λid o c=>CJ.Bd q (h.inv.st.obj _ _ (Be.get k id o c)),g,λid o c d b hb=>h.inv.st.free _ _ (Be.get k id o c) d b (Cw.1 hb),?_⟩,
  λid o c d b hb=>h.inv.live _ _ (Be.get k id o c) d b (Cw.1 hb),h.inv.tabs,h.inv.hid.same rfl (λ_ h=>h) (λ_ h=>.inl h) λb ⟨id,o,c,u,hb⟩=>⟨_,_,Be.get k id o c,u,Cw.1 hb⟩⟩
 intro id id' o o' c m s d n b hb v;refine h.inv.st.inj _ _ _ _ (Be.get k id o c) (Be.get k id' o' m) ?_ d n b (Cw.1 hb) (Cw.1 v);have A:=g id o c;have z:=g id' o' m;unfold nm;rw[d6 A,d6 z];simp only;intro G;have B:=pH.1 u
 rcases rT s with y|y
 ·exact B _ _ A z y G
 ·exact B _ _ z A y G.symm
theorem Ak.A5{c:Code}{Q:Exit->Env->Ab->Nat->Prop}{f:Env}{σ:Ab}{nx:Nat}{α:Type}(L:α->List (Nat×E))(S:α->Ab)(n:Nat)(μ:α->Nat)
 (x:α) (d:List Nat) (b:(∀i,i<Z.V.nx->d[i]?=some i)/\d.Nodup/\d.length=n) (e:Ed (nm d nx) f (L x)/\Be (nm d nx) σ (S x))
 (round:∀x,Ak P TB Z N c (MI (λf σ nx=>∃y,μ y<μ x/\∃l:List Nat,(∀i,i<Z.V.nx->l[i]?=some i)/\l.Nodup/\l.length=n/\Ed (nm l nx) f (L y)/\Be (nm l nx) σ (S y)) Q) (look (L x)) (S x) n) :
 Ak P TB Z N (.loop c) Q f σ nx:=by
 refine Ak.loop (α:=α) (λy=>(look (L y),S y,n)) μ (λy f σ nx=>∃l:List Nat,(∀i,i<Z.V.nx->l[i]?=some i)/\l.Nodup/\l.length=n/\Ed (nm l nx) f (L y)/\Be (nm l nx) σ (S y))
  ?_ x ⟨d,b.1,b.2.1,b.2.2,e.1,e.2⟩ round
 rintro y f σ nx V a ⟨l,p,o,m,k,j⟩ h;obtain⟨V',q,g⟩:=h.Bd l (L y) (S y) p o k j;exact⟨V',q,by rw[m]at g;exact g⟩
theorem Ak.names{c:Code}{Q:Exit->Env->Ab->Nat->Prop}{f:Env}{σ:Ab}{nx:Nat}(l:List Nat)(L:List (Nat×E))(σ':Ab)
 (e:∀i,i<Z.V.nx->l[i]?=some i) (d:l.Nodup) (j:Ed (nm l nx) f L) (g:Be (nm l nx) σ σ') (h:Ak P TB Z N c Q (look L) σ' l.length):Ak P TB Z N c Q f σ nx:=by
 intro V a b;obtain⟨V',m,k⟩:=b.Bd l L σ' e d j g;have:=h V' a k;rw[m]at this;exact this
def Oq(V:View)(args:List E)(vs:Array Value):Prop:=vs.size=args.length/\∀(j:Nat) e v,args[j]?=some e->vs[j]?=some v->Br V e v
abbrev Fv(V V0:View)(σ:Ab)(S:Uu):Ctx:=⟨V0,λb=>DS V σ b\/S.B b,S.J⟩
structure Good (TB:BR) (V:View) (σ:Ab) (nx:Nat) (S:Uu):Prop where
 iLt:∀b,V.I b->b<V.w.heap.size
 st:HQ V σ
 tabs:∀x∈TB,V.I x.1/\V.w.heap[x.1]?=some x.2
 nx:V.nx=nx
 hid:Ov TB V σ S
def cQ (P:Program) (f:FuncId):Prop:=∃fn,P.funcs[f]?=some fn/\(fn.name == "runtime.NumGoroutine")=false/\fn.body.isNone=false
def Spec(P:Program)(TB:BR)(g:FuncId)(σ:Ab)(nx:Nat)(args:List E)(post:E->Ab->Nat->Prop):Prop:=
 cQ P g/\∀V vs S,Good TB V σ nx S->Oq V args vs->Calls P g vs V.w λe w'=>∃V' v x σ',e=.returned v/\V'.w=w'/\Inv TB (Fv V V σ S) V' σ'/\Br V' x v/\post x σ' V'.nx
def Pure(P:Program)(TB:BR)(g:FuncId)(args:List E)(r:E):Prop:=Spec P TB g [] 0 args (λx _ _=>x=r)
theorem Good.inv{V:View}{σ:Ab}{nx:Nat}{S:Uu}(h:Good TB V σ nx S):Inv TB (Fv V V σ S) V σ:=
 ⟨rfl,rfl,rfl,λ_ _ _=>rfl,h.iLt,λ_ h=>.inl h,Ext.refl _,h.st,λid o c a b hb=>.inr (.inl ⟨id,o,c,a,hb⟩),h.tabs,⟨S,h.hid,λb hb=>.inl hb,λb hb=>.inr (.inr hb)⟩⟩
def Cq:Nat->List E->List (Nat×E)
 | _,[]=>[]
 | k,e::l=>(k,e)::Cq (k+1) l
theorem Cj:∀(l:List E) (k t:Nat) (e:E),look (Cq k l) t=some e->k<=t/\l[t-k]?=some e
 | [],_,_,_,h=>by cases h
 | x :: l,k,t,e,h=>by
  simp only[Cq]at h;rw[AD]at h;by_cases hk:k=t
  ·rw[if_pos hk]at h;injection h with h;subst h;subst hk;simp
  ·rw[if_neg hk]at h
   obtain⟨b,a⟩:=Cj l (k+1) t e h;refine⟨by omega,?_⟩
   have:t-k=(t-(k+1))+1:=by omega
   rw[this];simpa using a
def Nz:E->Option (Bool×List C)
 | .o c=>some (false,[c])
 | .a cs=>some (true,cs)
 | .t _=>none
 | .e=>none
theorem Gc{V:View}{e:E}{x:Bool×List C}{v:Value}(h:Nz e=some x)(b:Br V e v):MX V x v:=by
 cases e with
 | o c=>injection h with h;subst h;exact⟨c,rfl,b⟩
 | a cs=>injection h with h;subst h;exact b
 | t=>cases h
 | e=>cases h
def iP(rs:Array ResultVar)(f:Env):Option E:=
 match rs.toList with
 | []=>some (.t [])
 | [.tmp t]=>f t
 | [.tmp t,.tmp u]=>(f t).bind λx=>(f u).bind λy=>(Nz x).bind λx=>(Nz y).map λy=>.t [x,y]
 | [.tmp t,.tmp u,.tmp s]=>(f t).bind λx=>(f u).bind λy=>(f s).bind λz=>(Nz x).bind λx=>(Nz y).bind λy=>(Nz z).map λz=>.t [x,y,z]
 | _=>none
def lJ(rs:Array ResultVar)(post:E->Ab->Nat->Prop):Exit->Env->Ab->Nat->Prop
 | .ret,f,σ,nx|.normal,f,σ,nx=>∃x,iP rs f=some x/\post x σ nx
 | _,_,_,_=>False
theorem ZF{fn:Func}{V:View}{f:Env}{a:Act}{x:E}{w:World}(d:Ew V f a.tmps)(h:iP fn.results f=some x):∃v,(results fn a.tmps).run P w=.ok v w/\Br V x v:=by
 have key:∀l:List ResultVar,fn.results=l.toArray->iP l.toArray f=some x->∃v,(results fn a.tmps).run P w=.ok v w/\Br V x v:=by
  intro l e h;unfold iP at h;simp only at h;split at h
  ·injection h with h;subst h
   refine⟨.tuple #[],by simp[results,e,go_sem],⟨#[],rfl,rfl,λj x v b=>by simp at b⟩⟩
  ·rename_i t
   exact⟨_,by simp[results,e,go_sem],d t x h⟩
  ·rename_i t u
   simp only[pu,d7]at h;obtain⟨y,k,z,g,p,o,q,m,rfl⟩:=h;refine⟨.tuple #[a.tmps.getD t undef,a.tmps.getD u undef],by simp[results,e,go_sem],⟨_,rfl,rfl,?_⟩⟩;intro j x v b c
   match j with
   | 0=>simp at b c;subst b c;exact Gc o (by simpa using d t y k)
   | 1=>simp at b c;subst b c;exact Gc m (by simpa using d u z g)
   | j+2=>simp at b
  ·rename_i t u s
   simp only[pu,d7]at h;obtain⟨y,k,z,g,r,i,p,o,q,m,A,n,rfl⟩:=h;refine⟨.tuple #[a.tmps.getD t undef,a.tmps.getD u undef,a.tmps.getD s undef],by simp[results,e,go_sem],⟨_,rfl,rfl,?_⟩⟩;intro j x v b c
   match j with
   | 0=>simp at b c;subst b c;exact Gc o (by simpa using d t y k)
   | 1=>simp at b c;subst b c;exact Gc m (by simpa using d u z g)
   | 2=>simp at b c;subst b c;exact Gc n (by simpa using d s r i)
   | j+3=>simp at b
  ·cases h
 exact key fn.results.toList (by simp) (by simpa using h)
theorem Spec.of {g:FuncId} {fn:Func} {c:Code} {σ:Ab} {nx:Nat} {args:List E} {post:E->Ab->Nat->Prop} (q:P.funcs[g]?=some fn) (hb:fn.body=some c) (d:(fn.name == "runtime.NumGoroutine")=false)
 (j:args.length<=fn.ntmps) (h:∀Z:Ctx,Z.V.nx=nx->Ak P TB Z fn.ntmps c (lJ fn.results post) (look (Cq 0 args)) σ nx):Spec P TB g σ nx args post:=by
 refine⟨⟨fn,q,d,by rw[hb];rfl⟩,?_⟩;intro V vs S p ha;refine calls_of_wp q hb ?_
 have u:vs.size<=fn.ntmps:=by rw[ha.1];exact j
 have r:Cv TB (Fv V V σ S) fn.ntmps V (look (Cq 0 args)) σ nx { tmps:=vs++Array.replicate (fn.ntmps-vs.size) undef,defers:=[] } := by
  refine⟨?_,?_,by simp;omega,p.inv,p.nx,rfl⟩
  ·intro t e i
   obtain⟨_,b⟩:=Cj args 0 t e i
   have b:args[t]?=some e:=by simpa using b
   have f:t<vs.size:=by rw[ha.1];exact(ce.1 b).1
   have s:=ha.2 t e vs[t] b (pm f)
   simpa[pM f,f]using s
  ·intro t e i
   obtain⟨_,b⟩:=Cj args 0 t e i
   have b:args[t]?=some e:=by simpa using b
   have:=(ce.1 b).1;omega
 refine wp_mono (h (Fv V V σ S) p.nx V _ r) ?_;rintro e a' w' ⟨V',f',σ',rfl,k,a⟩
 cases e with
 | normal=>
  obtain⟨x,m,o⟩:=k;obtain⟨v,n,i⟩:=ZF (P:=P) (w:=V'.w) a.env m;exact⟨a.defers,v,n,V',v,x,σ',rfl,rfl,a.inv,i,o⟩
 | ret=>
  obtain⟨x,m,o⟩:=k;obtain⟨v,n,i⟩:=ZF (P:=P) (w:=V'.w) a.env m;exact⟨a.defers,v,n,V',v,x,σ',rfl,rfl,a.inv,i,o⟩
 | exit id=>exact k.elim
 | goto l=>exact k.elim
 | panic ch=>exact k.elim
 | outgrown=>exact k.elim
end
def Xo:TypeDesc->Bool
 | .struct _|.array _ _=>true
 | _=>false
def ko(P:Program)(t:TypeId):Option (Bool×Nat):=match P.underlying t,P.info? t with
 | some d,some i=>some (Xo d,i.size)
 | _,_=>none
def aT(P:Program)(s k:Nat):Option Nat:=match P.underlying s with
 | some (.struct fs)=>match fs[k]? with
  | some f=>match P.info? f.type with
   | some i=>bif Nat.beq i.size 0 then none else some f.offset
   | none=>none
  | none=>none
 | _=>none
def aV(P:Program)(s k:Nat):Option (Nat×Bool×Nat):=match P.underlying s with
 | some (.struct fs)=>match fs[k]? with
  | some f=>(ko P f.type).map λx=>(f.offset,x)
  | none=>none
 | _=>none
def jB(P:Program)(t:TypeId):Option (TypeId×Nat×Nat):=match P.underlying t with
 | some (.slice e)=>(P.info? e).map λi=>(e,i.size,i.bytes)
 | _=>none
def lQ(P:Program)(t:TypeId):Option (Nat×Nat):=match P.underlying t with
 | some (.array n e)=>(P.info? e).map λi=>(n,i.size)
 | _=>none
def cF(P:Program)(t:TypeId):Option (List Value):=(P.info? t).bind λi=>i.zero.map λz=>z.cells.toList
class D0 (P:Program) (t:TypeId) (ag:outParam Bool) (k:outParam Nat):Prop where
 out:ko P t=some (ag,k)
class SO (P:Program) (s k:Nat) (off:outParam Nat):Prop where
 out:aT P s k=some off
class OG (P:Program) (s k:Nat) (off:outParam Nat) (ag:outParam Bool) (n:outParam Nat):Prop where
 out:aV P s k=some (off,ag,n)
class CS (P:Program) (t:TypeId) (e:outParam TypeId) (k b:outParam Nat):Prop where
 out:jB P t=some (e,k,b)
class RF (P:Program) (t:TypeId) (n k:outParam Nat):Prop where
 out:lQ P t=some (n,k)
class BQ (P:Program) (t:TypeId) (z:outParam (List Value)):Prop where
 out:cF P t=some z
class Ee (P:Program) (t:TypeId):Prop where
 out:P.underlying t=some .string
class GK (P:Program) (t:TypeId) (k:outParam IntKind):Prop where
 out:P.underlying t=some (.int k)
theorem kr{P:Program}{t:TypeId}{ag:Bool}{k:Nat}(h:ko P t=some (ag,k)):∃d i,P.underlying t=some d/\Xo d=ag/\P.info? t=some i/\i.size=k:=by
 unfold ko at h;split at h
 ·rename_i d i a hi
  injection h with h;injection h with c b
  exact⟨d,i,a,c,hi,b⟩
 ·cases h
theorem BL{P:Program}{t:TypeId}{ag:Bool}{k:Nat}(h:ko P t=some (ag,k))(w:World):(isAgg t).run P w=.ok ag w/\(sizeOf t).run P w=.ok k w:=by
 obtain⟨d,i,e,c,b,a⟩:=kr h;constructor
 ·subst c
  cases d<;>simp[isAgg,run_underlying e,Xo,go_sem]
 ·simp[sizeOf,typeInfo,b,a,go_sem]
theorem Hk{P:Program}{t e:TypeId}{k b:Nat}(h:jB P t=some (e,k,b)):∃i,P.underlying t=some (.slice e)/\P.info? e=some i/\i.size=k/\i.bytes=b:=by
 unfold jB at h;split at h
 ·rename_i e' c
  simp only[d7]at h;obtain⟨i,hi,h⟩:=h
  injection h with f a;injection a with a d
  subst f a d;exact⟨i,c,hi,rfl,rfl⟩
 ·cases h
theorem WW{P:Program}{t:TypeId}{n k:Nat}(h:lQ P t=some (n,k)):∃e i,P.underlying t=some (.array n e)/\P.info? e=some i/\i.size=k:=by
 unfold lQ at h;split at h
 ·rename_i n' e' a
  simp only[d7]at h;obtain⟨i,hi,h⟩:=h
  injection h with c b
  subst c b;exact⟨e',i,a,hi,rfl⟩
 ·cases h
theorem BJ(b o n:Nat):(⟨b,o,none⟩:Addr).add n=⟨b,o+n,none⟩:=by
 unfold Addr.add;split<;>simp_all
section
variable {P:Program}{TB:BR}{Z:Ctx}{d:Option Tmp}{ty:TypeId}{pos:String}{af:Array Edge}{g:Option (Nat×Bool)}{f:Env}{σ:Ab}{nx:Nat}
def NV(V:View)(o:Oper)(f:Env)(ρ:Operand->Value):Prop:=∀x e,x∈o.op.operands->ev f x=some e->Br V e (ρ x)
theorem Jl.Hw{V:View}{o:Oper}{f:Env}{a:Act}(h:Jl V o f a):NV V o f a.eval:=λ_ _ b c=>Am.j9 h b c
theorem NV.get{V:View}{o:Oper}{f:Env}{ρ:Operand->Value}(h:NV V o f ρ){x:Operand}(a:x∈o.op.operands){e:E}(b:ev f x=some e):Br V e (ρ x):=h x e a b
theorem AR{o:Oper}{x:E}(h:∀V ρ,NV V o f ρ->Inv TB Z V σ->∃v,(execOp ρ o).run P V.w=.ok (.value v) V.w/\Br V x v):A9 P TB Z o f σ nx x:=by
 intro V a g b e;obtain⟨v,c,d⟩:=h V a.eval g.Hw b;unfold Oper.wp;rw[c];exact⟨V,v,rfl,rfl,Ext.refl V,b,e,d⟩
theorem kU{x:Operand}{e:E}(a:ev f x=some e):A9 P TB Z ⟨d,.move x,ty,pos,af,g⟩ f σ nx e:=
 AR λV ρ b _=>⟨ρ x,by simp[execOp,go_sem],b.get (by simp[Op.operands]) a⟩
theorem CK{x:Operand}{e:E}(a:ev f x=some e):A9 P TB Z ⟨d,.assign x,ty,pos,af,g⟩ f σ nx e:=
 AR λV ρ b _=>⟨ρ x,by simp[execOp,go_sem],b.get (by simp[Op.operands]) a⟩
theorem iN{c x y:Operand}{e:E}(h:ev f c=some (.o (.d (.v (.bool true)))))(b:ev f x=some e):A9 P TB Z ⟨d,.pick c x y,ty,pos,af,g⟩ f σ nx e:=
 AR λV ρ a _=>⟨ρ x,by
  have i:ρ c=.bool true:=AJ.val (a.get (by simp[Op.operands]) h)
  simp[execOp,i,asBool,go_sem],a.get (by simp[Op.operands]) b⟩
theorem iM{c x y:Operand}{e:E}(h:ev f c=some (.o (.d (.v (.bool false)))))(b:ev f y=some e):A9 P TB Z ⟨d,.pick c x y,ty,pos,af,g⟩ f σ nx e:=
 AR λV ρ a _=>⟨ρ y,by
  have i:ρ c=.bool false:=AJ.val (a.get (by simp[Op.operands]) h)
  simp[execOp,i,asBool,go_sem],a.get (by simp[Op.operands]) b⟩
abbrev eI(k:IntKind)(n:Int):E:=.o (.d (.v (.int k n)))
abbrev eB(b:Bool):E:=.o (.d (.v (.bool b)))
abbrev eS(s:ByteArray):E:=.o (.d (.v (.string s)))
theorem BP{op:BinOp}{t yt:TypeId}{x y:Operand}{vx vy v:Value}(c:ev f x=some (.o (.d (.v vx))))(b:ev f y=some (.o (.d (.v vy))))(e:Qq v=true)
 (h:∀w,((do eqGuard op t x y vx vy;binOp op t vx vy:Sem Value)).run P w=.ok v w):A9 P TB Z ⟨d,.binOp op t x y yt,ty,pos,af,g⟩ f σ nx (.o (.d (.v v))):=
 AR λV ρ a _=>⟨v,by
  have j:ρ x=vx:=AJ.val (a.get (by simp[Op.operands]) c);have i:ρ y=vy:=AJ.val (a.get (by simp[Op.operands]) b);have:=h V.w;simp only[execOp,j,i,pp]at this |-
  rw[this];rfl,.d (.v e)⟩
theorem mB{t yt:TypeId}{x y:Operand}{k:IntKind}{m n z:Int}(c:ev f x=some (eI k m))(b:ev f y=some (eI k n))(a:k.wrap (m+n)=z) :
 A9 P TB Z ⟨d,.binOp .add t x y yt,ty,pos,af,g⟩ f σ nx (eI k z):=BP c b rfl λw=>by subst a;simp[eqGuard,binOp,Op.intArith,go_sem]
theorem mY{t yt:TypeId}{x y:Operand}{k:IntKind}{m n z:Int}(c:ev f x=some (eI k m))(b:ev f y=some (eI k n))(a:k.wrap (m-n)=z) :
 A9 P TB Z ⟨d,.binOp .sub t x y yt,ty,pos,af,g⟩ f σ nx (eI k z):=BP c b rfl λw=>by subst a;simp[eqGuard,binOp,Op.intArith,go_sem]
theorem jA{t yt:TypeId}{x y:Operand}{k:IntKind}{m n z:Int}(c:ev f x=some (eI k m))(b:ev f y=some (eI k n))(a:k.wrap (m*n)=z) :
 A9 P TB Z ⟨d,.binOp .mul t x y yt,ty,pos,af,g⟩ f σ nx (eI k z):=BP c b rfl λw=>by subst a;simp[eqGuard,binOp,Op.intArith,go_sem]
theorem mU{t yt:TypeId}{x y:Operand}{k:IntKind}{m n z:Int}(c:ev f x=some (eI k m))(b:ev f y=some (eI k n))(e:n≠0)(a:k.wrap (m.tdiv n)=z) :
 A9 P TB Z ⟨d,.binOp .quo t x y yt,ty,pos,af,g⟩ f σ nx (eI k z):=BP c b rfl λw=>by subst a;simp[eqGuard,binOp,Op.intDiv,e,go_sem]
theorem mV{t yt:TypeId}{x y:Operand}{k:IntKind}{m n z:Int}(c:ev f x=some (eI k m))(b:ev f y=some (eI k n))(e:n≠0)(a:m.tmod n=z) :
 A9 P TB Z ⟨d,.binOp .rem t x y yt,ty,pos,af,g⟩ f σ nx (eI k z):=BP c b rfl λw=>by subst a;simp[eqGuard,binOp,Op.intDiv,e,go_sem]
theorem fp{t yt:TypeId}{x y:Operand}{k k':IntKind}{m n z:Int}(c:ev f x=some (eI k m))(b:ev f y=some (eI k' n))(e:0<=n)(a:k.wrap (m*2 ^ (min n.toNat k.bits))=z) :
 A9 P TB Z ⟨d,.binOp .shl t x y yt,ty,pos,af,g⟩ f σ nx (eI k z):=BP c b rfl λw=>by
  have:¬n<0:=by omega
  subst a;simp[eqGuard,binOp,Op.shift,this,go_sem]
theorem mW{t yt:TypeId}{x y:Operand}{k k':IntKind}{m n z:Int}(c:ev f x=some (eI k m))(b:ev f y=some (eI k' n))(e:0<=n)(a:m.fdiv (2 ^ (min n.toNat k.bits))=z) :
 A9 P TB Z ⟨d,.binOp .shr t x y yt,ty,pos,af,g⟩ f σ nx (eI k z):=BP c b rfl λw=>by
  have:¬n<0:=by omega
  subst a;simp[eqGuard,binOp,Op.shift,this,go_sem]
def Gn(k:IntKind)(m n:Int):Int:=k.wrap ((BitVec.ofInt k.bits m &&& BitVec.ofInt k.bits n).toNat)
def GY(k:IntKind)(m n:Int):Int:=k.wrap ((BitVec.ofInt k.bits m ||| BitVec.ofInt k.bits n).toNat)
def Xl(k:IntKind)(m n:Int):Int:=k.wrap ((BitVec.ofInt k.bits m ^^^ BitVec.ofInt k.bits n).toNat)
def Hz(k:IntKind)(m n:Int):Int:=k.wrap ((BitVec.ofInt k.bits m &&& ~~~ BitVec.ofInt k.bits n).toNat)
theorem jz{t yt:TypeId}{x y:Operand}{k:IntKind}{m n z:Int}(c:ev f x=some (eI k m))(b:ev f y=some (eI k n))(a:Gn k m n=z) :
 A9 P TB Z ⟨d,.binOp .and t x y yt,ty,pos,af,g⟩ f σ nx (eI k z):=BP c b rfl λw=>by subst a;simp[eqGuard,binOp,Op.intBits,Gn,go_sem]
theorem kX{t yt:TypeId}{x y:Operand}{k:IntKind}{m n z:Int}(c:ev f x=some (eI k m))(b:ev f y=some (eI k n))(a:GY k m n=z) :
 A9 P TB Z ⟨d,.binOp .or t x y yt,ty,pos,af,g⟩ f σ nx (eI k z):=BP c b rfl λw=>by subst a;simp[eqGuard,binOp,Op.intBits,GY,go_sem]
theorem mZ{t yt:TypeId}{x y:Operand}{k:IntKind}{m n z:Int}(c:ev f x=some (eI k m))(b:ev f y=some (eI k n))(a:Xl k m n=z) :
 A9 P TB Z ⟨d,.binOp .xor t x y yt,ty,pos,af,g⟩ f σ nx (eI k z):=BP c b rfl λw=>by subst a;simp[eqGuard,binOp,Op.intBits,Xl,go_sem]
theorem eU{t yt:TypeId}{x y:Operand}{k:IntKind}{m n z:Int}(c:ev f x=some (eI k m))(b:ev f y=some (eI k n))(a:Hz k m n=z) :
 A9 P TB Z ⟨d,.binOp .andNot t x y yt,ty,pos,af,g⟩ f σ nx (eI k z):=BP c b rfl λw=>by subst a;simp[eqGuard,binOp,Op.intBits,Hz,go_sem]
theorem mO{t yt:TypeId}{x y:Operand}{k:IntKind}{m n:Int}(b:ev f x=some (eI k m))(a:ev f y=some (eI k n)) :
 A9 P TB Z ⟨d,.binOp .lss t x y yt,ty,pos,af,g⟩ f σ nx (eB (decide (m<n))):=BP b a rfl λw=>by simp[eqGuard,binOp,Op.intCmp,go_sem]
theorem mN{t yt:TypeId}{x y:Operand}{k:IntKind}{m n:Int}(b:ev f x=some (eI k m))(a:ev f y=some (eI k n)) :
 A9 P TB Z ⟨d,.binOp .leq t x y yt,ty,pos,af,g⟩ f σ nx (eB (decide (m<=n))):=BP b a rfl λw=>by simp[eqGuard,binOp,Op.intCmp,go_sem]
theorem mL{t yt:TypeId}{x y:Operand}{k:IntKind}{m n:Int}(b:ev f x=some (eI k m))(a:ev f y=some (eI k n)) :
 A9 P TB Z ⟨d,.binOp .gtr t x y yt,ty,pos,af,g⟩ f σ nx (eB (decide (n<m))):=BP b a rfl λw=>by simp[eqGuard,binOp,Op.intCmp,go_sem]
theorem mK{t yt:TypeId}{x y:Operand}{k:IntKind}{m n:Int}(b:ev f x=some (eI k m))(a:ev f y=some (eI k n)) :
 A9 P TB Z ⟨d,.binOp .geq t x y yt,ty,pos,af,g⟩ f σ nx (eB (decide (n<=m))):=BP b a rfl λw=>by simp[eqGuard,binOp,Op.intCmp,go_sem]
theorem mI{t yt:TypeId}{x y:Operand}{k:IntKind}{m n:Int}(b:ev f x=some (eI k m))(a:ev f y=some (eI k n)) :
 A9 P TB Z ⟨d,.binOp .eql t x y yt,ty,pos,af,g⟩ f σ nx (eB (decide (m=n))):=BP b a rfl λw=>by simp[eqGuard,binOp,Op.intCmp,go_sem];rfl
theorem mR{t yt:TypeId}{x y:Operand}{k:IntKind}{m n:Int}(b:ev f x=some (eI k m))(a:ev f y=some (eI k n)) :
 A9 P TB Z ⟨d,.binOp .neq t x y yt,ty,pos,af,g⟩ f σ nx (eB (decide (m≠n))):=BP b a rfl λw=>by
  simp[eqGuard,binOp,Op.intCmp,go_sem];by_cases h:m=n<;>simp[h]
theorem mS{t:TypeId}{x:Operand}{b:Bool}(a:ev f x=some (eB b)):A9 P TB Z ⟨d,.unOp .not t x,ty,pos,af,g⟩ f σ nx (eB (!b)):=
 AR λV ρ e _=>⟨.bool (!b),by
  have c:ρ x=.bool b:=AJ.val (e.get (by simp[Op.operands]) a)
  simp[execOp,c,Op.unary,go_sem],.d (.v rfl)⟩
theorem VL{t:TypeId}{x:Operand}{k:IntKind}{m z:Int}(b:ev f x=some (eI k m))(a:k.wrap (-m)=z):A9 P TB Z ⟨d,.unOp .neg t x,ty,pos,af,g⟩ f σ nx (eI k z):=
 AR λV ρ e _=>⟨.int k z,by
  have c:ρ x=.int k m:=AJ.val (e.get (by simp[Op.operands]) b);subst a
  simp[execOp,c,Op.unary,go_sem],.d (.v rfl)⟩
theorem TT{s t:TypeId}{x:Operand}{k k':IntKind}{m z:Int}[c:GK P s k][ht:GK P t k'](b:ev f x=some (eI k m))(a:k'.wrap m=z):A9 P TB Z ⟨d,.convert s t x,ty,pos,af,g⟩ f σ nx (eI k' z):=
 AR λV ρ h _=>⟨.int k' z,by
  have e:ρ x=.int k m:=AJ.val (h.get (by simp[Op.operands]) b);subst a
  simp[execOp,e,convert,run_underlying c.out,run_underlying ht.out,Conv.intToInt,go_sem],.d (.v rfl)⟩
theorem bM{s k off:Nat}{x:Operand}{cs:List D}[u:SO P s k off](q:ev f x=some (.o (.ip cs))):A9 P TB Z ⟨d,.fieldAddr s x k,ty,pos,af,g⟩ f σ nx (.o (.ip (cs.drop off))):=
 AR λV ρ z _=>by
  have h:=z.get (by simp[Op.operands]) q;generalize r:ρ x=v at h;obtain⟨h⟩:=h
  cases h with
  | @p _ b o vs hb y w=>
   have a:=u.out;unfold aT at a;split at a
   ·rename_i fs t
    split at a
    ·rename_i fl n
     split at a
     ·rename_i i hi
      cases c:Nat.beq i.size 0
      ·rw[c]at a
       simp only[cond_false,Option.some.injEq]at a;subst a
       have l:i.size≠0:=λe=>by rw[e]at c;cases c
       refine⟨.pointer (some ⟨b,o+fl.offset,none⟩),?_,.ip (vs:=λj=>vs (fl.offset+j)) hb (λj d m=>?_) (λj d m=>?_)⟩
       ·simp[execOp,r,Instr.fieldAt,run_underlying t,n,Instr.sureAddr,fieldPlace,sizeOf,typeInfo,hi,l,BJ,go_sem]
       ·rw[pV];exact y _ d (by simpa using m)
       ·exact w _ d (by simpa using m)
      ·rw[c]at a;cases a
     ·cases a
    ·cases a
   ·cases a
theorem VK{t:TypeId}{x:Operand}{c:D}{cs:List D}{n:Nat}[j:D0 P t false n](h:ev f x=some (.o (.ip (c::cs)))):A9 P TB Z ⟨d,.load t x,ty,pos,af,g⟩ f σ nx (.o (.d c)):=
 AR λV ρ m _=>by
  have a:=m.get (by simp[Op.operands]) h;generalize i:ρ x=v at a;obtain⟨a⟩:=a
  cases a with
  | @p _ b o vs hb l k=>
   have e:=l 0 c rfl;refine⟨vs 0,?_,.d (k 0 c rfl)⟩;simp only[r6]at e;simp[execOp,i,Instr.loadAt,Instr.sureAddr,loadVar,(BL j.out V.w).1,e,go_sem]
theorem bO{t:TypeId}{x:Operand}{cs:List D}{n:Nat}[m:D0 P t true n](q:ev f x=some (.o (.ip cs)))(A:n<=cs.length):A9 P TB Z ⟨d,.load t x,ty,pos,af,g⟩ f σ nx (.a ((cs.take n).map .d)):=
 AR λV ρ z _=>by
  have h:=z.get (by simp[Op.operands]) q;generalize r:ρ x=v at h;obtain⟨h⟩:=h
  cases h with
  | @p _ b o vs hb u s=>
   refine⟨.agg ((List.range n).map vs).toArray,?_,((List.range n).map vs).toArray,rfl,by simp;omega,?_⟩
   ·have:(loadCells ⟨b,o,none⟩ n).run P V.w=.ok ((List.range n).map vs).toArray V.w:=run_loadCells V.w _ n vs λj l=>by
     rw[BJ];exact u j cs[j] (d6 (by omega))
    unfold loadCells at this;simp[execOp,r,Instr.loadAt,Instr.sureAddr,loadVar,(BL m.out V.w).1,(BL m.out V.w).2,this,go_sem]
   ·intro j c v l i
    simp only[i8,d7]at l;obtain⟨y,e,rfl⟩:=l;rw[pP]at e;split at e
    ·rename_i k
     have:vs j=v:=by simpa[k]using i
     subst this;exact .d (s j y e)
    ·cases e
theorem fb{t e:TypeId}{x y:Operand}{rows:List (List D)}{row:List D}{n:Int}{k b:Nat}{ik:IntKind}[A:CS P t e k b](r:ev f x=some (.o (.d (.l rows))))(q:ev f y=some (eI ik n))
 (J:0<=n) (a:rows[n.toNat]?=some row) (hk:row.length=k):A9 P TB Z ⟨d,.indexAddr t x y,ty,pos,af,g⟩ f σ nx (.o (.ip row)):=
 AR λV ρ p _=>by
  have c:=p.get (by simp[Op.operands]) r;have I:ρ y=.int ik n:=AJ.val (p.get (by simp[Op.operands]) q);generalize s:ρ x=v at c;obtain⟨i,u,hi,w,_⟩:=Hk A.out
  cases c with
  | d c=>
   cases c with
   | nil=>simp at a
   | e=>simp at a
   | @l _ b o k' cap vs hb K H G F B=>
    have z:=(ce.1 a).1
    have h:k'=k:=by rw[<-G _ _ a,hk]
    subst h;refine⟨.pointer (some ⟨b,o+n.toNat*k',none⟩),?_,.ip (vs:=vs n.toNat) hb (λj d m=>F _ _ j d a m) (λj d m=>B _ _ j d a m)⟩
    have:n<(rows.length:Int):=by omega
    simp[execOp,s,I,Instr.indexAt,asIntOf,run_underlying u,J,this,sizeOf,typeInfo,hi,w,BJ,go_sem]
theorem bN{t:TypeId}{x y:Operand}{cs:List D}{n:Int}{len k:Nat}{ik:IntKind}[w:RF P t len k](m:ev f x=some (.o (.ip cs)))(l:ev f y=some (eI ik n))
 (F:0<=n) (u:n<len):A9 P TB Z ⟨d,.indexAddr t x y,ty,pos,af,g⟩ f σ nx (.o (.ip (cs.drop (n.toNat*k)))):=
 AR λV ρ h _=>by
  have a:=h.get (by simp[Op.operands]) m;have B:ρ y=.int ik n:=AJ.val (h.get (by simp[Op.operands]) l);generalize q:ρ x=v at a;obtain⟨e,i,r,hi,s⟩:=WW w.out;obtain⟨a⟩:=a
  cases a with
  | @p _ b o vs hb A z=>
   refine⟨.pointer (some ⟨b,o+n.toNat*k,none⟩),?_,.ip (vs:=λj=>vs (n.toNat*k+j)) hb (λj d c=>?_) (λj d c=>?_)⟩
   ·simp[execOp,q,B,Instr.indexAt,asIntOf,run_underlying r,Instr.sureAddr,F,u,sizeOf,typeInfo,hi,s,BJ,go_sem]
   ·rw[pV];exact A _ d (by simpa using c)
   ·exact z _ d (by simpa using c)
theorem fe{t:TypeId}{x y:Operand}{s:ByteArray}{n:Int}{ik:IntKind}[h:Ee P t](e:ev f x=some (eS s))(c:ev f y=some (eI ik n))
 (k:0<=n) (a:n.toNat<s.size):A9 P TB Z ⟨d,.index t x y,ty,pos,af,g⟩ f σ nx (eI .u8 ((s[n.toNat]'a).toNat:Int)):=
 AR λV ρ b _=>by
  have j:ρ x=.string s:=AJ.val (b.get (by simp[Op.operands]) e);have i:ρ y=.int ik n:=AJ.val (b.get (by simp[Op.operands]) c);refine⟨.int .u8 ((s[n.toNat]'a).toNat:Int),?_,.d (.v rfl)⟩;simp[execOp,j,i,Instr.index,asIntOf,run_underlying h.out,k,a,go_sem]
theorem kS{t:TypeId}{x:Operand}{s:ByteArray}[b:Ee P t](a:ev f x=some (eS s)):A9 P TB Z ⟨d,.call ⟨.builtin .len,#[x],#[t]⟩,ty,pos,af,g⟩ f σ nx (eI .i64 s.size):=
 AR λV ρ e _=>by
  have c:ρ x=.string s:=AJ.val (e.get (by simp[Op.operands,Call.operands]) a);refine⟨.int .i64 s.size,?_,.d (.v rfl)⟩;simp[execOp,resolve,invoke,builtin,c,Builtin.len_,run_underlying b.out,goInt,go_sem]
theorem fg{t e:TypeId}{x:Operand}{rows:List (List D)}{k b:Nat}[m:CS P t e k b](c:ev f x=some (.o (.d (.l rows)))):A9 P TB Z ⟨d,.call ⟨.builtin .len,#[x],#[t]⟩,ty,pos,af,g⟩ f σ nx (eI .i64 rows.length):=
 AR λV ρ n _=>by
  have a:=n.get (by simp[Op.operands,Call.operands]) c;obtain⟨i,j,hi,p,_⟩:=Hk m.out;generalize h:ρ x=v at a;refine⟨.int .i64 rows.length,?_,.d (.v rfl)⟩
  cases a with
  | d a=>cases a<;>simp[execOp,resolve,invoke,builtin,h,Builtin.len_,run_underlying j,goInt,go_sem]
theorem kQ{t e:TypeId}{x:Operand}{id k' off len k b:Nat}[l:CS P t e k b](c:ev f x=some (.o (.arr id k' off len))):A9 P TB Z ⟨d,.call ⟨.builtin .len,#[x],#[t]⟩,ty,pos,af,g⟩ f σ nx (eI .i64 len):=
 AR λV ρ m _=>by
  have a:=m.get (by simp[Op.operands,Call.operands]) c;obtain⟨i,j,hi,n,_⟩:=Hk l.out;generalize h:ρ x=v at a;refine⟨.int .i64 len,?_,.d (.v rfl)⟩;cases a<;>simp[execOp,resolve,invoke,builtin,h,Builtin.len_,run_underlying j,goInt,go_sem]
theorem bL{x:Operand}{k:Nat}{xs:List (Bool×List C)}{e:E}(l:ev f x=some (.t xs))(hk:(xs[k]?).bind (λy=>match y with|(false,[c])=>some (E.o c)|(true,cs)=>some (E.a cs)|_=>none)=some e) :
 A9 P TB Z ⟨d,.extract x k,ty,pos,af,g⟩ f σ nx e:=
 AR λV ρ r _=>by
  obtain⟨vs,m,n,q⟩:=r.get (by simp[Op.operands]) l
  cases i:xs[k]? with
  | none=>rw[i]at hk;cases hk
  | some y=>
   rw[i]at hk
   have h:k<vs.size:=by rw[n];exact(ce.1 i).1
   refine⟨vs[k],by simp[execOp,m,Instr.extract,h,go_sem],?_⟩;have j:=q k y vs[k] i (pm h);obtain⟨b,cs⟩:=y;cases b
   ·obtain⟨c,rfl,p⟩:=j
    simp only[rL,Option.some.injEq]at hk;subst hk;exact p
   ·simp only[rL,Option.some.injEq]at hk
    subst hk;exact j
theorem iH{t:TypeId}{x:Operand}{k off n:Nat}{cs:List C}{c:C}[r:OG P t k off false n](l:ev f x=some (.a cs))(j:cs[off]?=some c):A9 P TB Z ⟨d,.field t x k,ty,pos,af,g⟩ f σ nx (.o c):=
 AR λV ρ u _=>by
  obtain⟨vs,m,q,s⟩:=u.get (by simp[Op.operands]) l;have b:=r.out;unfold aV at b;split at b
  ·rename_i fs p
   split at b
   ·rename_i fl i
    simp only[d7,Prod.mk.injEq]at b;obtain⟨x',h,rfl,rfl⟩:=b
    have e:fl.offset<vs.size:=by rw[q];exact(ce.1 j).1
    refine⟨vs[fl.offset],?_,s _ c _ j (pm e)⟩;simp[execOp,m,Instr.field,run_underlying p,i,asAgg,part,(BL h V.w).1,e,go_sem]
   ·cases b
  ·cases b
theorem eX{t:TypeId}{x:Operand}{k off n:Nat}{cs:List C}[r:OG P t k off true n](m:ev f x=some (.a cs))(z:off+n<=cs.length):A9 P TB Z ⟨d,.field t x k,ty,pos,af,g⟩ f σ nx (.a ((cs.drop off).take n)):=
 AR λV ρ u _=>by
  obtain⟨vs,o,y,s⟩:=u.get (by simp[Op.operands]) m;have e:=r.out;unfold aV at e;split at e
  ·rename_i fs p
   split at e
   ·rename_i fl l
    simp only[d7,Prod.mk.injEq]at e;obtain⟨x',h,rfl,rfl⟩:=e;refine⟨.agg (vs.extract fl.offset (fl.offset+n)),?_,_,rfl,by simp;omega,?_⟩
    ·simp[execOp,o,Instr.field,run_underlying p,l,asAgg,part,(BL h V.w).1,(BL h V.w).2,go_sem]
    ·intro j c v i b
     rw[pP]at i;split at i
     ·rename_i q
      rw[pQ]at i;refine s (fl.offset+j) c v i ?_;rw[sJ]at b;split at b
      ·exact b
      ·cases b
     ·cases i
   ·cases e
  ·cases e
end
def Zo(l:List Nat)(i:Nat):Nat:=match l with
 | []=>0
 | k::r=>bif Nat.beq k i then 1 else Zo r i
structure Fl where
 c:Nat->Nat
 p:Nat->Nat
instance:CoeFun Fl λ_=>Nat->Nat:=⟨λfl i=>fl.c (fl.p i)⟩
def dF:Fl:=⟨λ_=>1,λi=>i⟩
def Gk(l:List Nat):Fl:=⟨Zo l,λi=>i⟩
def mark(b a:List Nat)(i:Nat):Nat:=bif Nat.beq (Zo b i) 1 then 1 else bif Nat.beq (Zo a i) 1 then 2 else 0
def pg(b a:List Nat):Fl:=⟨mark b a,λi=>i⟩
def cH:List Nat->Nat->Nat
 | [],i=>i
 | k::_,0=>k
 | _::r,i+1=>cH r i
def oP(q b a:List Nat):Fl:=⟨mark b a,cH q⟩
def Gm:List (Nat×Nat)->Nat->Nat
 | [],_=>2
 | (k,c)::r,i=>bif Nat.beq k i then c else Gm r i
def Ju(l:List (Nat×Nat)):Fl:=⟨Gm l,λi=>i⟩
def Av(fl:Fl):Nat->Nat->List (Nat×Nat)
 | _,0=>[]
 | i,n+1=>(fl.p i,fl i)::Av fl (i+1) n
theorem Oi:∀(n i:Nat),(Av dF i n).map (·.1)=List.range' i n
 | 0,_=>rfl
 | n+1,i=>by simp[Av,List.range'_succ,Oi n (i+1)];rfl
theorem JF(fl:Fl):∀(n i:Nat),(Av fl i n).length=n
 | 0,_=>rfl
 | n+1,i=>by simp[Av,JF fl n (i+1)]
def direct(ops:Array Oper)(i j:Nat):Bool:=((ops[j]?).map (·.after.any λe=>Region.binds .any e && Nat.beq e.on i)).getD false
theorem Ti{ops:Array Oper}{i j n:Nat}(h:direct ops i j=true):waits ops i (n+1) j=true:=by
 unfold direct at h;unfold waits
 cases a:ops[j]? with
 | none=>rw[a]at h;cases h
 | some o=>
  rw[a]at h;simp only[qT,ro]at h |-;rw[sD]at h |-;obtain⟨k,hk,h⟩:=h;simp only[d4]at h;exact⟨k,hk,by simp[h.1,h.2]⟩
def eJ(ops:Array Oper)(i c:Nat)(r:List (Nat×Nat)):Bool:=
 r.all λ(j,cj)=>(!Fe c && (match ops[i]?,ops[j]? with|some x,some y=>x.apart ops y|_,_=>false) && Pr c cj) || (direct ops i j || waits ops i ops.size j)
def Ny(ops:Array Oper):List (Nat×Nat)->Bool
 | []=>true
 | (i,c)::r=>eJ ops i c r && Ny ops r
theorem eK{ops:Array Oper}{i c:Nat}{r:List (Nat×Nat)}(h:eJ ops i c r=true):TJ ops i c r=true:=by
 unfold eJ at h;unfold TJ;rw[gc]at h |-;intro x b;have h:=h x b;rw[pK]at h |-
 rcases h with h|h
 ·exact .inr h
 ·rw [pK]at h
  rcases h with h|h
  ·refine .inl ?_
   have a:∃n,ops.size=n+1:=by
    cases e:ops.size with
    | zero=>
     unfold direct at h;rw[Array.getElem?_eq_none (by omega)]at h;cases h
    | succ n=>exact⟨n,rfl⟩
   obtain⟨n,d⟩:=a;rw[d];exact Ti h
  ·exact .inl h
theorem Sp{ops:Array Oper}:∀ {r:List (Nat×Nat)},Ny ops r=true->Em ops r=true
 | [],_=>rfl
 | (i,c)::r,h=>by
  simp only[Ny,d4]at h;simp only[Em,d4];exact⟨eK h.1,Sp h.2⟩
theorem EM(L:List (Nat×E))(d:Nat)(x:E):BY (look L) (some d) x=look ((d,x)::L):=by
 funext t;rw[AD];simp only[BY];by_cases h:t=d
 ·subst h;simp
 ·rw[if_neg h,if_neg (λe=>h e.symm)]
section
variable {P:Program}{TB:BR}{Z:Ctx}{N:Nat}{ops:Array Oper}{fl:Fl}{i n:Nat}{L:List (Nat×E)}{σ:Ab}{nx:Nat}{K:Env->Ab->Nat->Prop}{Q:Exit->Env->Ab->Nat->Prop}
theorem oW{id:Nat}{f:Env}(a:Hv N ops=true)(h:Lex P TB Z ops (Av dF 0 ops.size) (λf σ nx=>Q .normal f σ nx) f σ nx):Ak P TB Z N (.region id ops false) Q f σ nx:=
 Ak.region _ a (by rw[Oi,List.range_eq_range']) h
theorem m8{id:Nat}{f:Env}(fl:Fl)(b:P.follows .mixedOrders=true)(c:Hv N ops=true)(a:(Bx ops (Av fl 0 ops.size) (Array.replicate ops.size false) && Ny ops (Av fl 0 ops.size))=true)
 (h:Lex P TB Z ops (Av fl 0 ops.size) (λf σ nx=>Q .normal f σ nx) f σ nx):Ak P TB Z N (.region id ops true) Q f σ nx:=
 Ak.iO _ b c (JF _ _ _) (by rw[d4]at a |-;exact⟨a.1,Sp a.2⟩) h
theorem Aa{f:Env}(h:K f σ nx):Lex P TB Z ops (Av fl i 0) K f σ nx:=h
theorem kN{c:Nat}{r:List (Nat×Nat)}{o:Oper}{x:E}{f:Env}(e:ops[i]?=some o)(d:BG ops o f=some true)(a:∀σ nx,A9 P TB Z o f σ nx x)(h:Lex P TB Z ops r K (BY f o.dst x) σ nx):Lex P TB Z ops ((i,c)::r) K f σ nx:=by
 refine⟨o,e,?_⟩
 show HN P TB Z ops c o (Lex P TB Z ops r K) f σ nx
 cases b:Fe c
 ·rw [EA b]
  refine⟨x,.inr ⟨d,?_⟩,h⟩;unfold QC;cases Nat.ble 10 c
  ·cases Nat.beq c 2
   ·exact a σ nx
   ·exact a
  ·exact λσ nx _=>a σ nx
 ·rw[Ha b]
  exact .inr ⟨d,(a σ nx).nL _ _ _ ⟨λ_ _ _=>rfl,h⟩⟩
theorem kO{c:Nat}{r:List (Nat×Nat)}{o:Oper}{x:E}{f:Env}(e:ops[i]?=some o)(d:BG ops o f=some true)(a:SY c=true)(b:A9 P TB Z o f σ nx x)(h:Lex P TB Z ops r K (BY f o.dst x) σ nx):Lex P TB Z ops ((i,c)::r) K f σ nx:=by
 refine⟨o,e,?_⟩;unfold SY at a;rw[pK]at a
 rcases a with a|a
 ·have:=i7 a
  subst this;exact .inr ⟨d,x,b,h⟩
 ·have:=i7 a
  subst this;exact .inr ⟨d,b.nL _ _ _ h⟩
theorem eP{c:Nat}{r:List (Nat×Nat)}{o:Oper}{f:Env}(d:ops[i]?=some o)(b:BG ops o f=some false)(h:Lex P TB Z ops r K (BY f o.dst (.t [])) σ nx):Lex P TB Z ops ((i,c)::r) K f σ nx:=by
 refine⟨o,d,?_⟩
 show HN P TB Z ops c o (Lex P TB Z ops r K) f σ nx
 cases a:Fe c
 ·rw[EA a];exact⟨_,.inl ⟨b,rfl⟩,h⟩
 ·rw[Ha a];exact .inl ⟨b,h⟩
theorem VH{r:List (Nat×Nat)}{o:Oper}{f:Env}(a:ops[i]?=some o)(b:BG ops o f=some true)(h:CY P TB Z o f σ nx (λx σ' nx'=>Lex P TB Z ops r K (BY f o.dst x) σ' nx')):Lex P TB Z ops ((i,1)::r) K f σ nx:=by
 refine⟨o,a,?_⟩;exact .inr ⟨b,h⟩
theorem mA{c:Nat}{r:List (Nat×Nat)}{o:Oper}{x:E}{f:Env}(d:ops[i]?=some o)(e:BG ops o f=some true)(a:Nat.ble 10 c=true/\Nat.ble 1000 c=false)(b:∀σ' nx',look σ' (c-10)=look σ (c-10)->A9 P TB Z o f σ' nx' x)(h:Lex P TB Z ops r K (BY f o.dst x) σ nx):Lex P TB Z ops ((i,c)::r) K f σ nx:=by
 refine⟨o,d,?_⟩;rw[a.1];refine .inr ⟨e,?_⟩;rw[a.2];exact⟨x,b,h⟩
theorem Zu{c:Nat}{r:List (Nat×Nat)}{o:Oper}{f:Env}(b:ops[i]?=some o)(d:BG ops o f=some true)(a:Nat.ble 10 c=true/\Nat.ble 1000 c=true)(h:CY P TB Z o f σ nx (λx σ' nx'=>Kept (c-1000) σ σ'/\Lex P TB Z ops r K (BY f o.dst x) σ' nx')):Lex P TB Z ops ((i,c)::r) K f σ nx:=by
 refine⟨o,b,?_⟩;rw[a.1];refine .inr ⟨d,?_⟩;rw[a.2];exact h
def PZ:List Oper->Nat->Option Oper
 | [],_=>none
 | o::_,0=>some o
 | _::r,n+1=>PZ r n
theorem P0:∀(l:List Oper) (i:Nat),PZ l i=l[i]?
 | [],_=>by simp[PZ]
 | o::_,0=>by simp[PZ]
 | _::r,n+1=>by simp[PZ,P0 r n]
def BV(P:Program)(TB:BR)(Z:Ctx)(ops:Array Oper)(o:Oper)(fl:Fl)(i n:Nat)(K:Env->Ab->Nat->Prop)(L:List (Nat×E))(σ:Ab)(nx:Nat):Prop:=
 ops[fl.p i]?=some o->Lex P TB Z ops (Av fl i (n+1)) K (look L) σ nx
theorem Af{o:Oper}(a:PZ ops.toList (fl.p i)=some o)(h:BV P TB Z ops o fl i n K L σ nx):Lex P TB Z ops (Av fl i (n+1)) K (look L) σ nx:=h (by rw[P0]at a;simpa using a)
theorem CG{d:Tmp}{op:Op}{ty:TypeId}{pos:String}{af:Array Edge}{g:Option (Nat×Bool)}{x:E}
 (a:∀σ nx,A9 P TB Z ⟨some d,op,ty,pos,af,g⟩ (look L) σ nx x) (c:BG ops ⟨some d,op,ty,pos,af,g⟩ (look L)=some true) (h:Lex P TB Z ops (Av fl (i+1) n) K (look ((d,x)::L)) σ nx):BV P TB Z ops ⟨some d,op,ty,pos,af,g⟩ fl i n K L σ nx:=
 λb=>kN b c a (by rw[EM];exact h)
theorem iF{d:Tmp}{op:Op}{ty:TypeId}{pos:String}{af:Array Edge}{g:Option (Nat×Bool)}{x:E}
 (a:A9 P TB Z ⟨some d,op,ty,pos,af,g⟩ (look L) σ nx x) (c:BG ops ⟨some d,op,ty,pos,af,g⟩ (look L)=some true) (e:SY (fl i)=true) (h:Lex P TB Z ops (Av fl (i+1) n) K (look ((d,x)::L)) σ nx):BV P TB Z ops ⟨some d,op,ty,pos,af,g⟩ fl i n K L σ nx:=
 λb=>kO b c e a (by rw[EM];exact h)
theorem Kx{d:Tmp}{op:Op}{ty:TypeId}{pos:String}{af:Array Edge}{g:Option (Nat×Bool)}
 (h:CY P TB Z ⟨some d,op,ty,pos,af,g⟩ (look L) σ nx (λx σ' nx'=>Lex P TB Z ops (Av fl (i+1) n) K (look ((d,x)::L)) σ' nx')) (b:BG ops ⟨some d,op,ty,pos,af,g⟩ (look L)=some true) (c:fl i=1):BV P TB Z ops ⟨some d,op,ty,pos,af,g⟩ fl i n K L σ nx:=by
 intro a;unfold Av;rw[c];exact VH a b (by simp only[EM];exact h)
theorem pW{d:Tmp}{op:Op}{ty:TypeId}{pos:String}{af:Array Edge}{g:Option (Nat×Bool)}(a:PZ ops.toList (fl.p i)=some ⟨some d,op,ty,pos,af,g⟩)
 (h:CY P TB Z ⟨some d,op,ty,pos,af,g⟩ (look L) σ nx (λx σ' nx'=>Lex P TB Z ops (Av fl (i+1) n) K (look ((d,x)::L)) σ' nx')) (b:BG ops ⟨some d,op,ty,pos,af,g⟩ (look L)=some true) (c:fl i=1):Lex P TB Z ops (Av fl i (n+1)) K (look L) σ nx:=Af a (Kx h b c)
theorem Hh{op:Op}{ty:TypeId}{pos:String}{af:Array Edge}{g:Option (Nat×Bool)}
 (h:CY P TB Z ⟨none,op,ty,pos,af,g⟩ (look L) σ nx (λ_ σ' nx'=>Lex P TB Z ops (Av fl (i+1) n) K (look L) σ' nx')) (b:BG ops ⟨none,op,ty,pos,af,g⟩ (look L)=some true) (c:fl i=1):BV P TB Z ops ⟨none,op,ty,pos,af,g⟩ fl i n K L σ nx:=by
 intro a;unfold Av;rw[c];exact VH a b h
theorem bI{d:Tmp}{op:Op}{ty:TypeId}{pos:String}{af:Array Edge}{g:Option (Nat×Bool)}{c:Bool}
 (a:∀σ nx,A9 P TB Z ⟨some d,op,ty,pos,af,g⟩ (look L) σ nx (eB c)) (e:BG ops ⟨some d,op,ty,pos,af,g⟩ (look L)=some true) (h:∀b,c=b->Lex P TB Z ops (Av fl (i+1) n) K (look ((d,eB b)::L)) σ nx):BV P TB Z ops ⟨some d,op,ty,pos,af,g⟩ fl i n K L σ nx:=
 CG a e (h c rfl)
theorem mz{d:Tmp}{op:Op}{ty:TypeId}{pos:String}{af:Array Edge}{g:Option (Nat×Bool)}{x:E}
 (a:∀σ' nx',look σ' (fl i-10)=look σ (fl i-10)->A9 P TB Z ⟨some d,op,ty,pos,af,g⟩ (look L) σ' nx' x) (c:BG ops ⟨some d,op,ty,pos,af,g⟩ (look L)=some true) (e:Nat.ble 10 (fl i)=true/\Nat.ble 1000 (fl i)=false) (h:Lex P TB Z ops (Av fl (i+1) n) K (look ((d,x)::L)) σ nx):BV P TB Z ops ⟨some d,op,ty,pos,af,g⟩ fl i n K L σ nx:=
 λb=>mA b c e a (by rw[EM];exact h)
theorem Dd{d:Tmp}{op:Op}{ty:TypeId}{pos:String}{af:Array Edge}{g:Option (Nat×Bool)}
 (h:CY P TB Z ⟨some d,op,ty,pos,af,g⟩ (look L) σ nx (λx σ' nx'=>Kept (fl i-1000) σ σ'/\Lex P TB Z ops (Av fl (i+1) n) K (look ((d,x)::L)) σ' nx')) (b:BG ops ⟨some d,op,ty,pos,af,g⟩ (look L)=some true) (c:Nat.ble 10 (fl i)=true/\Nat.ble 1000 (fl i)=true):BV P TB Z ops ⟨some d,op,ty,pos,af,g⟩ fl i n K L σ nx:=
 λa=>Zu a b c (by simp only[EM];exact h)
end
def kill(id:Nat):Ab->Ab
 | []=>[]
 | (k,o)::r=>bif Nat.beq k id then kill id r else (k,o)::kill id r
theorem Fx:∀(σ:Ab) (id i:Nat),look (kill id σ) i=if i=id then none else look σ i
 | [],id,i=>by simp[kill,look]
 | (k, o)::r,id,i=>by
  simp only[kill];by_cases h:k=id
  ·subst h
   simp only[sW,cond_true];rw[Fx r k i,AD];by_cases a:i=k
   ·simp[a]
   ·rw[if_neg a,if_neg a,if_neg (Ne.symm a)]
  ·have:Nat.beq k id=false:=by
    cases hb:Nat.beq k id
    ·rfl
    ·exact absurd (i7 hb) h
   rw[this,cond_false,AD,AD,Fx r id i];by_cases a:i=id
   ·subst a;simp[h]
   ·simp[a]
def Ax(V:View)(b c:Nat)(nl:Prop)(w:World):View:=
 {I:=V.I,ρ:=λi=>if i=V.nx then b else V.ρ i,cap:=λi=>if i=V.nx then c else V.cap i,nl:=λi=>if i=V.nx then nl else V.nl i,nx:=V.nx+1,w:=w }
def Ml(V:View)(w:World):View:={ V with I:=λb=>V.I b\/b=V.w.heap.size,w:=w }
section
variable {TB:BR}{Z:Ctx}{V:View}{σ:Ab}
theorem Fc{b c:Nat}{nl:Prop}{w:World}(d:V.w.heap.size<=w.heap.size)(a:∀b,V.I b->w.heap[b]?=V.w.heap[b]?):Ext V (Ax V b c nl w):=by
 refine⟨λ_ h=>h,a,d,λi hi=>?_,λi hi=>?_,λi hi=>?_,Nat.le_succ _⟩<;>simp[Ax,Nat.ne_of_lt hi]
def O.one:O->Bool
 | .sld .. => false
 | _=>true
theorem O.OV{V:View}{id:Nat}{o:O}(h:o.one=true):E9 V id o=λb=>b=V.ρ id:=by
 cases o with
 | sld=>cases h
 | _=>rfl
theorem Inv.alloc(h:Inv TB Z V σ){c:Nat}{nl:Prop}{w:World}{ob:O}(B:ob.one=true)(t:w.os=V.w.os)(ht:w.tape=V.w.tape)(z:w.output=V.w.output)(y:V.w.heap.size<=w.heap.size)
 (r:∀b,b<V.w.heap.size->w.heap[b]?=V.w.heap[b]?) (u:CJ (Ax V V.w.heap.size c nl w) V.nx ob):Inv TB Z (Ax V V.w.heap.size c nl w) ((V.nx,ob)::σ)/\Ext V (Ax V V.w.heap.size c nl w):=by
 have e:Ext V (Ax V V.w.heap.size c nl w):=Fc y λb hb=>r b (h.iLt b hb)
 have k:E9 (Ax V V.w.heap.size c nl w) V.nx ob=λb=>b=V.w.heap.size:=by rw[O.OV B];simp[Ax]
 refine⟨⟨t.trans h.os,ht.trans h.tape,z.trans h.output,λb hb v=>(r b (lw hb h.ext.size)).trans (h.old b hb v),λb hb=>lw (h.iLt b hb) y,h.iNew,h.ext.trans e,⟨?_,?_,?_,?_⟩,?_,?_,h.hid.step e.i e.heap e.size (λb hb _ _=>r b hb) (λb hb=>.inl hb) λb v=>?_⟩,e⟩
 ·intro id o a
  rw[AD]at a;by_cases d:V.nx=id
  ·rw[if_pos d]at a;injection a with a;subst a;subst d;exact u
  ·rw[if_neg d]at a
   exact(h.st.obj id o a).AO e (h.st.lt id o a) λl b hb=>r _ ((h.st.obj id o a).blt l hb)
 ·intro id o a
  rw[AD]at a;by_cases d:V.nx=id
  ·subst d;exact rM _
  ·rw[if_neg d]at a;exact rf (h.st.lt id o a)
 ·intro id o a l b hb
  rw[AD]at a;by_cases d:V.nx=id
  ·subst d
   rw[if_pos rfl]at a;injection a with a;subst a
   intro hI;rw[k]at hb;subst hb;exact Nat.lt_irrefl _ (h.iLt _ hI)
  ·rw[if_neg d]at a
   have f:=h.st.lt id o a;exact h.st.free id o a (λm=>l ((e.nl id f).2 m)) b ((AG e f).1 hb)
 ·intro id id' o o' a g s l m b hb n
  rw[AD]at a g;by_cases d:V.nx=id
  ·subst d
   rw[if_neg s]at g
   rw[if_pos rfl]at a;injection a with a;subst a
   have f:=h.st.lt id' o' g;have:=(h.st.obj id' o' g).blt (λj=>m ((e.nl id' f).2 j)) ((AG e f).1 n);rw[k]at hb;subst hb;omega
  ·rw [if_neg d]at a
   have f:=h.st.lt id o a;have A:=(h.st.obj id o a).blt (λj=>l ((e.nl id f).2 j)) ((AG e f).1 hb);by_cases q:V.nx=id'
   ·subst q
    rw[if_pos rfl]at g;injection g with g;subst g
    rw[k]at n;subst n;omega
   ·rw[if_neg q]at g
    have p:=h.st.lt id' o' g;exact h.st.inj id id' o o' a g s (λj=>l ((e.nl id f).2 j)) (λj=>m ((e.nl id' p).2 j)) b ((AG e f).1 hb) ((AG e p).1 n)
 ·intro id o a l b hb
  rw[AD]at a;by_cases d:V.nx=id
  ·subst d
   rw[if_pos rfl]at a;injection a with a;subst a
   left
   rw[k]at hb;subst hb;exact h.ext.size
  ·rw[if_neg d]at a
   have f:=h.st.lt id o a;exact h.live id o a (λj=>l ((e.nl id f).2 j)) b ((AG e f).1 hb)
 ·intro x j
  have:=h.tabs x j;exact⟨this.1,(r _ (h.iLt _ this.1)).trans this.2⟩
 ·obtain⟨id,o,a,l,hb⟩:=v
  rw[AD]at a;by_cases d:V.nx=id
  ·subst d
   rw[if_pos rfl]at a;injection a with a;subst a
   rw[k]at hb;exact .inr (Nat.le_of_eq hb.symm)
  ·rw[if_neg d]at a
   have f:=h.st.lt id o a;exact .inl ⟨id,o,a,λj=>l ((e.nl id f).2 j),(AG e f).1 hb⟩
theorem Inv.WU(h:Inv TB Z V σ){w:World}(j:w.os=V.w.os)(ht:w.tape=V.w.tape)(l:w.output=V.w.output)(g:V.w.heap.size<w.heap.size)
 (c:∀b,b<V.w.heap.size->w.heap[b]?=V.w.heap[b]?):Inv TB Z (Ml V w) σ/\Ext V (Ml V w):=by
 have e:Ext V (Ml V w):=⟨λ_ h=>.inl h,λb hb=>c b (h.iLt b hb),tt g,λ_ _=>rfl,λ_ _=>rfl,λ_ _=>Iff.rfl,i9 _⟩
 refine⟨⟨j.trans h.os,ht.trans h.tape,l.trans h.output,λb hb k=>(c b (lw hb h.ext.size)).trans (h.old b hb k),?_,?_,h.ext.trans e,⟨?_,h.st.lt,?_,h.st.inj⟩,h.live,?_,h.hid.step e.i e.heap e.size (λb hb _ _=>c b hb) (λb hb=>hb.elim .inl λf=>.inr (.inr (Nat.le_of_eq (show b=V.w.heap.size from f).symm))) λb k=>.inl (Jv e h.st.lt k)⟩,e⟩
 ·intro b hb
  rcases hb with hb|hb
  ·exact Nat.lt_trans (h.iLt b hb) g
  ·subst hb;exact g
 ·intro b hb
  rcases hb with hb|hb
  ·exact h.iNew b hb
  ·subst hb;exact .inr (.inl h.ext.size)
 ·intro id o a
  exact(h.st.obj id o a).AO e (h.st.lt id o a) λd b hb=>c _ ((h.st.obj id o a).blt d hb)
 ·intro id o a d b hb hI
  have hb:=(AG e (h.st.lt id o a)).1 hb
  rcases hI with hI|hI
  ·exact h.st.free id o a d b hb hI
  ·have hI:b=V.w.heap.size:=hI
   have:=(h.st.obj id o a).blt d hb;omega
 ·intro x f
  have:=h.tabs x f;exact⟨.inl this.1,(c _ (h.iLt _ this.1)).trans this.2⟩
theorem Inv.lz(h:Inv TB Z V σ){id:Nat}{ob ob':O}(m:look σ id=some ob)(g:¬V.nl id){w:World}(q:w.os=V.w.os)(ht:w.tape=V.w.tape)(z:w.output=V.w.output)(v:w.heap.size=V.w.heap.size)
 (l:∀b,¬E9 V id ob b->w.heap[b]?=V.w.heap[b]?) (p:∀b,E9 V id ob' b->E9 V id ob b) (r:CJ { V with w:=w } id ob'):Inv TB Z { V with w:=w } ((id,ob')::σ)/\Ext V { V with w:=w } := by
 have f:∀b,V.I b->¬E9 V id ob b:=λb hb e=>h.st.free id ob m g b e hb
 have e:Ext V { V with w:=w } := ⟨λ_ h=>h,λb hb=>l b (f b hb),Nat.le_of_eq v.symm,λ_ _=>rfl,λ_ _=>rfl,λ_ _=>Iff.rfl,i9 _⟩
 have bw:∀ {i o b},E9 { V with w:=w } i o b↔E9 V i o b:=λ{i o b} => by cases o<;>exact Iff.rfl
 have look':∀i o,look ((id,ob')::σ) i=some o->∃a,look σ i=some a/\∀b,E9 V i o b->E9 V i a b:=λi o hi=>by
  rw[AD]at hi;by_cases c:id=i
  ·subst c;rw[if_pos rfl]at hi;injection hi with hi;subst hi;exact⟨ob,m,p⟩
  ·rw[if_neg c]at hi;exact⟨o,hi,λ_ h=>h⟩
 refine⟨⟨q.trans h.os,ht.trans h.tape,z.trans h.output,?_,λb hb=>by show b<w.heap.size;rw[v];exact h.iLt b hb,h.iNew,h.ext.trans e,⟨?_,?_,?_,?_⟩,?_,?_,h.hid.step e.i e.heap e.size (λb _ _ n=>l b λhb=>n ⟨id,ob,m,g,hb⟩) (λ_ h=>.inl h) (λb ⟨i,o,hi,d,hb⟩=>.inl (let ⟨a,k,j⟩:=look' i o hi;⟨i,a,k,d,j b (bw.1 hb)⟩))⟩,e⟩
 ·intro b hb n
  have:¬E9 V id ob b:=by
   intro c
   rcases h.live id ob m g b c with j|j
   ·omega
   ·exact n j
  exact(l b this).trans (h.old b hb n)
 ·intro i o hi
  rw[AD]at hi;by_cases c:id=i
  ·rw[if_pos c]at hi;injection hi with hi;subst hi;subst c;exact r
  ·rw[if_neg c]at hi
   exact(h.st.obj i o hi).AO e (h.st.lt i o hi) λd b hb=>l _ λA=>h.st.inj id i ob o m hi c g d b A hb
 ·intro i o hi;obtain⟨a,k,_⟩:=look' i o hi;exact h.st.lt i a k
 ·intro i o hi g b hb;obtain⟨a,k,j⟩:=look' i o hi;exact h.st.free i a k g b (j b (bw.1 hb))
 ·intro i i' o o' hi t s g d b hb u;obtain⟨a,k,F⟩:=look' i o hi;obtain⟨y,j,B⟩:=look' i' o' t;exact h.st.inj i i' a y k j s g d b (F b (bw.1 hb)) (B b (bw.1 u))
 ·intro i o hi g b hb;obtain⟨a,k,j⟩:=look' i o hi;exact h.live i a k g b (j b (bw.1 hb))
 ·intro x c
  have:=h.tabs x c;exact⟨this.1,(l _ (f _ this.1)).trans this.2⟩
theorem Inv.write(h:Inv TB Z V σ){id:Nat}{ob ob':O}(j:look σ id=some ob)(i:¬V.nl id){w:World}(d:ob.one=true)(k:ob'.one=true)(a:w.os=V.w.os)(ht:w.tape=V.w.tape)(g:w.output=V.w.output)(f:w.heap.size=V.w.heap.size)
 (e:∀b,b≠V.ρ id->w.heap[b]?=V.w.heap[b]?) (c:CJ { V with w:=w } id ob'):Inv TB Z { V with w:=w } ((id,ob')::σ)/\Ext V { V with w:=w } :=
 h.lz j i a ht g f (λb hb=>e b (by rw[O.OV d]at hb;exact hb)) (λb hb=>by rw[O.OV d];rw[O.OV k]at hb;exact hb) c
theorem Inv.alias(h:Inv TB Z V σ){id:Nat}{ob:O}(u:look σ id=some ob):Inv TB Z (Ax V (V.ρ id) (V.cap id) (V.nl id) V.w) ((V.nx,ob)::kill id σ)/\Ext V (Ax V (V.ρ id) (V.cap id) (V.nl id) V.w):=by
 have e:Ext V (Ax V (V.ρ id) (V.cap id) (V.nl id) V.w):=Fc (i9 _) λ_ _=>rfl;have J:=h.st.lt id ob u
 have n:(Ax V (V.ρ id) (V.cap id) (V.nl id) V.w).ρ V.nx=V.ρ id:=by simp[Ax]
 have d:(Ax V (V.ρ id) (V.cap id) (V.nl id) V.w).nl V.nx=V.nl id:=by simp[Ax]
 have g:(Ax V (V.ρ id) (V.cap id) (V.nl id) V.w).cap V.nx=V.cap id:=by simp[Ax]
 have look':∀i o,look ((V.nx,ob)::kill id σ) i=some o->(i=V.nx/\o=ob)\/(i≠V.nx/\i≠id/\look σ i=some o):=λi o hi=>by
  rw[AD]at hi;by_cases f:V.nx=i
  ·rw[if_pos f]at hi;injection hi with hi;exact .inl ⟨f.symm,hi.symm⟩
  ·rw[if_neg f,Fx]at hi
   by_cases A:i=id
   ·rw[if_pos A]at hi;cases hi
   ·rw[if_neg A]at hi;exact .inr ⟨Ne.symm f,A,hi⟩
 have bnew:∀ {o b},E9 (Ax V (V.ρ id) (V.cap id) (V.nl id) V.w) V.nx o b↔E9 V id o b:=λ{o b} => by cases o<;>simp[E9,n]
 refine⟨⟨h.os,h.tape,h.output,h.old,h.iLt,h.iNew,h.ext.trans e,⟨?_,?_,?_,?_⟩,?_,h.tabs,h.hid.same rfl (λ_ h=>h) (λ_ h=>.inl h) ?_⟩,e⟩
 ·intro i o hi
  rcases look' i o hi with ⟨rfl,rfl⟩|⟨_,_,hi⟩
  ·have s:=h.st.obj id o u
   cases o with
   | cells T k rows=>
    rcases s with ⟨s,z⟩|⟨H,cur,z,F,Q,P,N,M⟩
    ·exact .inl ⟨by rw[d];exact s,z⟩
    ·refine .inr ⟨by rw[d];exact H,cur,by rw[n];exact z,by rw[g];exact F,by rw[g];exact Q,by rw[g];exact P,N,λi r j c hi I=>?_⟩
     obtain⟨v,L,K⟩:=M i r j c hi I;exact⟨v,L,K.ext e⟩
   | mp=>
    obtain⟨H,ents,clock,z,F⟩:=s;exact⟨by rw[d];exact H,ents,clock,by rw[n];exact z,F⟩
   | sld T l=>exact⟨by rw[d];exact s.1,s.2⟩
  ·exact(h.st.obj i o hi).AO e (h.st.lt i o hi) λ_ _ _=>rfl
 ·intro i o hi
  rcases look' i o hi with ⟨rfl,rfl⟩|⟨_,_,hi⟩
  ·exact rM _
  ·exact rf (h.st.lt i o hi)
 ·intro i o hi m b hb
  rcases look' i o hi with ⟨rfl,rfl⟩|⟨_,_,hi⟩
  ·exact h.st.free id o u (by rw[<-d];exact m) b (bnew.1 hb)
  ·have a:=h.st.lt i o hi
   exact h.st.free i o hi (λf=>m ((e.nl i a).2 f)) b ((AG e a).1 hb)
 ·intro i i' o o' hi B y m t b hb x
  rcases look' i o hi with ⟨rfl,rfl⟩|⟨_,s,hk⟩<;>rcases look' i' o' B with ⟨rfl,rfl⟩|⟨_,G,p⟩
  ·exact absurd rfl y
  ·have a:=h.st.lt i' o' p
   exact h.st.inj id i' o o' u p (Ne.symm G) (by rw[<-d];exact m) (λf=>t ((e.nl i' a).2 f)) b (bnew.1 hb) ((AG e a).1 x)
  ·have a:=h.st.lt i o hk
   exact h.st.inj i id o o' hk u s (λf=>m ((e.nl i a).2 f)) (by rw[<-d];exact t) b ((AG e a).1 hb) (bnew.1 x)
  ·have a:=h.st.lt i o hk
   have q:=h.st.lt i' o' p;exact h.st.inj i i' o o' hk p y (λf=>m ((e.nl i a).2 f)) (λf=>t ((e.nl i' q).2 f)) b ((AG e a).1 hb) ((AG e q).1 x)
 ·intro i o hi m b hb
  rcases look' i o hi with ⟨rfl,rfl⟩|⟨_,_,hi⟩
  ·exact h.live id o u (by rw[<-d];exact m) b (bnew.1 hb)
  ·have a:=h.st.lt i o hi
   exact h.live i o hi (λf=>m ((e.nl i a).2 f)) b ((AG e a).1 hb)
 ·rintro b ⟨i,o,hi,m,hb⟩
  rcases look' i o hi with ⟨rfl,rfl⟩|⟨_,_,hi⟩
  ·exact⟨id,o,u,by rw[<-d];exact m,bnew.1 hb⟩
  ·have a:=h.st.lt i o hi
   exact⟨i,o,hi,λf=>m ((e.nl i a).2 f),(AG e a).1 hb⟩
theorem Inv.sub(h:Inv TB Z V σ){σ':Ab}(c:∀id o,look σ' id=some o->look σ id=some o):Inv TB Z V σ':=
 ⟨h.os,h.tape,h.output,h.old,h.iLt,h.iNew,h.ext,⟨λid o a=>h.st.obj id o (c id o a),λid o a=>h.st.lt id o (c id o a),λid o a=>h.st.free id o (c id o a),
  λid id' o o' a d=>h.st.inj id id' o o' (c id o a) (c id' o' d)⟩,λid o a=>h.live id o (c id o a),h.tabs,h.hid.same rfl (λ_ h=>h) (λ_ h=>.inl h) λb ⟨i,o,hi,e,hb⟩=>⟨i,o,c i o hi,e,hb⟩⟩
end
def zC:Value->C
 | .slice none 0 0=>.d (.l [])
 | v=>.d (.v v)
def QO:Value->Bool
 | .slice none 0 0=>true
 | v=>Qq v
theorem Ls{V:View}{v:Value}(h:QO v=true):AJ V (zC v) v:=by
 unfold zC;split
 ·exact .d .nil
 ·rename_i a
  unfold QO at h;split at h
  ·exact absurd rfl (a)
  ·exact .d (.v h)
def eC:E->List C
 | .o c=>[c]
 | .a cs=>cs
 | .t _=>[]
 | .e=>[.d (.l [])]
def UM:E->Bool
 | .t _=>false
 | _=>true
theorem Pv{V:View}{e:E}{v:Value}(k:UM e=true)(h:Br V e v):Dk V (eC e) v.cells:=by
 cases e with
 | o c =>
  have h:AJ V c v:=h
  have : v.cells = #[v]:=by cases h with
   | d h=>cases h with
    | v i=>cases v<;>first|rfl|(simp[Qq]at i)
    | nil=>rfl
    | l=>rfl
    | e=>rfl
    | p=>rfl
   | _=>rfl
  rw[this];refine⟨rfl,λj c' v' f g=>?_⟩
  match j with
  | 0=>simp[eC]at f g;subst f g;exact h
  | j+1=>simp[eC]at f
 | a cs=>obtain⟨vs,rfl,h⟩:=h;exact h
 | t=>cases k
 | e =>
  obtain⟨b,rfl⟩:=h;refine⟨rfl,λj c' v' f g=>?_⟩
  match j with
  | 0=>
   simp[eC]at f;subst f;have g:v'=.slice b 0 0:=(Option.some.inj g).symm;subst g
   cases b with
   | none=>exact .d .nil
   | some a=>exact .d (.e (qg _))
  | j+1=>simp[eC]at f
theorem AJ.one{V:View}{c:C}{v:Value}(h:AJ V c v):v.oneCell'=true:=by
 cases h with
 | d h=>cases h with
  | v a=>cases v<;>first|rfl|(simp[Qq]at a)
  | nil=>rfl
  | l=>rfl
  | e=>rfl
  | p=>rfl
 | _=>rfl
section
variable {P:Program}{TB:BR}{Z:Ctx}{d:Option Tmp}{ty:TypeId}{pos:String}{af:Array Edge}{g:Option (Nat×Bool)}{f:Env}{σ:Ab}{nx:Nat}
variable {K:E->Ab->Nat->Prop}
theorem DO{o:Oper}(h:∀V ρ,NV V o f ρ->Inv TB Z V σ->V.nx=nx->∃v V' x σ',(execOp ρ o).run P V.w=.ok (.value v) V'.w/\Ext V V'/\Inv TB Z V' σ'/\Br V' x v/\K x σ' V'.nx):CY P TB Z o f σ nx K:=by
 intro V a i g e;obtain⟨v,V',x,σ',c,d,hi,b,hk⟩:=h V a.eval i.Hw g e;unfold Oper.wp;rw[c];exact⟨V',v,x,σ',rfl,rfl,d,hi,b,hk⟩
theorem Kh{o:Oper}{x:E}(h:∀V ρ,NV V o f ρ->Inv TB Z V σ->∃v V',(execOp ρ o).run P V.w=.ok (.value v) V'.w/\Ext V V'/\Inv TB Z V' σ/\V'.nx=V.nx/\Br V' x v):A9 P TB Z o f σ nx x:=by
 intro V a j i g;obtain⟨v,V',c,e,hi,d,b⟩:=h V a.eval j.Hw i;unfold Oper.wp;rw[c];exact⟨V',v,rfl,rfl,e,hi,d.trans g,b⟩
theorem ZG{V:View}{cs:List C}{vs:Array Value}(h:Dk V cs vs)(i:Nat)(r:List C)(j:Nat)(c:C)(hi:[cs][i]?=some r)(b:r[j]?=some c):∃v,vs[i*cs.length+j]?=some v/\AJ V c v:=by
 match i with
 | 0=>
  simp at hi;subst hi
  have a:j<vs.size:=by rw[h.1];exact(ce.1 b).1
  exact⟨vs[j],by simp[a],h.2 j c _ b (pm a)⟩
 | i+1=>simp at hi
theorem Bm(w:World)(o:Obj)(b:Nat)(h:b<w.heap.size):(w.alloc o).heap[b]?=w.heap[b]?:=by
 show (w.heap.push o)[b]?=_
 rw[Array.getElem?_push,if_neg (by omega)]
theorem Ck(w:World)(o:Obj):(w.alloc o).heap[w.heap.size]?=some o:=by
 show (w.heap.push o)[w.heap.size]?=_
 simp
theorem OY{V:View}{b c k:Nat}{w:World}:AJ (Ax V b c False w) (.ptr V.nx k 0 0) (.pointer (some ⟨b,0,none⟩)):=by
 have:=@AJ.ptr (Ax V b c False w) V.nx k 0 0 (by simp[Ax]) (by simp[Ax])
 have h:(Ax V b c False w).ρ V.nx=b:=by simp[Ax]
 rw[h]at this
 simpa using this
theorem Td{V:View}(h:Inv TB Z V σ){T:TypeId}{cs:List C}{vs:Array Value}(d:Dk V cs vs) :
 Inv TB Z (Ax V V.w.heap.size 1 False (V.w.alloc (.cells vs T))) ((V.nx,.cells T cs.length [cs])::σ)/\Ext V (Ax V V.w.heap.size 1 False (V.w.alloc (.cells vs T))):=by
 have e:Ext V (Ax V V.w.heap.size 1 False (V.w.alloc (.cells vs T))):=Fc (by simp) λb hb=>Bm _ _ _ (h.iLt b hb);refine h.alloc rfl rfl rfl rfl (by simp) (λb hb=>Bm _ _ _ hb) (.inr ⟨by simp[Ax],vs,?_,?_,?_,?_,?_,?_⟩)
 ·have:=Ck V.w (.cells vs T)
  simpa only[Ax,if_true]using this
 ·simp[Ax,d.1]
 ·simp[Ax]
 ·simp[Ax,maxLen]
 ·intro r a;simp at a;subst a;rfl
 ·exact λi r j c hi f=>ZG (d.ext e) i r j c hi f
theorem C4{T:TypeId}{x:Operand}{e:E}(a:ev f x=some e)(b:UM e=true)(i:K (.o (.ptr nx (eC e).length 0 0)) ((nx,.cells T (eC e).length [eC e])::σ) (nx+1)):CY P TB Z ⟨d,.box T x,ty,pos,af,g⟩ f σ nx K:=
 DO λV ρ l k j=>by
  subst j;have h:=Pv b (l.get (by simp[Op.operands]) a);obtain⟨hi,c⟩:=Td k (T:=T) h;refine⟨.pointer (some ⟨V.w.heap.size,0,none⟩),_,_,_,?_,c,hi,?_,i⟩
  ·simp[execOp,Instr.box,newVar,newRow,Ax,go_sem]
  ·exact OY
theorem il{T:TypeId}{z:List Value}[p:BQ P T z](l:z.all QO=true)(s:K (.o (.ptr nx z.length 0 0)) ((nx,.cells T z.length [z.map zC])::σ) (nx+1)):CY P TB Z ⟨d,.alloc T,ty,pos,af,g⟩ f σ nx K:=
 DO λV ρ y x t=>by
  subst t;have b:=p.out;simp only[cF,pu,d7]at b;obtain⟨i,hi,zv,k,a⟩:=b
  have r:Dk V (z.map zC) zv.cells:=by
   refine⟨by rw[gt,<-a];simp,λj c v n m=>?_⟩;simp only[i8,d7]at n;obtain⟨u,h,rfl⟩:=n
   have:u=v:=by
    rw[<-a]at h;simp only[qu]at h;rw[h]at m;exact Option.some.inj m
   subst this;exact Ls (gc.1 l u (co h))
  obtain⟨e,q⟩:=Td x (T:=T) r;rw[gt]at e;refine⟨.pointer (some ⟨V.w.heap.size,0,none⟩),_,_,_,?_,q,e,?_,s⟩
  ·simp[execOp,Instr.alloc,zeroValue,typeInfo,hi,k,newVar,newRow,Ax,go_sem]
  ·exact OY
def RD:List C->Option (List D)
 | []=>some []
 | .d x::l=>(RD l).map (x :: ·)
 | _=>none
theorem MJ:∀ {l:List C} {ds:List D},RD l=some ds->∀(j:Nat) (x:D),ds[j]?=some x->l[j]?=some (.d x)
 | [],ds,h,j,x,a=>by injection h with h;subst h;simp at a
 | c::l,ds,h,j,x,a=>by
  cases c<;>simp only[RD]at h<;>try cases h
  simp only[d7]at h;obtain⟨ds',b,rfl⟩:=h
  cases j with
  | zero=>simpa using a
  | succ j=>simpa using MJ b j x (by simpa using a)
theorem On:∀ {l:List C} {ds:List D},RD l=some ds->ds.length=l.length
 | [],ds,h=>by injection h with h;subst h;rfl
 | c::l,ds,h=>by
  cases c<;>simp only[RD]at h<;>try cases h
  simp only[d7]at h;obtain⟨ds',a,rfl⟩:=h;simp[On a]
theorem De{T:TypeId}{x:Operand}{e:E}{ds:List D}(n:ev f x=some e)(p:UM e=true)(m:RD (eC e)=some ds):A9 P TB Z ⟨d,.box T x,ty,pos,af,g⟩ f σ nx (.o (.ip ds)):=
 Kh λV ρ s r=>by
  have i:=Pv p (s.get (by simp[Op.operands]) n);obtain⟨hi,l⟩:=r.WU (w:=V.w.alloc (.cells (ρ x).cells T)) rfl rfl rfl (by simp) (λb hb=>Bm _ _ _ hb);refine⟨.pointer (some ⟨V.w.heap.size,0,none⟩),_,?_,l,hi,rfl,?_⟩
  ·simp[execOp,Instr.box,newVar,newRow,Ml,go_sem]
  ·refine .ip (vs:=λj=>(ρ x).cells.getD j undef) (.inr rfl) (λj y h=>?_) (λj y h=>?_)
   ·have c:=MJ m j y h
    have a:j<(ρ x).cells.size:=by rw[i.1];exact(ce.1 c).1
    have k:(Ml V (V.w.alloc (.cells (ρ x).cells T))).w.heap[V.w.heap.size]?=some (.cells (ρ x).cells T):=Ck _ _;simp[World.cell?,k,a]
   ·have c:=MJ m j y h
    have a:j<(ρ x).cells.size:=by rw[i.1];exact(ce.1 c).1
    have k:=i.2 j _ _ c (pm a)
    cases k with
    | d q=>simpa[a]using q.ext l
theorem TV{t:TypeId}{x:Operand}{id k i j n:Nat}{T:TypeId}{rows:List (List C)}{r:List C}{c:C}[u:D0 P t false n](m:ev f x=some (.o (.ptr id k i j)))(s:look σ id=some (.cells T k rows))(q:rows[i]?=some r)(z:r[j]?=some c) :
 A9 P TB Z ⟨d,.load t x,ty,pos,af,g⟩ f σ nx (.o c):=
 AR λV ρ F B=>by
  have l:=F.get (by simp[Op.operands]) m;generalize p:ρ x=v at l
  cases l with
  | ptr y a=>
   rcases B.st.obj id _ s with ⟨b,_⟩|⟨_,cur,b,J,I,H,G,A⟩
   ·exact absurd b a
   ·obtain⟨v,h,e⟩:=A i r j c q z
    refine⟨v,?_,e⟩
    have:V.w.cell? ⟨V.ρ id,i*k+j,none⟩=some v:=by simp[World.cell?,b,h]
    simp[execOp,p,Instr.loadAt,Instr.sureAddr,loadVar,(BL u.out V.w).1,this,go_sem]
theorem fh{t:TypeId}{x:Operand}{id k i j n:Nat}{T:TypeId}{rows:List (List C)}{r:List C}[A:D0 P t true n](F:ev f x=some (.o (.ptr id k i j)))(I:look σ id=some (.cells T k rows))(H:rows[i]?=some r)(N:j+n<=r.length) :
 A9 P TB Z ⟨d,.load t x,ty,pos,af,g⟩ f σ nx (.a ((r.drop j).take n)):=
 AR λV ρ M L=>by
  have B:=M.get (by simp[Op.operands]) F;generalize G:ρ x=v at B
  cases B with
  | ptr J y=>
   rcases L.st.obj id _ I with ⟨z,_⟩|⟨_,cur,z,U,S,R,Q,K⟩
   ·exact absurd z y
   ·have b:∀q,q<n->∃v,cur[i*k+j+q]?=some v/\AJ V (r[j+q]?.getD (.d (.l []))) v:=λq m=>by
     have p:j+q<r.length:=by omega
     obtain⟨v,e,h⟩:=K i r (j+q) r[j+q] H (d6 p);exact⟨v,by rw[pV];exact e,by rw[d6 p];exact h⟩
    refine⟨.agg ((List.range n).map λq=>cur.getD (i*k+j+q) undef).toArray,?_,_,rfl,by simp;omega,?_⟩
    ·have:(loadCells ⟨V.ρ id,i*k+j,none⟩ n).run P V.w=.ok ((List.range n).map λq=>cur.getD (i*k+j+q) undef).toArray V.w:=run_loadCells V.w _ n _ λq m=>by
      rw[BJ];obtain⟨v,e,_⟩:=b q m;simp[World.cell?,z,e]
     unfold loadCells at this;simp[execOp,G,Instr.loadAt,Instr.sureAddr,loadVar,(BL A.out V.w).1,(BL A.out V.w).2,this,go_sem]
    ·intro q c v s u
     rw[pP]at s;split at s
     ·rename_i m
      rw[pQ]at s;obtain⟨v',e,h⟩:=b q m;rw[s]at h
      have:v=v':=by simpa[m,e]using u.symm
      rw[this];exact h
     ·cases s
theorem eY{s kf off:Nat}{x:Operand}{id k i j:Nat}[t:SO P s kf off](p:ev f x=some (.o (.ptr id k i j))):A9 P TB Z ⟨d,.fieldAddr s x kf,ty,pos,af,g⟩ f σ nx (.o (.ptr id k i (j+off))):=
 AR λV ρ u _=>by
  have n:=u.get (by simp[Op.operands]) p;generalize q:ρ x=v at n
  cases n with
  | ptr l h=>
   have a:=t.out;unfold aT at a;split at a
   ·rename_i fs r
    split at a
    ·rename_i fl m
     split at a
     ·rename_i ii hi
      cases b:Nat.beq ii.size 0
      ·rw[b]at a
       simp only[cond_false,Option.some.injEq]at a;subst a
       have c:ii.size≠0:=λe=>by rw[e]at b;cases b
       refine⟨.pointer (some ⟨V.ρ id,i*k+j+fl.offset,none⟩),?_,by rw[pV];exact .ptr l h⟩;simp[execOp,q,Instr.fieldAt,run_underlying r,m,Instr.sureAddr,fieldPlace,sizeOf,typeInfo,hi,c,BJ,go_sem]
      ·rw[b]at a;cases a
     ·cases a
    ·cases a
   ·cases a
theorem eZ{t e:TypeId}{x y:Operand}{id k len b:Nat}{off:Nat}{n:Int}{ik:IntKind}[w:CS P t e k b](m:ev f x=some (.o (.arr id k off len)))(l:ev f y=some (eI ik n))
 (A:0<=n) (s:n<len):A9 P TB Z ⟨d,.indexAddr t x y,ty,pos,af,g⟩ f σ nx (.o (.ptr id k (off+n.toNat) 0)):=
 AR λV ρ j _=>by
  have h:=j.get (by simp[Op.operands]) m;have z:ρ y=.int ik n:=AJ.val (j.get (by simp[Op.operands]) l);generalize p:ρ x=v at h;obtain⟨i,q,hi,r,_⟩:=Hk w.out
  cases h with
  | nil=>omega
  | arr c a u=>
   refine⟨.pointer (some ⟨V.ρ id,(off+n.toNat)*k+0,none⟩),?_,.ptr c a⟩;simp[execOp,p,z,Instr.indexAt,asIntOf,run_underlying q,A,s,sizeOf,typeInfo,hi,r,BJ,pZ,go_sem]
theorem fc{t:TypeId}{x y:Operand}{id k i j:Nat}{n:Int}{len ke:Nat}{ik:IntKind}[u:RF P t len ke](m:ev f x=some (.o (.ptr id k i j)))(l:ev f y=some (eI ik n))
 (z:0<=n) (s:n<len):A9 P TB Z ⟨d,.indexAddr t x y,ty,pos,af,g⟩ f σ nx (.o (.ptr id k i (j+n.toNat*ke))):=
 AR λV ρ h _=>by
  have c:=h.get (by simp[Op.operands]) m;have w:ρ y=.int ik n:=AJ.val (h.get (by simp[Op.operands]) l);generalize p:ρ x=v at c;obtain⟨e,ii,q,hi,r⟩:=WW u.out
  cases c with
  | ptr b a=>
   refine⟨.pointer (some ⟨V.ρ id,i*k+(j+n.toNat*ke),none⟩),?_,.ptr b a⟩;simp[execOp,p,w,Instr.indexAt,asIntOf,run_underlying q,Instr.sureAddr,z,s,sizeOf,typeInfo,hi,r,BJ,pV,go_sem]
theorem Ln{t:TypeId}{n:Nat}{w:World}{a:Addr}{v:Value}(h:(sizeOf t).run P w=.ok n w)(b:v.cells.size=n):(storeVar t a v).run P w=(storeCells a v.cells.toList).run P w:=by
 unfold storeVar;simp only[pp,h,kw,b,ne_eq,not_true,if_false]
def Ae(r:List C)(j:Nat)(cs:List C):List C:=r.take j++cs++r.drop (j+cs.length)
theorem DE{t:TypeId}{x y:Operand}{id k i j n:Nat}{T:TypeId}{rows:List (List C)}{r:List C}{e:E}{ag:Bool}[hl:D0 P t ag n](hx:ev f x=some (.o (.ptr id k i j)))(hy:ev f y=some e)(ho:UM e=true)
 (J:look σ id=some (.cells T k rows)) (hr:rows[i]?=some r) (hn:(eC e).length=n) (hj:j+n<=k) (hK:K (.t []) ((id,.cells T k (rows.set i (Ae r j (eC e))))::σ) nx):CY P TB Z ⟨d,.store t x y,ty,pos,af,g⟩ f σ nx K:=by
 intro V a Y h2 h3;have Y:=Y.Hw;unfold Oper.wp;generalize a.eval=ρ at Y |-;have N:=Y.get (by simp[Op.operands]) hx;have hc:=Pv ho (Y.get (by simp[Op.operands]) hy);generalize hv:ρ x=v at N
 cases N with
 | ptr hid F =>
  rcases h2.st.obj id _ J with ⟨h4,_⟩|⟨_,cur,h4,h5,h6,h7,h8,h9⟩
  ·exact absurd h4 F
  ·have hrk : r.length=k:=h8 r (co hr)
   have U:=(ce.1 hr).1
   have H:(ρ y).cells.size=n:=by rw[hc.1,hn]
   have B:(i+1)*k<=cur.size:=by rw[h5];exact p8 _ (by omega)
   have hfit:i*k+j+n<=cur.size:=by rw[pZ]at B;omega
   have I:=run_storeCells_at P (V.ρ id) (i*k+j) T (ρ y).cells.toList 0 cur V.w h4 (by simp;omega) (λv hv=>by
    obtain⟨q,A,rfl⟩:=pR hv
    have hq':q<(eC e).length:=by simpa[hc.1]using A
    exact(hc.2 q (eC e)[q] _ (d6 hq') (by simp)).one)
   simp only[r6,Array.length_toList]at I;rw[H]at I
   have hw := h2.write J F (w:=V.w.setRow (V.ρ id) (cur.toList.take (i*k+j)++(ρ y).cells.toList++cur.toList.drop (i*k+j+n)).toArray) (ob':=.cells T k (rows.set i (Ae r j (eC e)))) rfl rfl rfl rfl rfl (by simp) (λb hb=>setRow_other _ _ _ _ hb) (by
    have ee:Ext V { V with w:=V.w.setRow (V.ρ id) (cur.toList.take (i*k+j)++(ρ y).cells.toList++cur.toList.drop (i*k+j+n)).toArray } :=
     ⟨λ_ h=>h,λb hb=>setRow_other _ _ _ _ λe=>h2.st.free id _ J F b e hb,by simp,λ_ _=>rfl,λ_ _=>rfl,λ_ _=>Iff.rfl,i9 _⟩
    have z:(cur.toList.take (i*k+j)++(ρ y).cells.toList).length=i*k+j+n:=by simp[H];omega
    refine .inr ⟨F,_,setRow_heap _ _ _ _ _ _ h4,?_,by simpa using h6,h7,?_,?_⟩
    ·simp[H];omega
    ·intro r' hr'
     rcases List.mem_or_eq_of_mem_set hr' with h|h
     ·exact h8 r' h
     ·subst h;simp[Ae,hn];omega
    ·intro i' r' j' c m l
     rw[ti]at m
     have X:∀q,(cur.toList.take (i*k+j)++(ρ y).cells.toList++cur.toList.drop (i*k+j+n)).toArray[q]?=if q<i*k+j then cur[q]? else if q<i*k+j+n then (ρ y).cells[q-(i*k+j)]? else cur[q]?:=by
      intro q;simp only[qA];by_cases A:q<i*k+j+n
      ·rw [em (by rw[z];exact A)]
       by_cases u:q<i*k+j
       ·rw[em (by simp;omega),if_pos u]
        simp[u]
       ·rw[f7 (by simp;omega),if_neg u,if_pos A]
        simp;congr 1;omega
      ·rw[f7 (by rw[z];omega),if_neg (by omega),if_neg A,z,pQ]
       simp;congr 1;omega
     rw[X];by_cases M:i=i'
     ·subst M
      rw[if_pos rfl,if_pos U]at m
      injection m with m
      subst m;unfold Ae at l
      have L:(r.take j++eC e).length=j+n:=by simp[hn];omega
      by_cases A:j'<j+n
      ·rw [em (by rw[L];exact A)]at l
       by_cases u:j'<j
       ·rw[em (by simp;omega)]at l
        rw[pP,if_pos u]at l;obtain⟨v,s,p⟩:=h9 i r j' c hr l;rw[if_pos (by omega)];exact⟨v,s,p.ext ee⟩
       ·rw[f7 (by simp;omega)]at l
        have S:(r.take j).length=j:=by simp;omega
        rw[S]at l;rw[if_neg (by omega),if_pos (by omega)]
        have G:j'-j<(ρ y).cells.size:=by omega
        have he:i*k+j'-(i*k+j)=j'-j:=by omega
        rw[he];exact⟨(ρ y).cells[j'-j],pm G,(hc.2 _ c _ l (pm G)).ext ee⟩
      ·rw[f7 (by rw[L];omega),L,pQ,hn]at l
       have he:j+n+(j'-(j+n))=j':=by omega
       rw[he]at l;obtain⟨v,s,p⟩:=h9 i r j' c hr l;rw[if_neg (by omega),if_neg (by omega)];exact⟨v,s,p.ext ee⟩
     ·rw [if_neg M]at m
      obtain⟨v,s,p⟩:=h9 i' r' j' c m l;have R:r'.length=k:=h8 r' (co m)
      have hj'k:j'<k:=by rw[<-R];exact(ce.1 l).1
      have : ¬(i*k+j<=i'*k+j'/\i'*k+j'<i*k+j+n):=by
       rintro⟨ha,hb⟩
       rcases rT M with G|G
       ·have:=p8 k (show i+1<=i' by omega)
        rw[pZ]at this;omega
       ·have:=p8 k (show i'+1<=i by omega)
        rw[pZ]at this;omega
      by_cases A:i'*k+j'<i*k+j
      ·rw[if_pos A];exact⟨v,s,p.ext ee⟩
      ·rw[if_neg A,if_neg (by omega)];exact⟨v,s,p.ext ee⟩)
   have Q:(execOp ρ ⟨d,.store t x y,ty,pos,af,g⟩).run P V.w=.ok .skip (V.w.setRow (V.ρ id) (cur.toList.take (i*k+j)++(ρ y).cells.toList++cur.toList.drop (i*k+j+n)).toArray):=by
    show ((do Instr.storeAt t (ρ x) (ρ y);pure Go.Next.skip:Sem Go.Next)).run P V.w=_
    rw[hv];simp only[Instr.storeAt,Instr.sureAddr,pure_bind,pp,Ln (BL hl.out V.w).2 H,I,kw];rfl
   rw[Q];exact⟨_,undef,_,_,rfl,rfl,hw.2,hw.1,NS _,by rw[<-h3]at hK;exact hK⟩
end
def jG(V:View)(k:Nat)(rows:List (List C))(v:Value):Prop:=
 (v=.slice none 0 0/\rows=[])\/
 ∃(a:Addr) (cap:Nat) (vs:Nat->Nat->Value),v=.slice (some a) rows.length cap/\(∀r∈rows,r.length=k)/\
  ∀(i:Nat) (r:List C) (j:Nat) (c:C),rows[i]?=some r->r[j]?=some c->V.w.cell? (a.add (i*k+j))=some (vs i j)/\AJ V c (vs i j)
def IX(σ:Ab)(k:Nat):E->Option (List (List C))
 | .o (.d (.l rows))=>some (rows.map λr=>r.map .d)
 | .o (.arr id k' off len)=>match look σ id with
  | some (.cells _ _ rows)=>bif Nat.beq k' k && Nat.ble (off+len) rows.length then some ((rows.drop off).take len) else none
  | _=>none
 | _=>none
theorem ZQ{TB:BR}{Z:Ctx}{V:View}{σ:Ab}(h:Inv TB Z V σ){k:Nat}{e:E}{v:Value}{rows:List (List C)}(g:IX σ k e=some rows)(hk:∀r∈rows,r.length=k)(w:Br V e v):jG V k rows v:=by
 unfold IX at g;split at g
 ·rename_i ds
  injection g with g
  subst g
  cases w with
  | d w =>
   cases w with
   | nil=>exact .inl ⟨rfl,rfl⟩
   | @e a cap=>exact .inr ⟨a,cap,λ_ _=>undef,rfl,by simp,λi r j c hi=>by simp at hi⟩
   | @l _ b o k' cap vs hb H Q B P s=>
    refine .inr ⟨⟨b,o,none⟩,cap,vs,by simp,hk,λi r j c hi u=>?_⟩;simp only[i8,d7]at hi;obtain⟨q,m,rfl⟩:=hi;simp only[i8,d7]at u;obtain⟨x,G,rfl⟩:=u
    have:k'=k:=by
     have S:=B i q m;have J:=hk (q.map .d) (d8.2 ⟨q,co m,rfl⟩);rw[gt]at J;omega
    subst this;exact⟨by rw[BJ,<-pV];exact P i q j x m G,.d (s i q j x m G)⟩
 ·rename_i id k' off len
  split at g
  ·rename_i T n f L
   cases hb:Nat.beq k' k && Nat.ble (off+len) f.length
   ·rw[hb]at g;cases g
   ·rw [hb]at g
    injection g with g
    subst g;rw[d4]at hb;have z:=i7 hb.1;have K:=am hb.2;subst z
    cases w with
    | nil H B=>exact .inl ⟨rfl,by simp⟩
    | arr H y B=>
     rcases h.st.obj id _ L with ⟨s,_⟩|⟨_,cur,s,Y,X,U,N,M⟩
     ·exact absurd s y
     ·rcases qk len with I|I
      ·subst I
       exact .inr ⟨⟨V.ρ id,off*k',none⟩,V.cap id-off,λ_ _=>undef,by simp,by simp,λi r j c hi=>by simp at hi⟩
      ·have A:n=k':=by
        have p:0<((f.drop off).take len).length:=by simp;omega
        have S:=hk _ (p6 p);have J:=N _ (qO (pL (p6 p)));omega
       subst A;refine .inr ⟨⟨V.ρ id,off*n,none⟩,V.cap id-off,λi j=>cur.getD ((off+i)*n+j) undef,?_,hk,λi r j c hi u=>?_⟩
       ·have:((f.drop off).take len).length=len:=by simp;omega
        rw[this]
       ·rw [pP]at hi
        split at hi
        ·rename_i p
         rw[pQ]at hi;obtain⟨v,t,F⟩:=M (off+i) r j c hi u
         have R:off*n+i*n+j=(off+i)*n+j:=by rw[pZ]
         have:cur.getD ((off+i)*n+j) undef=v:=by simp[t]
         simp only[this];exact⟨by rw[BJ,<-pV,R];simp[World.cell?,s,t],F⟩
        ·cases hi
  ·cases g
 ·cases g
def DD(m k:Nat)(vs:Nat->Nat->Value):List Value:=(List.range (m*k)).map λq=>vs (q / k) (q%k)
theorem Nk{m k:Nat}{vs:Nat->Nat->Value}{i j:Nat}(hi:i<m)(b:j<k):(DD m k vs)[i*k+j]?=some (vs i j):=by
 have a:i*k+j<m*k:=by
  have:=p8 k (show i+1<=m by omega);rw[pZ]at this;omega
 have hk:0<k:=by omega
 have d:(i*k+j) / k=i:=by rw[sr,Nat.add_mul_div_right _ _ hk,Nat.div_eq_of_lt b,ms]
 have c:(i*k+j)%k=j:=by rw[sr,Nat.add_mul_mod_self_right,pU b]
 simp[DD,a,d,c]
theorem Nl{m k:Nat}{vs:Nat->Nat->Value}{q:Nat}{u:Value}(h:(DD m k vs)[q]?=some u):∃i j,q=i*k+j/\i<m/\j<k/\u=vs i j:=by
 have a:=(ce.1 h).1;simp[DD]at a
 have hk:0<k:=by rcases qk k with b|b;(subst b;simp at a);exact b
 refine⟨q / k,q%k,?_,?_,Nat.mod_lt _ hk,?_⟩
 ·rw[su];exact(Nat.div_add_mod q k).symm
 ·exact Nat.div_lt_of_lt_mul (by rw[su];exact a)
 ·simp[DD,a]at h;exact h.symm
theorem Dl(m k:Nat)(vs:Nat->Nat->Value):(DD m k vs).length=m*k:=by simp[DD]
section
variable {P:Program}{TB:BR}{Z:Ctx}{d:Option Tmp}{ty:TypeId}{pos:String}{af:Array Edge}{g:Option (Nat×Bool)}{f:Env}{σ:Ab}{nx:Nat}
variable {K:E->Ab->Nat->Prop}
theorem Gq{t e:TypeId}{i:TypeInfo}(ht:P.underlying t=some (.slice e))(hi:P.info? e=some i)(w:World)(base:Option Addr)(n cap:Nat)(a:n<=cap)(ty:TypeId) :
 (Builtin.append_ #[t,t] ty #[.slice base n cap,.slice none 0 0]).run P w=.ok (.slice base n cap) w:=by
 cases base<;>simp[Builtin.append_,run_underlying ht,sizeOf,typeInfo,hi,Builtin.lenOf,Builtin.firstCells,storeCells,a,go_sem]
theorem Pl{V:View}{k:Nat}{rows news:List (List C)}{cur':Array Value}(b:∀(i:Nat) (r:List C) (j:Nat) (c:C),rows[i]?=some r->r[j]?=some c->∃v,cur'[i*k+j]?=some v/\AJ V c v)
 (d:∀(i:Nat) (r:List C) (j:Nat) (c:C),news[i]?=some r->r[j]?=some c->∃v,cur'[(rows.length+i)*k+j]?=some v/\AJ V c v) :
 ∀(i:Nat) (r:List C) (j:Nat) (c:C),(rows++news)[i]?=some r->r[j]?=some c->∃v,cur'[i*k+j]?=some v/\AJ V c v:=by
 intro i r j c hi a;by_cases h:i<rows.length
 ·rw[em h]at hi;exact b i r j c hi a
 ·rw[f7 (by omega)]at hi
  have:=d (i-rows.length) r j c hi a
  have e:rows.length+(i-rows.length)=i:=by omega
  rw[e]at this;exact this
theorem Au{t e:TypeId}{k b:Nat}{z:List Value}{s x:Operand}{id len:Nat}{rows news:List (List C)}{ex:E}[hl:CS P t e k b][hz:BQ P e z]
 (hs:ev f s=some (.o (.arr id k 0 len))) (hx:ev f x=some ex) (X:look σ id=some (.cells e k rows)) (G:rows.length=len) (hsrc:IX σ k ex=some news) (hkk:∀r∈news,r.length=k)
 (hzk:z.length=k) (hb0:0<b) (hb:(len+news.length)*b<=140737488355328)
 (hK:K (.o (.arr nx k 0 (len+news.length))) ((nx,.cells e k (rows++news))::kill id σ) (nx+1)):CY P TB Z ⟨d,.call ⟨.builtin .append,#[s,x],#[t,t]⟩,ty,pos,af,g⟩ f σ nx K:=
 DO λV ρ h1 h2 h3=>by
  subst h3;obtain⟨i,hu,hi,I,hby⟩:=Hk hl.out;have hz':=hz.out;simp only[cF,hi,rL,d7]at hz';obtain⟨zv,hzv,hzz⟩:=hz'
  have hzc:zv.cells.size=k:=by rw[<-hzk,<-hzz];simp
  have hsr:=h1.get (x:=s) (by simp[Op.operands,Call.operands]) hs;have hxr:=ZQ h2 hsrc hkk (h1.get (x:=x) (by simp[Op.operands,Call.operands]) hx)
  have A:∀w,(execOp ρ ⟨d,.call ⟨.builtin .append,#[s,x],#[t,t]⟩,ty,pos,af,g⟩).run P w=((Builtin.append_ #[t,t] ty #[ρ s,ρ x]).run P w).andThen λv w'=>.ok (.value v) w':=λw=>by
   simp only[execOp,resolve,invoke,builtin,tu,qz,tw,pure_bind,bind_pure_comp,rW]
  have hmax:len+news.length<=maxLen:=by
   have:len+news.length<=(len+news.length)*b:=qR _ hb0;unfold maxLen;omega
  have hint:((len+news.length:Nat):Int)<=9223372036854775807:=by
   have:len+news.length<=(len+news.length)*b:=qR _ hb0;omega
  generalize hvs:ρ s=vs at *;generalize hvx:ρ x=vx at *;have hob:=h2.st.obj id _ X
  rcases hxr with ⟨rfl,hnil⟩|⟨xa,xc,xv,rfl,hxk,n⟩
  ·-- nothing is added: the value stays
   subst hnil;obtain⟨hi',he'⟩:=h2.alias X;rw[pX]at hK;refine⟨vs,_,_,_,?_,he',hi',?_,hK⟩
   ·rw[A]
    cases hsr with
    | nil=>rw[Gq hu hi V.w none 0 0 (i9 _) ty];rfl
    | arr h4 h5 h6=>rw[Gq hu hi V.w _ len _ (by omega) ty];rfl
   ·have R:(Ax V (V.ρ id) (V.cap id) (V.nl id) V.w).nl V.nx=V.nl id:=by simp[Ax]
    have hnr:(Ax V (V.ρ id) (V.cap id) (V.nl id) V.w).ρ V.nx=V.ρ id:=by simp[Ax]
    have U:(Ax V (V.ρ id) (V.cap id) (V.nl id) V.w).cap V.nx=V.cap id:=by simp[Ax]
    cases hsr with
    | nil h4 h5=>exact AJ.nil (by simp[Ax]) (by rw[R];exact h5)
    | arr h4 h5 h6=>
     have:=@AJ.arr (Ax V (V.ρ id) (V.cap id) (V.nl id) V.w) V.nx k 0 (len+0) (by simp[Ax]) (by rw[R];exact h5) (by rw[U];exact h6);rw[hnr,U]at this;exact this
  ·have l : (DD news.length k xv).length=news.length*i.size:=by rw[Dl,I]
   have y:∀j u,(DD news.length k xv)[j]?=some u->V.w.cell? (xa.add j)=some u:=by
    intro q u p;obtain⟨a,b,rfl,ha,hb,rfl⟩:=Nl p
    have hbl:b<news[a].length:=by rw[hxk _ (p6 ha)];exact hb
    exact(n a news[a] b news[a][b] (d6 ha) (d6 hbl)).1
   have hnews1:∀u∈DD news.length k xv,u.oneCell'=true:=by
    intro u hu;obtain⟨q,p,rfl⟩:=pR hu;obtain⟨a,b,_,ha,hb,he⟩:=Nl (d6 p);rw[he]
    have hbl:b<news[a].length:=by rw[hxk _ (p6 ha)];exact hb
    exact(n a news[a] b news[a][b] (d6 ha) (d6 hbl)).2.one
   have fresh:∀(olds:List Value) (cap':Nat),olds.length=len*k->len+news.length<=cap'->cap'<=maxLen->
    (∀(i:Nat) (r:List C) (j:Nat) (c:C),rows[i]?=some r->r[j]?=some c->∃v,olds[i*k+j]?=some v/\AJ V c v)->
    (Builtin.append_ #[t,t] ty #[vs,.slice (some xa) news.length xc]).run P V.w=.ok (.slice (some ⟨V.w.heap.size,0,none⟩) (len+news.length) cap')
     (V.w.drew.alloc (.cells (olds.toArray++(DD news.length k xv).toArray++Builtin.zeroCells zv.cells (cap'-(len+news.length))) e))->
    (∀r∈rows,r.length=k)->
    ∃v V' xx σ',(execOp ρ ⟨d,.call ⟨.builtin .append,#[s,x],#[t,t]⟩,ty,pos,af,g⟩).run P V.w=.ok (.value v) V'.w/\Ext V V'/\Inv TB Z V' σ'/\Br V' xx v/\K xx σ' V'.nx:=by
    intro olds cap' L hcap hcm hold hrun hrk
    let w':=V.w.drew.alloc (.cells (olds.toArray++(DD news.length k xv).toArray++Builtin.zeroCells zv.cells (cap'-(len+news.length))) e)
    have ee:Ext V (Ax V V.w.heap.size cap' False w'):=Fc (by simp[w']) λb hb=>Bm V.w.drew _ b (h2.iLt b hb)
    obtain⟨hi',he'⟩:=h2.alloc (c:=cap') (nl:=False) (w:=w') (ob:=.cells e k (rows++news)) rfl rfl rfl rfl (by simp[w']) (λb hb=>Bm V.w.drew _ b hb) (by
     refine .inr ⟨by simp[Ax],olds.toArray++(DD news.length k xv).toArray++Builtin.zeroCells zv.cells (cap'-(len+news.length)),?_,?_,?_,?_,?_,?_⟩
     ·have:=Ck V.w.drew (.cells (olds.toArray++(DD news.length k xv).toArray++Builtin.zeroCells zv.cells (cap'-(len+news.length))) e)
      have H:(Ax V V.w.heap.size cap' False w').ρ V.nx=V.w.heap.size:=by simp[Ax]
      rw[H];exact this
     ·have hc:(Ax V V.w.heap.size cap' False w').cap V.nx=cap':=by simp[Ax]
      rw[hc];simp only[Array.size_append,tj,L,Dl,Builtin.zeroCells,Array.size_map,Array.size_range,hzc,<-pZ];congr 1;omega
     ·have hc:(Ax V V.w.heap.size cap' False w').cap V.nx=cap':=by simp[Ax]
      rw[hc,qw,G];exact hcap
     ·have hc:(Ax V V.w.heap.size cap' False w').cap V.nx=cap':=by simp[Ax]
      rw[hc];exact hcm
     ·intro r H
      rcases d9.1 H with h|h
      ·exact hrk r h
      ·exact hkk r h
     ·refine Pl (λi r j c hi B=>?_) (λi r j c hi B=>?_)
      ·obtain⟨v,m,h11⟩:=hold i r j c hi B
       refine⟨v,?_,h11.ext ee⟩;have F:=(ce.1 m).1;rw[pM (by simp;omega),pM (by simpa using F)]
       simpa using m
      ·have hil:=(ce.1 hi).1
       have hjl:j<k:=by rw[<-hxk r (co hi)];exact(ce.1 B).1
       have m:=Nk (vs:=xv) hil hjl;refine⟨xv i j,?_,(n i r j c hi B).2.ext ee⟩;have F:=(ce.1 m).1;rw[G,pZ,pV];rw[pM (by simp[L];omega),qF (by simp[L])]
       simpa[L]using m)
    refine⟨.slice (some ⟨V.w.heap.size,0,none⟩) (len+news.length) cap',_,_,(V.nx,.cells e k (rows++news))::kill id σ,?_,he',hi'.sub ?_,?_,hK⟩
    ·rw[A,hrun];rfl
    ·intro q o p
     rw[AD]at p |-;by_cases T:V.nx=q
     ·rwa[if_pos T]at p |-
     ·rw[if_neg T]at p |-
      rw[Fx]at p;by_cases Q:q=id
      ·rw[if_pos Q]at p;cases p
      ·rwa[if_neg Q]at p
    ·have:=@AJ.arr (Ax V V.w.heap.size cap' False w') V.nx k 0 (len+news.length) (by simp[Ax]) (by simp[Ax]) (by simp[Ax];exact hcap)
     have H:(Ax V V.w.heap.size cap' False w').ρ V.nx=V.w.heap.size:=by simp[Ax]
     have hc:(Ax V V.w.heap.size cap' False w').cap V.nx=cap':=by simp[Ax]
     rw[H,hc,qW,tz]at this;exact this
   cases hsr with
   | nil hid M=>
    have S:rows=[]:=pi.1 G
    rcases qk news.length with hm0|hm0
    ·-- nil and nothing: nil
     have R:news=[]:=pi.1 hm0;subst R;obtain⟨hi',he'⟩:=h2.alias X;rw[pX]at hK;refine⟨.slice none 0 0,_,_,_,?_,he',hi',?_,hK⟩
     ·rw[A]
      simp[Builtin.append_,run_underlying hu,sizeOf,typeInfo,hi,Builtin.lenOf,Builtin.firstCells,loadCells,loadCellsFrom,Ax,go_sem]
     ·exact AJ.nil (by simp[Ax]) (by simp[Ax,M])
    ·have H:=run_append_nil (P:=P) V.w t ty e i zv hu hi hzv xa news.length xc _ l y hm0 (by omega) (by rw[hby];have hb':=hb;simp only[ms]at hb';omega)
     refine fresh [] (grownCap V.w news.length 0 e) (by simp) (by simp only[ms];exact grownCap_ge _ _ _ _) (grownCap_le_maxLen _ _ _ _ (by omega)) (λi r j c hi=>by rw[S]at hi;simp at hi) ?_ (λr H=>by rw[S]at H;cases H);rw[H];simp
   | arr hid M hle=>
    rcases hob with ⟨h4,_⟩|⟨_,cur,h4,h5,h6,h7,h8,h9⟩
    ·exact absurd h4 M
    ·have hcs : cur.size=V.cap id*i.size:=by rw[h5,I]
     by_cases J:len+news.length<=V.cap id
     ·-- there is room
      have N:len*i.size+(DD news.length k xv).length<=cur.size:=by
       rw[l,hcs,<-pZ];exact p8 _ J
      have H:=run_append_room (P:=P) V.w t ty e i hu hi (V.ρ id) len (V.cap id) cur h4 xa news.length xc _ l y hnews1 J N
      have Y:(cur.toList.take (len*k)++DD news.length k xv).length=len*k+news.length*k:=by
       rw[I]at N;simp[Dl]at N |-;omega
      let w':=V.w.setRow (V.ρ id) (cur.toList.take (len*i.size)++DD news.length k xv++cur.toList.drop (len*i.size+(DD news.length k xv).length)).toArray
      have ee:Ext V { V with w:=w' } :=
       ⟨λ_ h=>h,λb hb=>setRow_other _ _ _ _ λe=>h2.st.free id _ X M b e hb,by simp[w'],λ_ _=>rfl,λ_ _=>rfl,λ_ _=>Iff.rfl,i9 _⟩
      obtain⟨hw1,hw2⟩:=h2.write X M (w:=w') (ob':=.cells e k (rows++news)) rfl rfl rfl rfl rfl (by simp[w']) (λb hb=>setRow_other _ _ _ _ hb) (by
       refine .inr ⟨M,_,setRow_heap _ _ _ _ _ _ h4,?_,?_,h7,?_,?_⟩
       ·simp only[tj,qw,qX,tB,Array.length_toList]
        rw[hcs,l,I]at N;simp only[Dl,I,h5];omega
       ·rw[qw,G];exact J
       ·intro r H
        rcases d9.1 H with h|h
        ·exact h8 r h
        ·exact hkk r h
       ·simp only [I]
        refine Pl (λi' r j c hi B=>?_) (λi' r j c hi B=>?_)
        ·obtain⟨v,m,h11⟩:=h9 i' r j c hi B
         refine⟨v,?_,h11.ext ee⟩
         have hjl:j<k:=by rw[<-h8 r (co hi)];exact(ce.1 B).1
         have hil:=(ce.1 hi).1
         have F:i'*k+j<len*k:=by
          have:=p8 k (show i'+1<=len by omega);rw[pZ]at this;omega
         have hlc:len*k<=cur.size:=by rw[h5];exact p8 _ (by omega)
         simp only[qA];rw[em (by rw[Y];omega),em (by simp;omega),pP,if_pos F]
         simpa using m
        ·have hil:=(ce.1 hi).1
         have hjl:j<k:=by rw[<-hxk r (co hi)];exact(ce.1 B).1
         have m:=Nk (vs:=xv) hil hjl;have F:=(ce.1 m).1;rw[Dl]at F;refine⟨xv i' j,?_,(n i' r j c hi B).2.ext ee⟩
         have hlc:len*k<=cur.size:=by rw[h5];exact p8 _ (by omega)
         have htl:(cur.toList.take (len*k)).length=len*k:=by simp;omega
         simp only[qA];rw[G,pZ,pV,em (by rw[Y];omega),f7 (by rw[htl];omega),htl]
         have:len*k+(i'*k+j)-len*k=i'*k+j:=by omega
         rw[this];exact m)
      have hlk2:look ((id,O.cells e k (rows++news))::σ) id=some (.cells e k (rows++news)):=by rw[AD,if_pos rfl]
      obtain⟨ha1,ha2⟩:=hw1.alias hlk2;refine⟨.slice (some ⟨V.ρ id,0,none⟩) (len+news.length) (V.cap id),_,_,(V.nx,.cells e k (rows++news))::kill id σ,?_,hw2.trans ha2,ha1.sub ?_,?_,hK⟩
      ·rw[A]
       have:V.cap id-0=V.cap id:=by omega
       rw[qW,this,H];rfl
      ·intro q o p
       rw[AD]at p |-;by_cases T:V.nx=q
       ·rwa[if_pos T]at p |-
       ·rw [if_neg T]at p |-
        rw[Fx]at p |-;by_cases Q:q=id
        ·rw[if_pos Q]at p;cases p
        ·rw[if_neg Q]at p |-
         rw[AD,if_neg (Ne.symm Q)];exact p
      ·have R:(Ax { V with w:=w' } (V.ρ id) (V.cap id) (V.nl id) w').nl V.nx=V.nl id:=by simp[Ax]
       have hnr:(Ax { V with w:=w' } (V.ρ id) (V.cap id) (V.nl id) w').ρ V.nx=V.ρ id:=by simp[Ax]
       have U:(Ax { V with w:=w' } (V.ρ id) (V.cap id) (V.nl id) w').cap V.nx=V.cap id:=by simp[Ax]
       have:=@AJ.arr (Ax { V with w:=w' } (V.ρ id) (V.cap id) (V.nl id) w') V.nx k 0 (len+news.length) (by simp[Ax]) (by rw[R];exact M) (by rw[U];omega);rw[hnr,U,qW,tz]at this;exact this
     ·-- it grows
      have L:(cur.toList.take (len*k)).length=len*k:=by
       have hlc:len*k<=cur.size:=by rw[h5];exact p8 _ (by omega)
       simp;omega
      have H:=run_append_grow (P:=P) V.w t ty e i zv hu hi hzv ⟨V.ρ id,0,none⟩ len (V.cap id) (cur.toList.take (len*k)) (by rw[L,I]) (λj v B=>by
       rw[BJ];rw[pP]at B;split at B
       ·simpa[World.cell?,h4]using B
       ·cases B) xa news.length xc _ l y (by omega) (by omega) (by rw[hby];exact growslice_fits (by omega) hb)
      refine fresh (cur.toList.take (len*k)) (grownCap V.w (len+news.length) (V.cap id) e) L (grownCap_ge _ _ _ _) (grownCap_le_maxLen _ _ _ _ hmax) (λi' r j c hi B=>?_) ?_ h8
      ·obtain⟨v,m,h11⟩:=h9 i' r j c hi B
       refine⟨v,?_,h11⟩
       have hjl:j<k:=by rw[<-h8 r (co hi)];exact(ce.1 B).1
       have hil:=(ce.1 hi).1
       have F:i'*k+j<len*k:=by
        have:=p8 k (show i'+1<=len by omega);rw[pZ]at this;omega
       rw[pP,if_pos F];simpa using m
      ·have:V.cap id-0=V.cap id:=by omega
       rw[qW,this];exact H
end
def SL(V:View)(place:Nat->Option (Nat×Nat)):List (Nat×Value)->List (Nat×List C)->Prop
 | [],[]=>True
 | (i,v)::ps,(off,cs)::qs=>place i=some (off,cs.length)/\Dk V cs v.cells/\SL V place ps qs
 | _,_=>False
def Bp:List (Nat×List C)->List C->List C
 | [],z=>z
 | (off,cs)::r,z=>Bp r (Ae z off cs)
theorem KC:∀(l:List (Value×Nat)) (n off:Nat) (cells:Array Value),(∀(q:Nat) (x:Value×Nat),l[q]?=some x->x.2=n+q)->off+n+l.length<=cells.size->
 (l.foldl (λcs x=>cs.setIfInBounds (off+x.2) x.1) cells).size=cells.size/\
 ∀q,(l.foldl (λcs x=>cs.setIfInBounds (off+x.2) x.1) cells)[q]?=if off+n<=q/\q<off+n+l.length then (l[q-(off+n)]?).map (·.1) else cells[q]?
 | [],n,off,cells,_,_=>by
  refine⟨rfl,λq=>?_⟩;rw[if_neg (by simp)];rfl
 | x :: l,n,off,cells,c,d=>by
  have h:x.2=n:=by simpa using c 0 x rfl
  have b:=KC l (n+1) off (cells.setIfInBounds (off+x.2) x.1) (λq y f=>by have:=c (q+1) y (by simpa using f);omega) (by simp at d |-;omega);simp only[qE];refine⟨by rw[b.1];simp,λq=>?_⟩;rw[b.2 q,h];simp only[p9]at d |-;by_cases e:off+n<=q/\q<off+n+(l.length+1)
  ·rw [if_pos e]
   by_cases g:q=off+n
   ·subst g
    rw[if_neg (by omega)]
    have a:off+n<cells.size:=by omega
    simp[a]
   ·rw[if_pos (by omega)]
    have:q-(off+n)=(q-(off+(n+1)))+1:=by omega
    rw[this];simp
  ·rw[if_neg e,if_neg (by omega)]
   rw[qZ (by omega)]
theorem X6{V:View}{z cs:List C}{cells vc cells':Array Value}{off:Nat}(f:Dk V z cells)(h:Dk V cs vc)(k:off+cs.length<=z.length)(i:cells'.size=cells.size)
 (l:∀q,cells'[q]?=if off<=q/\q<off+cs.length then vc[q-off]? else cells[q]?):Dk V (Ae z off cs) cells':=by
 refine⟨by rw[i,f.1];simp[Ae];omega,λj c v b a=>?_⟩;rw[l]at a;unfold Ae at b
 have d:(z.take off++cs).length=off+cs.length:=by simp;omega
 have e:(z.take off).length=off:=by simp;omega
 by_cases m:j<off+cs.length
 ·rw [em (by rw[d];exact m)]at b
  by_cases g:j<off
  ·rw[em (by rw[e];exact g),pP,if_pos g]at b
   rw[if_neg (by omega)]at a;exact f.2 j c v b a
  ·rw[f7 (by rw[e];omega),e]at b
   rw[if_pos (by omega)]at a;exact h.2 _ c v b a
 ·rw[f7 (by rw[d];omega),d,pQ]at b
  rw[if_neg (by omega)]at a
  have:off+cs.length+(j-(off+cs.length))=j:=by omega
  rw[this]at b;exact f.2 j c v b a
theorem Jt(n:Nat):∀(qs:List (Nat×List C)),(qs.all λx=>Nat.ble (x.1+x.2.length) n)=true->∀x∈qs,x.1+x.2.length<=n:=by
 intro qs h x a;exact am (gc.1 h x a)
theorem GV{V:View}{place:Nat->Option (Nat×Nat)}:∀(ps:List (Nat×Value)) (qs:List (Nat×List C)) (z:List C) (cells:Array Value),SL V place ps qs->Dk V z cells->(∀x∈qs,x.1+x.2.length<=z.length)->
 ∃cells',Instr.fill place cells ps=some cells'/\Dk V (Bp qs z) cells'
 | [],[],z,cells,_,d,_=>⟨cells,rfl,d⟩
 | [],_::_,_,_,h,_,_=>h.elim
 | _::_,[],_,_,h,_,_=>h.elim
 | (i, v)::ps,(off,cs)::qs,z,cells,h,d,l=>by
  obtain⟨s,m,r⟩:=h;have c:off+cs.length<=z.length:=l (off,cs) (by simp);have b:=m.1
  have k:=KC v.cells.zipIdx.toList 0 off cells (λq x e=>by
   have:=qu (xs:=v.cells.zipIdx) (i:=q);rw[this,Array.getElem?_zipIdx]at e;simp only[d7]at e;obtain⟨a,_,rfl⟩:=e
   simp) (by simp[b];rw[d.1];exact c)
  rw[Array.foldl_toList]at k
  have j:Dk V (Ae z off cs) (v.cells.zipIdx.foldl (λcs (x:Value×Nat)=>cs.setIfInBounds (off+x.2) x.1) cells):=by
   refine X6 d m c k.1 λq=>?_;rw[k.2 q]
   have n:v.cells.zipIdx.toList.length=cs.length:=by simp[b]
   rw[n,r6];by_cases g:off<=q/\q<off+cs.length
   ·rw[if_pos g,if_pos g,qu,Array.getElem?_zipIdx]
    cases v.cells[q-off]?<;>rfl
   ·rw[if_neg g,if_neg g]
  obtain⟨cells',p,o⟩:=GV ps qs _ _ r j (λx e=>by
   have:=l x (by simp[e])
   have f:(Ae z off cs).length=z.length:=by simp[Ae];omega
   rw[f];exact this)
  refine⟨cells',?_,o⟩;unfold Instr.fill;rw[s]
  have hno:¬(v.cells.size≠cs.length || decide (off+v.cells.size > cells.size))=true:=by
   simp[b];rw[d.1];exact c
  simp only;rw[if_neg (by simpa using hno)];exact p
def Kw(f:Env):List Operand->Option (List E)
 | []=>some []
 | x::l=>(ev f x).bind λe=>(Kw f l).map (e :: ·)
def DF{α:Type}:Nat->List α->List (Nat×α)
 | _,[]=>[]
 | k,x::l=>(k,x)::DF (k+1) l
def HB(k:Nat):Nat->List E->List (Nat×List C)
 | _,[]=>[]
 | i,e::l=>(i*k,eC e)::HB k (i+1) l
theorem Zb{f:Env}:∀ {l:List Operand} {es:List E},Kw f l=some es->∀(j:Nat) (x:Operand) (e:E),l[j]?=some x->es[j]?=some e->ev f x=some e
 | [],es,h,j,x,e,a,_=>by simp at a
 | y::l,es,h,j,x,e,a,b=>by
  simp only[Kw,pu,d7]at h;obtain⟨e',d,es',c,rfl⟩:=h
  cases j with
  | zero=>simp at a b;subst a b;exact d
  | succ j=>exact Zb c j x e (by simpa using a) (by simpa using b)
theorem CZ{f:Env}:∀ {l:List Operand} {es:List E},Kw f l=some es->es.length=l.length
 | [],es,h=>by injection h with h;subst h;rfl
 | y::l,es,h=>by
  simp only[Kw,pu,d7]at h;obtain⟨e',b,es',a,rfl⟩:=h;simp[CZ a]
theorem Px(k:Nat):∀(es:List E) (i:Nat) (pre post:List C),pre.length=i*k->post.length=es.length*k->(∀e∈es,(eC e).length=k)->
 Bp (HB k i es) (pre++post)=pre++(es.map eC).flatten
 | [],i,pre,post,_,d,_=>by
  have:post=[]:=pi.1 (by simpa using d);subst this;simp[HB,Bp]
 | e :: es,i,pre,post,b,f,hk=>by
  have a:=hk e (by simp);simp only[p9,pZ,Nat.one_mul]at f
  have:Ae (pre++post) (i*k) (eC e)=(pre++eC e)++post.drop k:=by
   unfold Ae;rw[<-b,List.take_left,<-List.drop_drop,List.drop_left,a]
  simp only[HB,Bp,this];rw[Px k es (i+1) (pre++eC e) (post.drop k) (by simp[b,a,pZ]) (by simp;omega) (λx c=>hk x (by simp[c]))];simp
section
variable {P:Program}{TB:BR}{Z:Ctx}{d:Option Tmp}{ty:TypeId}{pos:String}{af:Array Edge}{g:Option (Nat×Bool)}{f:Env}{σ:Ab}{nx:Nat}
variable {K:E->Ab->Nat->Prop}
theorem Hy{V:View}{k:Nat}:∀ {rows:List (List C)} {cur:Array Value},Dk V rows.flatten cur->(∀r∈rows,r.length=k)->∀(i:Nat) (r:List C) (j:Nat) (c:C),rows[i]?=some r->r[j]?=some c->∃v,cur[i*k+j]?=some v/\AJ V c v:=by
 intro rows cur h hk i r j c hi d
 have key:∀(rows:List (List C)) (i:Nat),(∀r∈rows,r.length=k)->rows[i]?=some r->rows.flatten[i*k+j]?=some c:=by
  intro rows
  induction rows with
  | nil=>intro i _ hi;simp at hi
  | cons f rows g=>
   intro i hk hi
   cases i with
   | zero=>
    simp at hi;subst hi;have a:=(ce.1 d).1;rw[tl,qW,ms,em a];exact d
   | succ i=>
    have b:=hk f (by simp);rw[tl,f7 (by rw[b,pZ];omega),b]
    have:(i+1)*k+j-k=i*k+j:=by rw[pZ];omega
    rw[this];exact g i (λr l=>hk r (by simp[l])) (by simpa using hi)
 have e:=key rows i hk hi
 have a:i*k+j<cur.size:=by rw[h.1];exact(ce.1 e).1
 exact⟨cur[i*k+j],pm a,h.2 _ c _ e (pm a)⟩
theorem NU{V:View}{zv:Value}{z:List Value}{n:Nat}(d:zv.cells.toList=z)(o:z.all QO=true):Dk V ((List.replicate n (z.map zC)).flatten) ((Array.range (n*z.length)).map (zv.cells[· % zv.cells.size]!)):=by
 have k:zv.cells.size=z.length:=by rw[<-d];simp
 refine⟨by simp[s7],λq c v f s=>?_⟩
 have b:q<n*z.length:=by
  have:=(ce.1 f).1
  simpa[s7]using this
 have hk:0<z.length:=by rcases qk z.length with r|r;(rw[r]at b;simp at b);exact r
 have a:q%z.length<z.length:=Nat.mod_lt _ hk
 have y : ((List.replicate n (z.map zC)).flatten)[q]?=some (zC z[q%z.length]):=by
  have u:q / z.length<n:=Nat.div_lt_of_lt_mul (by rw[su];exact b)
  have key:∀(n i j:Nat),i<n->j<z.length->((List.replicate n (z.map zC)).flatten)[i*z.length+j]?=some (zC (z[j]?.getD undef)):=by
   intro n
   induction n with
   | zero=>intro i j h;omega
   | succ n t=>
    intro i j hi p;rw[sg,tl]
    cases i with
    | zero=>rw[qW,ms,em (by simpa using p)];simp[p]
    | succ i=>
     rw[f7 (by simp[pZ];omega)]
     have:(i+1)*z.length+j-(z.map zC).length=i*z.length+j:=by simp[pZ];omega
     rw[this];exact t i j (by omega) p
  have:=key n (q / z.length) (q%z.length) u a
  have e:q / z.length*z.length+q%z.length=q:=by rw[su];exact Nat.div_add_mod q _
  rw[e]at this;rw[this];simp[a]
 rw[y]at f
 injection f with f
 subst f
 have x:v=z[q%z.length]:=by
  simp only[Array.getElem?_map,d7]at s;obtain⟨q',m,rfl⟩:=s
  have l:q'=q:=by
   have:=pI.1 m;obtain⟨A,w⟩:=this
   simpa using w.symm
  subst l
  have g:q'%zv.cells.size<zv.cells.size:=by rw[k];exact a
  rw[getElem!_pos zv.cells _ g];subst d;simp
 rw[x];exact Ls (gc.1 o _ (p6 a))
theorem HM{t:TypeId}{z:List Value}(h:cF P t=some z):∃i zv,P.info? t=some i/\i.zero=some zv/\zv.cells.toList=z:=by
 simp only[cF,pu,d7]at h;obtain⟨i,hi,zv,b,a⟩:=h;exact⟨i,zv,hi,b,a⟩
theorem VS{V:View}(h:Inv TB Z V σ){e:TypeId}{k c:Nat}{rows:List (List C)}{cur:Array Value}{w:World}(n:w=V.w.alloc (.cells cur e))(f:cur.size=c*k)(d:rows.length<=c)(g:c<=maxLen)(hk:∀r∈rows,r.length=k)
 (p:∀(i:Nat) (r:List C) (j:Nat) (c:C),rows[i]?=some r->r[j]?=some c->∃v,cur[i*k+j]?=some v/\AJ V c v) :
 Inv TB Z (Ax V V.w.heap.size c False w) ((V.nx,.cells e k rows)::σ)/\Ext V (Ax V V.w.heap.size c False w)/\AJ (Ax V V.w.heap.size c False w) (.arr V.nx k 0 rows.length) (.slice (some ⟨V.w.heap.size,0,none⟩) rows.length c):=by
 subst n;have ee:Ext V (Ax V V.w.heap.size c False (V.w.alloc (.cells cur e))):=Fc (by simp) λb hb=>Bm _ _ _ (h.iLt b hb)
 have l:(Ax V V.w.heap.size c False (V.w.alloc (.cells cur e))).ρ V.nx=V.w.heap.size:=by simp[Ax]
 have a:(Ax V V.w.heap.size c False (V.w.alloc (.cells cur e))).cap V.nx=c:=by simp[Ax]
 have m:=h.alloc (c:=c) (nl:=False) (w:=V.w.alloc (.cells cur e)) (ob:=.cells e k rows) rfl rfl rfl rfl (by simp) (λb hb=>Bm _ _ _ hb) (.inr ⟨by simp[Ax],cur,by rw[l];exact Ck _ _,by rw[a];exact f,by rw[a];exact d,by rw[a];exact g,hk,
  λi r j c hi o=>let ⟨v,s,q⟩:=p i r j c hi o;⟨v,s,q.ext ee⟩⟩)
 refine⟨m.1,m.2,?_⟩;have:=@AJ.arr (Ax V V.w.heap.size c False (V.w.alloc (.cells cur e))) V.nx k 0 rows.length (by simp[Ax]) (by simp[Ax]) (by rw[a];omega);rw[l,a,qW,tz]at this;exact this
theorem Li{t e:TypeId}{k b:Nat}{z:List Value}{x y:Operand}{ik ik':IntKind}{n c:Int}[hl:CS P t e k b][hz:BQ P e z](hx:ev f x=some (eI ik n))(hy:ev f y=some (eI ik' c))(a:z.length=k)(I:z.all QO=true)(hb0:0<b)
 (h0:0<=n) (hnc:n<=c) (hc:c*b<=140737488355328) (hK:K (.o (.arr nx k 0 n.toNat)) ((nx,.cells e k (List.replicate n.toNat (z.map zC)))::σ) (nx+1)):CY P TB Z ⟨d,.makeSlice t x y,ty,pos,af,g⟩ f σ nx K:=
 DO λV ρ S h2 h3=>by
  subst h3;obtain⟨i,hu,hi,p,u⟩:=Hk hl.out;obtain⟨i',zv,h,A,m⟩:=HM hz.out
  rw[hi]at h;injection h with h;subst h
  have G:ρ x=.int ik n:=AJ.val (S.get (by simp[Op.operands]) hx);have F:ρ y=.int ik' c:=AJ.val (S.get (by simp[Op.operands]) hy)
  have Q:0<=c:=by omega
  have hcb:c<=c*b:=by
   have:=p7 (show (1:Int)<=(b:Int) by omega) Q;omega
  have wn:IntKind.i64.wrap n=n:=IntWalk.i64_in n (by omega);have wc:IntKind.i64.wrap c=c:=IntWalk.i64_in c (by omega)
  have Y:zv.cells.size=k:=by rw[<-a,<-m];simp
  let cur:Array Value:=(Array.range (c.toNat*z.length)).map (zv.cells[· % zv.cells.size]!)
  have B:=NU (V:=V) (n:=c.toNat) m I
  have q:∀r∈List.replicate c.toNat (z.map zC),r.length=k:=λr H=>by rw[q6 H];simp[a]
  obtain⟨L,M,s⟩:=VS h2 (e:=e) (k:=k) (c:=c.toNat) (rows:=List.replicate n.toNat (z.map zC)) (cur:=cur) rfl (by simp[cur,a]) (by simp;omega) (by unfold maxLen;omega) (λr H=>by rw[q6 H];simp[a])
   (λi r j cc hi hj=>Hy B q i r j cc (by
    rw[List.getElem?_replicate]at hi |-;split at hi
    ·rw[if_pos (by omega)];exact hi
    ·cases hi) hj)
  rw[sR]at s;refine⟨.slice (some ⟨V.w.heap.size,0,none⟩) n.toNat c.toNat,_,_,_,?_,M,L,(show Br _ (.o _) _ from s),hK⟩
  have R:(b:Int)*c<=140737488355328:=by rw[rN];exact hc
  have ht:¬(281474976710656:Int)<(b:Int)*c:=by omega
  show ((do let v <-Instr.makeSlice t (ρ x) (ρ y);pure (Go.Next.value v):Sem Go.Next)).run P V.w=_
  rw[G,F]
  have J:(Instr.makeSlice t (.int ik n) (.int ik' c)).run P V.w=.ok (.slice (some ⟨V.w.heap.size,0,none⟩) n.toNat c.toNat) (V.w.alloc (.cells cur e)):=by
   have X:¬c<0:=by omega
   have U:¬n<0:=by omega
   have T:¬c<n:=by omega
   simp only[Instr.makeSlice,pp,run_underlying hu,kw,asInt,asIntOf,pure_bind,bind_pure_comp,map_pure,typeInfo,sizeOf,wn,wc];by_cases l:c.toNat*k=0
   ·have N:cur = #[]:=by
     have:cur.size=0:=by simp[cur,a,l]
     exact q7 this
    simp[go_sem,hi,u,p,X,U,T,ht,askRoom,l,newRow,newObj,N];rfl
   ·simp[go_sem,hi,u,p,X,U,T,ht,askRoom,l,newRow,newObj,zeroValue,typeInfo,A,cur,a]
    rfl
  simp only[pp,J,kw];rfl
theorem Og{α β:Type}(h:α->β):∀(l:List α) (k:Nat),(DF k l).map (λx=>(x.1,h x.2))=DF k (l.map h)
 | [],_=>rfl
 | x::l,k=>by simp[DF,Og h l (k+1)]
theorem N6{V:View}{size:Nat}{ρ:Operand->Value}:∀(l:List Operand) (es:List E) (i:Nat),(∀x∈l,∀e,ev f x=some e->Br V e (ρ x))->Kw f l=some es->(∀e∈es,UM e=true)->(∀e∈es,(eC e).length=size)->
 SL V (λi=>some (i*size,size)) (DF i (l.map ρ)) (HB size i es)
 | [],es,i,_,h,_,_=>by injection h with h;subst h;trivial
 | x::l,es,i,a,h,c,hk=>by
  simp only[Kw,pu,d7]at h;obtain⟨e',j,es',g,rfl⟩:=h;refine⟨?_,Pv (c e' (by simp)) (a x (by simp) e' j),N6 l es' (i+1) (λx d=>a x (by simp[d])) g (λe b=>c e (by simp[b])) (λe b=>hk e (by simp[b]))⟩;rw[hk e' (by simp)]
theorem PY(k:Nat):∀(es:List E) (i n:Nat),(∀e∈es,(eC e).length=k)->i+es.length<=n->∀x∈HB k i es,x.1+x.2.length<=n*k
 | [],_,_,_,_,x,h=>by simp[HB]at h
 | e :: es,i,n,hk,a,x,h=>by
  simp only[HB,mt]at h;simp only[p9]at a
  rcases h with rfl|h
  ·simp only[hk e (by simp)]
   have:=p8 k (show i+1<=n by omega);rw[pZ]at this;omega
  ·exact PY k es (i+1) n (λe b=>hk e (by simp[b])) (by omega) x h
theorem Qp{t e:TypeId}{k b:Nat}{z:List Value}(U:jB P t=some (e,k,b))(R:cF P e=some z)(c:z.length=k)(H:z.all QO=true){xs:List Operand}{es:List E}{V:View}{ρ:Operand->Value}(B:∀x∈xs,∀e,ev f x=some e->Br V e (ρ x))
 (u:Kw f xs=some es) (T:es.all UM=true) (hk:∀x∈es,(eC x).length=k) (X:xs.length*k<=16777216) :
 ∃cur,(Instr.buildSlice t xs.length ((DF 0 xs).toArray.map λ(i,x)=>(i,ρ x))).run P V.w=.ok (.slice (some ⟨V.w.heap.size,0,none⟩) xs.length xs.length) (V.w.alloc (.cells cur e))/\cur.size=xs.length*k/\Dk V (es.map eC).flatten cur:=by
 obtain⟨i,S,hi,s,_⟩:=Hk U;obtain⟨i',zv,j,F,o⟩:=HM R
 rw[hi]at j;injection j with j;subst j
 have Q:zv.cells.size=k:=by rw[<-c,<-o];simp
 have v:=CZ u;have I:=N6 (size:=k) xs es 0 B u (λx r=>gc.1 T x r) hk;have G:=NU (V:=V) (n:=xs.length) o H
 have p:((List.replicate xs.length (z.map zC)).flatten).length=xs.length*k:=by simp[s7,c]
 obtain⟨cur,A,J⟩:=GV _ _ _ _ I G (λx r=>by rw[p];exact PY k es 0 xs.length hk (by omega) x r);have M:=Px k es 0 [] ((List.replicate xs.length (z.map zC)).flatten) (by simp) (by rw[p,v]) hk;simp only[sj]at M;rw[M]at J;refine⟨cur,?_,?_,J⟩
 ·have d:((DF 0 xs).toArray.map λ(i,x)=>(i,ρ x)).toList=DF 0 (xs.map ρ):=by
   rw[<-Og];simp
  have L:¬2 ^ 24<xs.length*k:=by
   have:(2:Nat) ^ 24=16777216:=by decide
   omega
  simp only[Instr.buildSlice,pp,run_underlying S,kw,sizeOf,typeInfo,bind_pure_comp]
  have y:¬16777216<xs.length*k:=by omega
  have m:=d;simp only[tu]at m;by_cases K:xs.length*k=0
  ·have q:∀g:Nat->Value,Array.map g (Array.range (xs.length*k)) = #[]:=λg=>q7 (by simp[K])
   rw[c,q]at A;simp[go_sem,hi,s,newRow,newObj,y,q,m];rw[if_pos K,A];rfl
  ·rw[c]at A
   unfold Value.cells at A;simp[go_sem,hi,s,K,y,newRow,newObj,zeroValue,typeInfo,F,m];rw[A];rfl
 ·rw [J.1]
  have:∀l:List E,(∀x∈l,(eC x).length=k)->(l.map eC).flatten.length=l.length*k:=by
   intro l
   induction l with
   | nil=>simp
   | cons a l N=>intro h;simp[N (λx r=>h x (by simp[r])),h a (by simp),pZ,sr]
  rw[this es hk,v]
end
abbrev eT(l:List UInt8):E:=.o (.d (.v (.string ⟨l.toArray⟩)))
def QG:List E->Option (List (List D))
 | []=>some []
 | e::l=>(RD (eC e)).bind λr=>(QG l).map (r :: ·)
theorem QH:∀ {l:List E} {rows:List (List D)},QG l=some rows->rows.length=l.length/\∀(i:Nat) (r:List D),rows[i]?=some r->∃e,l[i]?=some e/\RD (eC e)=some r
 | [],rows,h=>by injection h with h;subst h;exact⟨rfl,λi r hi=>by simp at hi⟩
 | e::l,rows,h=>by
  simp only[QG,pu,d7]at h;obtain⟨g,f,rows',d,rfl⟩:=h;have a:=QH d;refine⟨by simp[a.1],λi r hi=>?_⟩
  cases i with
  | zero=>simp at hi;subst hi;exact⟨e,rfl,f⟩
  | succ i=>obtain⟨e',c,b⟩:=a.2 i r (by simpa using hi);exact⟨e',by simpa using c,b⟩
def l5(P:Program)(t:TypeId):Option (List (Nat×Nat)):=match P.underlying t with
 | some (.struct fs)=>fs.toList.mapM λf=>(P.info? f.type).map λi=>(f.offset,i.size)
 | some (.array n e)=>(P.info? e).map λi=>(List.range n).map λj=>(j*i.size,i.size)
 | _=>none
class EL (P:Program) (t:TypeId) (fl:outParam (List (Nat×Nat))):Prop where
 out:l5 P t=some fl
def Gb(fl:List (Nat×Nat)):List (Nat×Operand)->List E->Option (List (Nat×List C))
 | [],[]=>some []
 | (i,_)::ps,e::es=>match fl[i]? with
  | some (off,size)=>bif Nat.beq (eC e).length size && UM e then (Gb fl ps es).map ((off,eC e) :: ·) else none
  | none=>none
 | _,_=>none
section
variable {P:Program}{TB:BR}{Z:Ctx}{d:Option Tmp}{ty:TypeId}{pos:String}{af:Array Edge}{g:Option (Nat×Bool)}{f:Env}{σ:Ab}{nx:Nat}
variable {K:E->Ab->Nat->Prop}
theorem IU{t e:TypeId}{k b n:Nat}{z:List Value}{parts:Array (Nat×Operand)}(A:jB P t=some (e,k,b))(q:cF P e=some z)(j:z.length=k)(m:z.all QO=true){es:List E}{V:View}{ρ:Operand->Value}(h:NV V ⟨d,.buildSlice t n parts,ty,pos,af,g⟩ f ρ)
 (s:DF 0 (parts.toList.map (·.2))=parts.toList) (y:parts.toList.length=n) (o:Kw f (parts.toList.map (·.2))=some es) (u:es.all UM=true) (hk:∀x∈es,(eC x).length=k) (l:n*k<=16777216) :
 ∃cur,(execOp ρ ⟨d,.buildSlice t n parts,ty,pos,af,g⟩).run P V.w=.ok (.value (.slice (some ⟨V.w.heap.size,0,none⟩) n n)) (V.w.alloc (.cells cur e))/\cur.size=n*k/\Dk V (es.map eC).flatten cur:=by
 have a:(parts.toList.map (·.2)).length=n:=by simpa using y
 obtain⟨cur,c,p,F⟩:=Qp (P:=P) (f:=f) (V:=V) (xs:=parts.toList.map (·.2)) (ρ:=ρ) A q j m (λx r e B=>h.get (by simp only[Op.operands];simpa using r) B) o u hk (by rw[a];exact l);rw[a]at c p;refine⟨cur,?_,p,F⟩;rw[s]at c
 show ((do let v <-Instr.buildSlice t n (parts.map λ(i,x)=>(i,ρ x));pure (Go.Next.value v):Sem Go.Next)).run P V.w=_
 rw[Array.toArray_toList]at c;simp only[pp,c,kw];rfl
theorem P8{t e:TypeId}{k b n:Nat}{z:List Value}{parts:Array (Nat×Operand)}{es:List E}{rows:List (List D)}[hl:CS P t e k b][T:BQ P e z](X:DF 0 (parts.toList.map (·.2))=parts.toList)(N:parts.toList.length=n)
 (A:Kw f (parts.toList.map (·.2))=some es) (Y:es.all UM=true) (G:QG es=some rows) (hk:(rows.all λr=>Nat.beq r.length k)=true) (F:z.length=k) (H:z.all QO=true) (K:Nat.ble 1 k=true) (p:Nat.ble (n*k) 16777216=true) :
 A9 P TB Z ⟨d,.buildSlice t n parts,ty,pos,af,g⟩ f σ nx (.o (.d (.l rows))):=
 Kh λV ρ h1 h2=>by
  have c:=QH G
  have s:∀x∈es,(eC x).length=k:=λx U=>by
   obtain⟨i,hi,rfl⟩:=pR U
   have y:i<rows.length:=by omega
   obtain⟨e',m,S⟩:=c.2 i rows[i] (d6 y);rw[d6 hi]at m
   injection m with m
   rw[m,<-On S];exact i7 (gc.1 hk _ (p6 y))
  obtain⟨cur,m,S,h5⟩:=IU hl.out T.out F H h1 X N A Y s (am p);obtain⟨hi,Q⟩:=h2.WU (w:=V.w.alloc (.cells cur e)) rfl rfl rfl (by simp) (λb hb=>Bm _ _ _ hb)
  have q:rows.length=n:=by
   rw[c.1,CZ A];simpa using N
  have a:∀(i:Nat) (r:List D) (j:Nat) (x:D),rows[i]?=some r->r[j]?=some x->∃v,cur[i*k+j]?=some v/\Dn V.I V.w x v:=λi r j x hi u=>by
   obtain⟨e',B,M⟩:=c.2 i r hi;have h8:=MJ M j x u
   obtain⟨v,R,h⟩:=Hy h5 (λr G=>by
    obtain⟨e2,L,rfl⟩:=d8.1 G
    exact s e2 L) i (eC e') j (.d x) (by simp[B]) h8
   cases h with
   | d h=>exact⟨v,R,h⟩
  have J:n<=maxLen:=by
   have R:=am p;have:n<=n*k:=qR _ (am K);unfold maxLen;omega
  refine⟨_,_,m,Q,hi,rfl,?_⟩;have hb:(Ml V (V.w.alloc (.cells cur e))).I V.w.heap.size:=.inr rfl;have hh:(Ml V (V.w.alloc (.cells cur e))).w.heap[V.w.heap.size]?=some (.cells cur e):=Ck _ _;have := @Dn.l (Ml V (V.w.alloc (.cells cur e))).I (Ml V (V.w.alloc (.cells cur e))).w rows V.w.heap.size 0 k n (λi j=>cur.getD (i*k+j) undef) hb (by omega) J
   (λi r hi=>i7 (gc.1 hk _ (co hi)))
   (λi r j x hi u=>by
    obtain⟨v,B,_⟩:=a i r j x hi u
    simp[World.cell?,hh,B])
   (λi r j x hi u=>by
    obtain⟨v,B,M⟩:=a i r j x hi u
    have:cur.getD (i*k+j) undef=v:=by simp[B]
    rw[this];exact M.ext Q)
  rw[q]at this;exact .d this
theorem Bh{t e:TypeId}{k b n:Nat}{z:List Value}{parts:Array (Nat×Operand)}{es:List E}[H:CS P t e k b][A:BQ P e z](F:DF 0 (parts.toList.map (·.2))=parts.toList)(w:parts.toList.length=n)
 (l:Kw f (parts.toList.map (·.2))=some es) (G:es.all UM=true) (j:∀x∈es,(eC x).length=k) (m:z.length=k) (p:z.all QO=true) (s:Nat.ble 1 k=true) (a:Nat.ble (n*k) 16777216=true)
 (J:K (.o (.arr nx k 0 n)) ((nx,.cells e k (es.map eC))::σ) (nx+1)):CY P TB Z ⟨d,.buildSlice t n parts,ty,pos,af,g⟩ f σ nx K:=
 DO λV ρ Q N v=>by
  subst v;obtain⟨cur,v,M,L⟩:=IU H.out A.out m p Q F w l G j (am a)
  have i:(es.map eC).length=n:=by
   rw[gt,CZ l];simpa using w
  have q:n<=maxLen:=by
   have S:=am a;have:n<=n*k:=qR _ (am s);unfold maxLen;omega
  have h:∀r∈es.map eC,r.length=k:=λr B=>by
   obtain⟨R,u,rfl⟩:=d8.1 B;exact j R u
  obtain⟨hi,I,y⟩:=VS N (e:=e) (k:=k) (c:=n) (rows:=es.map eC) (cur:=cur) rfl M (by omega) q h (Hy L h);rw[i]at y;exact⟨_,_,_,_,v,I,hi,(show Br _ (.o _) _ from y),J⟩
theorem Dx{V:View}{ρ:Operand->Value}{fl:List (Nat×Nat)}:∀(ps:List (Nat×Operand)) (es:List E) (qs:List (Nat×List C)),(∀x∈ps.map (·.2),∀e,ev f x=some e->Br V e (ρ x))->Kw f (ps.map (·.2))=some es->Gb fl ps es=some qs->
 SL V (fl[·]?) (ps.map λ(i,x)=>(i,ρ x)) qs
 | [],es,qs,_,a,h=>by
  injection a with a;subst a
  injection h with h;subst h;trivial
 | (i, x)::ps,es,qs,b,a,h=>by
  simp only[qz,Kw,pu,d7]at a;obtain⟨e',k,es',j,rfl⟩:=a;simp only[Gb]at h;split at h
  ·rename_i off size c
   cases hb:Nat.beq (eC e').length size && UM e'
   ·rw[hb]at h;cases h
   ·rw[hb]at h
    simp only[cond_true,d7]at h;obtain⟨qs',g,rfl⟩:=h;rw[d4]at hb;have:=i7 hb.1;subst this;exact⟨c,Pv hb.2 (b x (by simp) e' k),Dx ps es' qs' (λy d=>b y (by simp at d |-;exact .inr d)) j g⟩
  ·cases h
theorem AA{t:TypeId}{z:List Value}{fl:List (Nat×Nat)}{parts:Array (Nat×Operand)}{es:List E}{qs:List (Nat×List C)}[X:BQ P t z][hf:EL P t fl](R:Kw f (parts.toList.map (·.2))=some es)(Y:Gb fl parts.toList es=some qs)
 (M:z.all QO=true) (N:(qs.all λx=>Nat.ble (x.1+x.2.length) z.length)=true):A9 P TB Z ⟨d,.build t parts,ty,pos,af,g⟩ f σ nx (.a (Bp qs (z.map zC))):=
 AR λV ρ h1 _=>by
  obtain⟨i,zv,hi,A,s⟩:=HM X.out;have Q:=Dx (V:=V) (ρ:=ρ) parts.toList es qs (λx J e he=>h1.get (by simp only[Op.operands];simpa using J) he) R Y
  have I:Dk V (z.map zC) zv.cells:=by
   refine⟨by rw[gt,<-s];simp,λj c v T S=>?_⟩;simp only[i8,d7]at T;obtain⟨u,k,rfl⟩:=T
   have:u=v:=by
    rw[<-s]at k;simp only[qu]at k;rw[k]at S;exact Option.some.inj S
   subst this;exact Ls (gc.1 M u (co k))
  obtain⟨cells,G,h4⟩:=GV _ _ _ _ Q I (λx J=>by rw[gt];exact Jt _ _ N x J);have r:=hf.out
  have b:(parts.map λ(i,x)=>(i,ρ x)).toList=parts.toList.map λ(i,x)=>(i,ρ x):=by simp
  refine⟨.agg cells,?_,cells,rfl,h4⟩
  have hb : (Instr.build t (parts.map λ(i,x)=>(i,ρ x))).run P V.w=.ok (.agg cells) V.w:=by
   unfold l5 at r;split at r
   ·rename_i fs k
    have L:∀(l:List Field) (ll:List (Nat×Nat)),(l.mapM λf=>(P.info? f.type).map λi=>(f.offset,i.size))=some ll->∀w,((l.mapM λf=>do pure (f.offset,<-sizeOf f.type)):Sem (List (Nat×Nat))).run P w=.ok ll w:=by
     intro l
     induction l with
     | nil=>intro ll h w;simp at h;subst h;simp[go_sem]
     | cons y l H=>
      intro ll h w;simp only[rJ,s8,pu,d7]at h;obtain⟨p,⟨ii,o,rfl⟩,ll',h5,U⟩:=h;simp at U;subst U
      have K:(sizeOf y.type).run P w=.ok ii.size w:=by simp[sizeOf,typeInfo,o,go_sem]
      have ihh:=H ll' h5 w;simp only[bind_pure_comp]at ihh;simp only[rJ,pp,K,kw,bind_pure_comp,rW,ihh]
    have B:=L fs.toList fl r V.w
    have m:(zeroValue t).run P V.w=.ok zv V.w:=by simp[zeroValue,typeInfo,hi,A,go_sem]
    have ha:((fs.mapM λf=>do pure (f.offset,<-sizeOf f.type)):Sem (Array (Nat×Nat))).run P V.w=.ok fl.toArray V.w:=by
     rw[sk,rW,B];rfl
    rw[<-b]at G;simp only[Instr.build,pp,m,kw,run_underlying k,ha];simp only[qA];rw[G];rfl
   ·rename_i n e k
    simp only[d7]at r;obtain⟨ii,o,rfl⟩:=r
    have m:(zeroValue t).run P V.w=.ok zv V.w:=by simp[zeroValue,typeInfo,hi,A,go_sem]
    have K:(sizeOf e).run P V.w=.ok ii.size V.w:=by simp[sizeOf,typeInfo,o,go_sem]
    have q:∀(ps:List (Nat×Value)) (c c':Array Value),Instr.fill (λi=>((List.range n).map λj=>(j*ii.size,ii.size))[i]?) c ps=some c'->Instr.fill (λi=>some (i*ii.size,ii.size)) c ps=some c':=by
     intro ps
     induction ps with
     | nil=>intro c c' h;simpa[Instr.fill]using h
     | cons p ps H=>
      intro c c' h;obtain⟨i',v'⟩:=p;unfold Instr.fill at h |-;by_cases F:i'<n
      ·simp only [i8,rQ F,qT]at h
       simp only at h |-;split at h
       ·cases h
       ·rename_i hno
        rw[if_neg hno];exact H _ _ (by simpa only[i8]using h)
      ·simp[F]at h
    rw[<-b]at G;simp only[Instr.build,pp,m,kw,run_underlying k,K];rw[q _ _ _ G];rfl
   ·cases r
  show ((do let v <-Instr.build t (parts.map λ(i,x)=>(i,ρ x));pure (Go.Next.value v):Sem Go.Next)).run P V.w=_
  simp only[pp,hb,kw];rfl
theorem Gu(k e:Nat)(i:K (.o (.arr nx k 0 0)) ((nx,.cells e k [])::σ) (nx+1)):CY P TB Z ⟨d,.assign (.const (.slice none 0 0)),ty,pos,af,g⟩ f σ nx K:=by
 intro V a m l j;subst j;obtain⟨hi,h⟩:=l.alloc (c:=0) (nl:=True) (w:=V.w) (ob:=.cells e k []) rfl rfl rfl rfl (i9 _) (λ_ _=>rfl) (.inl ⟨by simp[Ax],rfl⟩);unfold Oper.wp
 have b:(execOp a.eval ⟨d,.assign (.const (.slice none 0 0)),ty,pos,af,g⟩).run P V.w=.ok (.value (.slice none 0 0)) V.w:=by simp[execOp,go_sem]
 rw[b];exact⟨Ax V V.w.heap.size 0 True V.w,.slice none 0 0,.o (.arr V.nx k 0 0),_,rfl,rfl,h,hi,AJ.nil (by simp[Ax]) (by simp[Ax]),i⟩
theorem kT{t:TypeId}{x:Operand}{s:List UInt8}[b:Ee P t](a:ev f x=some (eT s)):A9 P TB Z ⟨d,.call ⟨.builtin .len,#[x],#[t]⟩,ty,pos,af,g⟩ f σ nx (eI .i64 s.length):=by
 have:=kS (t:=t) (P:=P) (TB:=TB) (Z:=Z) (d:=d) (ty:=ty) (pos:=pos) (af:=af) (g:=g) (σ:=σ) (nx:=nx) a;exact this
theorem ff{t:TypeId}{x y:Operand}{s:List UInt8}{n:Int}{c:UInt8}{ik:IntKind}[j:Ee P t](e:ev f x=some (eT s))(b:ev f y=some (eI ik n))
 (i:0<=n) (h:s[n.toNat]?=some c):A9 P TB Z ⟨d,.index t x y,ty,pos,af,g⟩ f σ nx (eI .u8 (c.toNat:Int)):=by
 obtain⟨a,rfl⟩:=ce.1 h;exact fe (P:=P) (TB:=TB) (Z:=Z) (d:=d) (ty:=ty) (pos:=pos) (af:=af) (g:=g) (σ:=σ) (nx:=nx) e b i a
theorem mC{t yt:TypeId}{x y:Operand}{a b:List UInt8}(e:ev f x=some (eT a))(c:ev f y=some (eT b))(j:a.length+b.length<=9223372036854775807) :
 A9 P TB Z ⟨d,.binOp .add t x y yt,ty,pos,af,g⟩ f σ nx (eT (a++b)):=BP e c rfl λw=>by
 have i:¬((((⟨a.toArray⟩:ByteArray).size+(⟨b.toArray⟩:ByteArray).size:Nat):Int) > IntKind.i64.max):=by
  have:IntKind.i64.max=9223372036854775807:=by decide
  have l:(⟨a.toArray⟩:ByteArray).size=a.length:=by simp[ByteArray.size]
  have k:(⟨b.toArray⟩:ByteArray).size=b.length:=by simp[ByteArray.size]
  omega
 have h:(⟨a.toArray⟩:ByteArray)++⟨b.toArray⟩=⟨(a++b).toArray⟩:=by
  apply ByteArray.ext;simp
 have:(do eqGuard .add t x y (.string ⟨a.toArray⟩) (.string ⟨b.toArray⟩);binOp .add t (.string ⟨a.toArray⟩) (.string ⟨b.toArray⟩):Sem Value)=Op.stringOp .add ⟨a.toArray⟩ ⟨b.toArray⟩:=by
  simp[eqGuard,binOp]
 rw[this];unfold Op.stringOp;simp only;rw[if_neg i,h];rfl
theorem mF{t yt:TypeId}{x y:Operand}{a b:List UInt8}(e:ev f x=some (eT a))(c:ev f y=some (eT b)) :
 A9 P TB Z ⟨d,.binOp .eql t x y yt,ty,pos,af,g⟩ f σ nx (eB (decide (a=b))):=BP e c rfl λw=>by
 simp[eqGuard,binOp,Op.stringOp,go_sem];rw[qU];simp
theorem mQ{t yt:TypeId}{x y:Operand}{a b:List UInt8}(e:ev f x=some (eT a))(c:ev f y=some (eT b)) :
 A9 P TB Z ⟨d,.binOp .neq t x y yt,ty,pos,af,g⟩ f σ nx (eB (decide (a≠b))):=BP e c rfl λw=>by
 simp[eqGuard,binOp,Op.stringOp,go_sem];rw[qU];simp
end
def C.nB:C->Bool
 | .d (.v _)=>true
 | _=>false
def E.sc:E->Bool
 | .o c=>c.nB
 | .a cs=>cs.all C.nB
 | .t xs=>xs.all λx=>x.2.all C.nB
 | .e=>true
theorem Mz{V V':View}{c:C}{v:Value}(h:AJ V c v)(a:c.nB=true):AJ V' c v:=by
 cases h with
 | d h=>cases h with
  | v b=>exact .d (.v b)
  | _=>cases a
 | _=>cases a
theorem XX{V V':View}{e:E}{v:Value}(h:Br V e v)(l:e.sc=true):Br V' e v:=by
 cases e with
 | e=>exact h
 | o c=>exact Mz h l
 | a cs=>
  obtain⟨vs,m,k⟩:=h;exact⟨vs,m,k.1,λj c v d f=>Mz (k.2 j c v d f) (gc.1 l c (co d))⟩
 | t xs=>
  obtain⟨vs,m,k,q⟩:=h;refine⟨vs,m,k,λj x v d f=>?_⟩;have p:=q j x v d f;have n:=gc.1 l x (co d);obtain⟨b,cs⟩:=x;cases b
  ·obtain⟨c,g,i⟩:=p
   have g:cs=[c]:=g;subst g;exact⟨c,rfl,Mz i (gc.1 n c (by simp))⟩
  ·obtain⟨ws,g,i⟩:=p
   exact⟨ws,g,i.1,λj c v d f=>Mz (i.2 j c v d f) (gc.1 n c (co d))⟩
inductive CV (σ:Ab):C->C->Prop
 | pure {c:C}:c.BT=true->CV σ c c
 | arr {id k off len:Nat} {T:TypeId} {rows:List (List C)} {ds:List (List D)}:look σ id=some (.cells T k rows)->off+len<=rows.length->(rows.drop off).take len=ds.map (λr=>r.map .d)->CV σ (.arr id k off len) (.d (.l ds))
 | ptr {id k i j:Nat} {T:TypeId} {rows:List (List C)} {r:List C} {ds:List D}:look σ id=some (.cells T k rows)->rows[i]?=some r->r.drop j=ds.map .d->CV σ (.ptr id k i j) (.ip ds)
inductive EV (σ:Ab):E->E->Prop
 | o {c c':C}:CV σ c c'->EV σ (.o c) (.o c')
 | nil:EV σ (.a []) (.a [])
 | cons {c c':C} {cs cs':List C}:CV σ c c'->EV σ (.a cs) (.a cs')->EV σ (.a (c::cs)) (.a (c'::cs'))
inductive jF (σ:Ab):List E->List E->Prop
 | nil:jF σ [] []
 | cons {e e':E} {es es':List E}:EV σ e e'->jF σ es es'->jF σ (e::es) (e'::es')
def Ib(V:View)(σ:Ab):View:={ V with I:=λb=>V.I b\/∃id o,look σ id=some o/\¬V.nl id/\E9 V id o b,nx:=0 }
section
variable {P:Program}{TB:BR}{Z:Ctx}{d:Option Tmp}{ty:TypeId}{pos:String}{af:Array Edge}{g:Option (Nat×Bool)}{f:Env}{σ:Ab}{nx:Nat}
variable {K:E->Ab->Nat->Prop}
theorem AJ.mf{V:View}{c:C}{v:Value}(h:AJ V c v)(a:c.BT=true):AJ (Ib V σ) c v:=by
 induction h with
 | d h=>exact .d (h.mono (λ_ h=>.inl h) λ_ _=>rfl)
 | nil=>simp[C.BT]at a
 | arr=>simp[C.BT]at a
 | ptr=>simp[C.BT]at a
 | fn g _ e=>
  simp only[C.BT]at a;exact .fn g λj c v b f=>e j c v b f (Gd _ a j c b)
 | mp=>simp[C.BT]at a
 | mv g _ e=>
  simp only[C.BT]at a;exact .mv g λj c v b f=>e j c v b f (Gd _ a j c b)
theorem Dn.me{V:View}{x:D}{v:Value}(h:Dn V.I V.w x v):Dn (Ib V σ).I (Ib V σ).w x v:=h.mono (λ_ h=>.inl h) λ_ _=>rfl
theorem CV.rel{V:View}(hi:Inv TB Z V σ){c c':C}{v:Value}(h:CV σ c c')(F:AJ V c v):AJ (Ib V σ) c' v:=by
 cases h with
 | pure L=>exact F.mf L
 | @arr id k off len T rows ds z M u=>
  cases F with
  | nil K J=>
   have:ds=[]:=by
    have:=congrArg List.length u;simp at this;exact pi.1 this.symm
   subst this;exact .d .nil
  | arr K p J=>
   rcases hi.st.obj id _ z with ⟨t,_⟩|⟨_,cur,t,Q,P,N,H,G⟩
   ·exact absurd t p
   ·have y:ds.length=len:=by
     have:=congrArg List.length u;simp at this;omega
    have m:∀(i:Nat) (r:List D),ds[i]?=some r->rows[off+i]?=some (r.map .d):=λi r hi=>by
     have n:((rows.drop off).take len)[i]?=some (r.map .d):=by rw[u];simp[hi]
     rw[pP]at n;split at n
     ·rwa[pQ]at n
     ·cases n
    have a:∀(i:Nat) (r:List D) (j:Nat) (x:D),ds[i]?=some r->r[j]?=some x->∃v,cur[(off+i)*k+j]?=some v/\Dn V.I V.w x v:=λi r j x hi A=>by
     obtain⟨v,g,f⟩:=G (off+i) (r.map .d) j (.d x) (m i r hi) (by simp[A])
     cases f with
     | d f=>exact⟨v,g,f⟩
    rw[<-y]at J |-;refine .d (.l (b:=V.ρ id) (o:=off*k) (k:=k) (vs:=λi j=>cur.getD ((off+i)*k+j) undef) (.inr ⟨id,_,z,p,rfl⟩) (by omega) (by omega) (λi r hi=>?_) (λi r j x hi A=>?_) (λi r j x hi A=>?_))
    ·have:=H _ (co (m i r hi))
     simpa using this
    ·obtain⟨v,g,_⟩:=a i r j x hi A
     have e:off*k+i*k+j=(off+i)*k+j:=by rw[pZ]
     rw[e];have:(Ib V σ).w.heap[V.ρ id]?=some (.cells cur T):=t;simp[World.cell?,this,g]
    ·obtain⟨v,g,f⟩:=a i r j x hi A
     have:cur.getD ((off+i)*k+j) undef=v:=by simp[g]
     simp only[this];exact f.me
 | @ptr id k i j T rows r ds z B u=>
  cases F with
  | ptr K p=>
   rcases hi.st.obj id _ z with ⟨t,_⟩|⟨_,cur,t,Q,P,N,H,G⟩
   ·exact absurd t p
   ·have m:∀(q:Nat) (x:D),ds[q]?=some x->r[j+q]?=some (.d x):=λq x s=>by
     have n:(r.drop j)[q]?=some (.d x):=by rw[u];simp[s]
     rwa[pQ]at n
    have a:∀(q:Nat) (x:D),ds[q]?=some x->∃v,cur[i*k+j+q]?=some v/\Dn V.I V.w x v:=λq x s=>by
     obtain⟨v,g,f⟩:=G i r (j+q) (.d x) B (m q x s)
     cases f with
     | d f=>exact⟨v,by rw[pV];exact g,f⟩
    refine .ip (V:=Ib V σ) (vs:=λq=>cur.getD (i*k+j+q) undef) (.inr ⟨id,_,z,p,rfl⟩) (λq x s=>?_) (λq x s=>?_)
    ·obtain⟨v,g,_⟩:=a q x s
     have:(Ib V σ).w.heap[V.ρ id]?=some (.cells cur T):=t;simp[World.cell?,this,g]
    ·obtain⟨v,g,f⟩:=a q x s
     have:cur.getD (i*k+j+q) undef=v:=by simp[g]
     simp only[this];exact f.me
theorem EV.rel{V:View}(hi:Inv TB Z V σ){e e':E}(h:EV σ e e'):∀ {v:Value},Br V e v->Br (Ib V σ) e' v:=by
 have key:∀ {e e':E},EV σ e e'->(∀c c',e=.o c->e'=.o c'->CV σ c c')/\(∀cs cs',e=.a cs->e'=.a cs'->cs.length=cs'.length/\∀(j:Nat) c c',cs[j]?=some c->cs'[j]?=some c'->CV σ c c')/\((∃c c',e=.o c/\e'=.o c')\/∃cs cs',e=.a cs/\e'=.a cs'):=by
  intro e e' h
  induction h with
  | o k=>exact⟨λc c' d b=>(by injection d with d;injection b with b;subst d b;exact k),λ_ _ h=>(by cases h),.inl ⟨_,_,rfl,rfl⟩⟩
  | nil=>exact⟨λ_ _ h=>(by cases h),λcs cs' d b=>(by injection d with d;injection b with b;subst d b;exact⟨rfl,λj c c' f=>(by simp at f)⟩),.inr ⟨_,_,rfl,rfl⟩⟩
  | cons k _ s=>
   refine⟨λ_ _ h=>(by cases h),λcs cs' d b=>?_,.inr ⟨_,_,rfl,rfl⟩⟩
   injection d with d;injection b with b;subst d b
   have:=s.2.1 _ _ rfl rfl;refine⟨by simp[this.1],λj c c' f g=>?_⟩
   cases j with
   | zero=>simp at f g;subst f g;exact k
   | succ j=>exact this.2 j c c' (by simpa using f) (by simpa using g)
 intro v m;obtain⟨r,q,p⟩:=key h
 rcases p with ⟨c,c',rfl,rfl⟩|⟨cs,cs',rfl,rfl⟩
 ·exact(r c c' rfl rfl).rel hi m
 ·obtain⟨vs,rfl,d,b⟩:=m
  obtain⟨l,n⟩:=q cs cs' rfl rfl;refine⟨vs,rfl,by rw[d,l],λj c' u f t=>?_⟩
  have i:j<cs.length:=by rw[l];exact(ce.1 f).1
  exact(n j cs[j] c' (d6 i) f).rel hi (b j _ u (d6 i) t)
theorem LJ{x:Operand}{args:Array Operand}{tys:Array TypeId}{gg:FuncId}{vs:Array Value}(f:cQ P gg){ρ:Operand->Value}(e:ρ x=.func (.func gg) #[] vs)(w:World) :
 (execOp ρ ⟨d,.call ⟨.value x,args,tys⟩,ty,pos,af,g⟩).run P w=.ok (.enter gg (args.map ρ++vs)) w:=by
 obtain⟨fn,i,h,b⟩:=f
 have hb:∃c,fn.body=some c:=by cases hb:fn.body with|none=>rw[hb]at b;cases b|some c=>exact⟨c,rfl⟩
 obtain⟨c,hb⟩:=hb;simp only[execOp,resolve,e,Deferred.ofValue,pure_bind,invoke,callFunc]
 have a:¬fn.name = "runtime.NumGoroutine" := by simpa using h
 simp[Sem.run,program,i,a,hb,go_sem]
theorem HS{V:View}{ρ:Operand->Value}{args:List Operand}{es:List E}(h:∀x∈args,∀e,ev f x=some e->Br V e (ρ x))(a:Kw f args=some es) :
 ∀(j:Nat) e v,es[j]?=some e->(args.map ρ)[j]?=some v->Br V e v:=by
 intro j e v d c;simp only[i8,d7]at c;obtain⟨x,b,rfl⟩:=c;exact h x (co b) e (Zb a j x e b d)
theorem Nm{V:View}{gg:FuncId}{cap:List C}{v:Value}(h:Br V (.o (.fn gg cap)) v):∃vs,v=.func (.func gg) #[] vs/\Dk V cap vs:=by
 have h:AJ V (.fn gg cap) v:=h;generalize a:C.fn gg cap=c at h;cases h<;>cases a;rename_i vs d b;exact⟨vs,rfl,d,b⟩
theorem KL{V Vc V1:View}{S:Uu}(h:Inv TB Z V σ)(m:Ov TB V σ S)(y:∀b,S.J b->Z.J b\/Z.V.w.heap.size<=b\/Z.F b)(j:∀b,S.B b->Z.V.w.heap.size<=b\/Z.F b)(k:Vc.w=V.w){u:Ab}(q:Inv TB (Fv Vc Vc [] S) V1 u)(I':Nat->Prop)(p:∀b,V.I b->I' b)(n:∀b,I' b->V.I b\/(V.w.heap.size<=b/\b<V1.w.heap.size)\/S.B b)
 (A:∀b,V1.I b->(V.w.heap.size<=b\/S.B b)->I' b) (z:∀b,I' b->V1.I b) :
 Inv TB Z { V with I:=I',w:=V1.w } σ/\Ext V { V with I:=I',w:=V1.w } := by
 have d:∀b,b<V.w.heap.size->¬S.B b->V1.w.heap[b]?=V.w.heap[b]?:=λb hb g=>by
  have:=q.old b (by show b<Vc.w.heap.size;rw[k];exact hb) (λh=>h.elim (λ⟨_,_,h,_⟩=>by cases h) g)
  rw[this];show Vc.w.heap[b]?=_;rw[k]
 have l:V.w.heap.size<=V1.w.heap.size:=by have i:Vc.w.heap.size<=V1.w.heap.size:=q.ext.size;rw[k]at i;exact i
 have e:Ext V { V with I:=I',w:=V1.w } := ⟨p,λb hb=>d b (h.iLt b hb) λs=>m.bi b s hb,l,λ_ _=>rfl,λ_ _=>rfl,λ_ _=>Iff.rfl,i9 _⟩
 refine⟨⟨?_,?_,?_,λb hb t=>(d b (lw hb h.ext.size) λs=>(j b s).elim (λh=>by omega) t).trans (h.old b hb t),?_,?_,h.ext.trans e,⟨?_,h.st.lt,?_,h.st.inj⟩,h.live,?_,?_⟩,e⟩
 ·have i:V1.w.os=Vc.w.os:=q.os
  rw[k]at i;exact i.trans h.os
 ·have i:V1.w.tape=Vc.w.tape:=q.tape
  rw[k]at i;exact i.trans h.tape
 ·have i:V1.w.output=Vc.w.output:=q.output
  rw[k]at i;exact i.trans h.output
 ·intro b hb
  rcases n b hb with a|a|a
  ·exact lw (h.iLt b a) l
  ·exact a.2
  ·exact lw (m.r.blt a) l
 ·intro b hb
  rcases n b hb with a|a|a
  ·exact h.iNew b a
  ·exact .inr (.inl (lc h.ext.size a.1))
  ·exact .inr (j b a)
 ·intro id o f
  exact(h.st.obj id o f).AO e (h.st.lt id o f) λg b hb=>d _ ((h.st.obj id o f).blt g hb) (m.ap b ⟨id,o,f,g,hb⟩)
 ·intro id o f g b c hb
  have c:=(AG e (h.st.lt id o f)).1 c
  rcases n _ hb with a|a|a
  ·exact h.st.free id o f g b c a
  ·have:=(h.st.obj id o f).blt g c
   have N:V.w.heap.size<=b:=a.1;omega
  ·exact m.ap b ⟨id,o,f,g,c⟩ a
 ·intro x s
  have:=h.tabs x s;exact⟨p _ this.1,(d _ (h.iLt _ this.1) λM=>m.bi _ M this.1).trans this.2⟩
 ·obtain⟨S1,v,L,K⟩:=q.hid
  have H:∀b,S1.B b->V.w.heap.size<=b\/S.B b:=λb hb=>by
   rcases K b hb with a|a|a
   ·have a:Vc.w.heap.size<=b:=a
    rw[k]at a;exact .inl a
   ·obtain⟨_,_,h,_⟩:=a;cases h
   ·exact .inr a
  have G:∀b,S1.J b->S.J b\/V.w.heap.size<=b\/S.B b:=λb hb=>by
   rcases L b hb with a|a|a|a
   ·exact .inl a
   ·have a:Vc.w.heap.size<=b:=a
    rw[k]at a;exact .inr (.inl a)
   ·obtain⟨_,_,h,_⟩:=a;cases h
   ·exact .inr (.inr a)
  refine⟨S1,⟨v.r,λb hb=>?_,λb hb hi=>v.bi b hb (z b hi),λb t hb=>?_⟩,λb hb=>?_,λb hb=>?_⟩
  ·rcases G b hb with a|a
   ·exact p b (m.ji b a)
   ·exact A b (v.ji b hb) a
  ·obtain⟨id,o,f,g,c⟩:=Jv e h.st.lt t
   rcases H b hb with a|a
   ·have:=(h.st.obj id o f).blt g c
    omega
   ·exact m.ap b ⟨id,o,f,g,c⟩ a
  ·rcases G b hb with a|a|a
   ·exact y b a
   ·exact .inr (.inl (lc h.ext.size a))
   ·exact .inr (j b a)
  ·rcases H b hb with a|a
   ·exact .inl (lc h.ext.size a)
   ·exact j b a
theorem EF{V:View}:HQ V []:=⟨λ_ _ h=>(by cases h),λ_ _ h=>(by cases h),λ_ _ h=>(by cases h),λ_ _ _ _ h=>(by cases h)⟩
theorem A8{x:Operand}{args:Array Operand}{tys:Array TypeId}{gg:FuncId}{cap:List C}{es:List E}{r:E}(T:ev f x=some (.o (.fn gg cap)))(t:Kw f args.toList=some es)(G:(es.all E.BT && C.C1 cap)=true)
 (M:Pure P TB gg (es++cap.map .o) r) (U:r.BT=true):A9 P TB Z ⟨d,.call ⟨.value x,args,tys⟩,ty,pos,af,g⟩ f σ nx r:=by
 intro V a z B Y;have z:=z.Hw;unfold Oper.wp;generalize a.eval=ρ at z |-;obtain⟨vs,p,l⟩:=Nm (z.get (x:=x) (by simp[Op.operands,Call.operands]) T);rw[LJ M.1 p];rw[d4]at G;have u:=CZ t
 have n:Oq { V with nx:=0 } (es++cap.map .o) (args.map ρ++vs):=by
  refine⟨by simp[l.1,u],λj e v q p=>?_⟩
  have m:(args.map ρ).size=es.length:=by simp[u]
  by_cases s:j<es.length
  ·rw[em s]at q
   rw[pM (by rw[m];exact s)]at p;refine Br.BT (V:=V) (V':={ V with nx:=0 }) rfl rfl (HS (λy R e X=>z.get (by simp[Op.operands,Call.operands];right;simpa using R) X) t j e v q (by rw[<-rO];simpa using p)) (gc.1 G.1 e (co q))
  ·rw[f7 (by omega)]at q
   rw[qF (by rw[m];omega),m]at p;simp only[i8,d7]at q;obtain⟨c,N,rfl⟩:=q;exact AJ.BT (V:=V) (V':={ V with nx:=0 }) rfl rfl (l.2 _ c v N p) (Gd _ G.2 _ c N)
 obtain⟨S,A,K,L⟩:=B.hid;refine(M.2 { V with nx:=0 } _ S ⟨B.iLt,EF,B.tabs,rfl,⟨A.r,A.ji,A.bi,λb ⟨_,_,h,_⟩=>by cases h⟩⟩ n).mono ?_;rintro e w' ⟨V1,v,x1,Q,rfl,rfl,k,F,rfl⟩
 obtain⟨H,J⟩:=KL B A K L (Vc:={ V with nx:=0 }) rfl k V1.I (λb hb=>k.ext.i b hb) (λb hb=>by
  rcases k.iNew b hb with h|h|h|h
  ·exact .inl h
  ·exact .inr (.inl ⟨h,k.iLt b hb⟩)
  ·obtain⟨_,_,h,_⟩:=h;cases h
  ·exact .inr (.inr h)) (λb hb _=>hb) (λb hb=>hb)
 exact⟨{ V with I:=V1.I,w:=V1.w },v,rfl,rfl,J,H,Y,Br.BT (V:=V1) (V':={ V with I:=V1.I,w:=V1.w }) rfl rfl F U⟩
theorem IQ{x:Operand}{args:Array Operand}{tys:Array TypeId}{gg:FuncId}{cap:List C}{es es':List E}{r:E}(H:ev f x=some (.o (.fn gg cap)))(K:Kw f args.toList=some es)(q:jF σ (es++cap.map .o) es')
 (hs:Pure P TB gg es' r) (hr:r.sc=true):A9 P TB Z ⟨d,.call ⟨.value x,args,tys⟩,ty,pos,af,g⟩ f σ nx r:=by
 intro V a G p h3;have G:=G.Hw;unfold Oper.wp;generalize a.eval=ρ at G |-;obtain⟨vs,Q,t⟩:=Nm (G.get (x:=x) (by simp[Op.operands,Call.operands]) H);rw[LJ hs.1 Q];have L:=CZ K
 have n:Oq V (es++cap.map .o) (args.map ρ++vs):=by
  refine⟨by simp[t.1,L],λj e v m q=>?_⟩
  have u:(args.map ρ).size=es.length:=by simp[L]
  by_cases k:j<es.length
  ·rw[em k]at m
   rw[pM (by rw[u];exact k)]at q;exact HS (λy hy e he=>G.get (by simp[Op.operands,Call.operands];right;simpa using hy) he) K j e v m (by rw[<-rO];simpa using q)
  ·rw[f7 (by omega)]at m
   rw[qF (by rw[u];omega),u]at q;simp only[i8,d7]at m;obtain⟨c,hc,rfl⟩:=m;exact t.2 _ c v hc q
 have R:∀ {l l':List E},jF σ l l'->l.length=l'.length/\∀(j:Nat) e e',l[j]?=some e->l'[j]?=some e'->EV σ e e':=by
  intro l l' h
  induction h with
  | nil=>exact⟨rfl,λj e e' m=>by simp at m⟩
  | cons h _ ih=>
   refine⟨by simp[ih.1],λj e e' m z=>?_⟩
   cases j with
   | zero=>simp at m z;subst m z;exact h
   | succ j=>exact ih.2 j e e' (by simpa using m) (by simpa using z)
 obtain⟨s,J⟩:=R q
 have F:Oq (Ib V σ) es' (args.map ρ++vs):=by
  refine⟨by rw[n.1,s],λj e v m q=>?_⟩
  have k:j<(es++cap.map E.o).length:=by rw[s];exact(ce.1 m).1
  exact(J j _ e (d6 k) m).rel p (n.2 j _ v (d6 k) q)
 have k:∀b,(Ib V σ).I b->b<(Ib V σ).w.heap.size:=by
  rintro b (hb|⟨id,o,U,T,hb⟩)
  ·exact p.iLt b hb
  ·exact(p.st.obj id o U).blt T hb
 obtain⟨S,M,hSJ,hSB⟩:=p.hid;refine(hs.2 (Ib V σ) _ S ⟨k,EF,λx H=>⟨.inl (p.tabs x H).1,(p.tabs x H).2⟩,rfl,⟨M.r,λb hb=>.inl (M.ji b hb),λb hb hi=>hi.elim (M.bi b hb) λ⟨id,o,U,T,H⟩=>M.ap b ⟨id,o,U,T,H⟩ hb,λb ⟨_,_,h,_⟩=>by cases h⟩⟩ F).mono ?_;rintro e w' ⟨V1,v,x1,σ1,rfl,rfl,A,N,rfl⟩;obtain⟨X,Y⟩:=KL p M hSJ hSB (Vc:=Ib V σ) rfl A (λb=>V.I b\/(V.w.heap.size<=b\/S.B b)/\V1.I b) (λb hb=>.inl hb) (λb hb=>hb.elim .inl λh=>.inr (h.1.elim (λg=>.inl ⟨g,A.iLt b h.2⟩) .inr)) (λb G p=>.inr ⟨p,G⟩) (λb hb=>hb.elim (λh=>A.ext.i b (.inl h)) λh=>h.2);exact⟨{ V with I:=λb=>V.I b\/(V.w.heap.size<=b\/S.B b)/\V1.I b,w:=V1.w },v,rfl,rfl,Y,X,h3,XX N hr⟩
end
def Ce:List Nat->Ab->Ab
 | [],σ=>σ
 | id::r,σ=>Ce r (kill id σ)
theorem A7:∀(ids:List Nat) (σ:Ab) (i:Nat) (o:O),look (Ce ids σ) i=some o->i∉ids/\look σ i=some o
 | [],σ,i,o,h=>⟨by simp,h⟩
 | id :: r,σ,i,o,h=>by
  obtain⟨b,a⟩:=A7 r (kill id σ) i o h;rw[Fx]at a;by_cases hi:i=id
  ·rw[if_pos hi]at a;cases a
  ·rw[if_neg hi]at a
   exact⟨by simp[hi,b],a⟩
inductive FC (σ:Ab) (ids:List Nat):C->C->Prop
 | AO {c:C}:FC σ ids c c
 | arr {id k off len:Nat} {T:TypeId} {rows:List (List C)} {ds:List (List D)}:id∈ids->look σ id=some (.cells T k rows)->off+len<=rows.length->(rows.drop off).take len=ds.map (λr=>r.map .d)->FC σ ids (.arr id k off len) (.d (.l ds))
 | ptr {id k i j:Nat} {T:TypeId} {rows:List (List C)} {r:List C} {ds:List D}:id∈ids->look σ id=some (.cells T k rows)->rows[i]?=some r->r.drop j=ds.map .d->FC σ ids (.ptr id k i j) (.ip ds)
inductive FE (σ:Ab) (ids:List Nat):E->E->Prop
 | AO {e:E}:FE σ ids e e
 | o {c c':C}:FC σ ids c c'->FE σ ids (.o c) (.o c')
 | nil:FE σ ids (.a []) (.a [])
 | cons {c c':C} {cs cs':List C}:FC σ ids c c'->FE σ ids (.a cs) (.a cs')->FE σ ids (.a (c::cs)) (.a (c'::cs'))
def Ev(σ:Ab)(ids:List Nat)(f:Env):List (Nat×E)->Prop
 | []=>True
 | (t,e')::L=>(∃e,f t=some e/\FE σ ids e e')/\Ev σ ids f L
theorem Ev.get{σ:Ab}{ids:List Nat}{f:Env}:∀ {L:List (Nat×E)},Ev σ ids f L->∀t e',look L t=some e'->∃e,f t=some e/\FE σ ids e e'
 | [],_,t,e,h=>by cases h
 | (k,x)::L,a,t,e,h=>by
  rw[AD]at h;by_cases hk:k=t
  ·rw[if_pos hk]at h;injection h with h;subst h;subst hk;exact a.1
  ·rw[if_neg hk]at h;exact Ev.get a.2 t e h
def KV(V:View)(σ:Ab)(ids:List Nat):View:={ V with I:=λb=>V.I b\/∃id o,id∈ids/\look σ id=some o/\¬V.nl id/\E9 V id o b }
section
variable {P:Program}{TB:BR}{Z:Ctx}{N:Nat}{σ:Ab}
theorem ON{V:View}{ids:List Nat}:Ext V (KV V σ ids):=⟨λ_ h=>.inl h,λ_ _=>rfl,i9 _,λ_ _=>rfl,λ_ _=>rfl,λ_ _=>Iff.rfl,i9 _⟩
theorem FC.rel{V:View}(hi:Inv TB Z V σ){ids:List Nat}{c c':C}{v:Value}(h:FC σ ids c c')(G:AJ V c v):AJ (KV V σ ids) c' v:=by
 have e:Ext V (KV V σ ids):=ON
 cases h with
 | AO=>exact G.ext e
 | @arr id k off len T rows ds F z M u=>
  cases G with
  | nil L K=>
   have:ds=[]:=by
    have:=congrArg List.length u;simp at this;exact pi.1 this.symm
   subst this;exact .d .nil
  | arr L p K=>
   rcases hi.st.obj id _ z with ⟨t,_⟩|⟨_,cur,t,Q,P,N,J,H⟩
   ·exact absurd t p
   ·have y:ds.length=len:=by
     have:=congrArg List.length u;simp at this;omega
    have m:∀(i:Nat) (r:List D),ds[i]?=some r->rows[off+i]?=some (r.map .d):=λi r hi=>by
     have n:((rows.drop off).take len)[i]?=some (r.map .d):=by rw[u];simp[hi]
     rw[pP]at n;split at n
     ·rwa[pQ]at n
     ·cases n
    have a:∀(i:Nat) (r:List D) (j:Nat) (x:D),ds[i]?=some r->r[j]?=some x->∃v,cur[(off+i)*k+j]?=some v/\Dn V.I V.w x v:=λi r j x hi A=>by
     obtain⟨v,g,f⟩:=H (off+i) (r.map .d) j (.d x) (m i r hi) (by simp[A])
     cases f with
     | d f=>exact⟨v,g,f⟩
    rw[<-y]at K |-;refine .d (.l (b:=V.ρ id) (o:=off*k) (k:=k) (vs:=λi j=>cur.getD ((off+i)*k+j) undef) (.inr ⟨id,_,F,z,p,rfl⟩) (by omega) (by omega) (λi r hi=>?_) (λi r j x hi A=>?_) (λi r j x hi A=>?_))
    ·have:=J _ (co (m i r hi))
     simpa using this
    ·obtain⟨v,g,_⟩:=a i r j x hi A
     have e:off*k+i*k+j=(off+i)*k+j:=by rw[pZ]
     rw[e];have:(KV V σ ids).w.heap[V.ρ id]?=some (.cells cur T):=t;simp[World.cell?,this,g]
    ·obtain⟨v,g,f⟩:=a i r j x hi A
     have:cur.getD ((off+i)*k+j) undef=v:=by simp[g]
     simp only[this];exact f.ext e
 | @ptr id k i j T rows r ds F z B u=>
  cases G with
  | ptr L p=>
   rcases hi.st.obj id _ z with ⟨t,_⟩|⟨_,cur,t,Q,P,N,J,H⟩
   ·exact absurd t p
   ·have m:∀(q:Nat) (x:D),ds[q]?=some x->r[j+q]?=some (.d x):=λq x s=>by
     have n:(r.drop j)[q]?=some (.d x):=by rw[u];simp[s]
     rwa[pQ]at n
    have a:∀(q:Nat) (x:D),ds[q]?=some x->∃v,cur[i*k+j+q]?=some v/\Dn V.I V.w x v:=λq x s=>by
     obtain⟨v,g,f⟩:=H i r (j+q) (.d x) B (m q x s)
     cases f with
     | d f=>exact⟨v,by rw[pV];exact g,f⟩
    refine .ip (V:=KV V σ ids) (vs:=λq=>cur.getD (i*k+j+q) undef) (.inr ⟨id,_,F,z,p,rfl⟩) (λq x s=>?_) (λq x s=>?_)
    ·obtain⟨v,g,_⟩:=a q x s
     have:(KV V σ ids).w.heap[V.ρ id]?=some (.cells cur T):=t;simp[World.cell?,this,g]
    ·obtain⟨v,g,f⟩:=a q x s
     have:cur.getD (i*k+j+q) undef=v:=by simp[g]
     simp only[this];exact f.ext e
theorem FE.rel{V:View}(hi:Inv TB Z V σ){ids:List Nat}{e e':E}(h:FE σ ids e e'):∀ {v:Value},Br V e v->Br (KV V σ ids) e' v:=by
 induction h with
 | AO=>intro v a;exact a.ext ON
 | o f=>intro v a;exact f.rel hi a
 | nil=>intro v a;obtain⟨vs,rfl,d,_⟩:=a;exact⟨vs,rfl,d,λj c v b=>by simp at b⟩
 | @cons c c' cs cs' f _ k=>
  rintro v ⟨vs,rfl,d,i⟩
  have l:0<vs.size:=by rw[d];simp
  have ht:=@k (.agg (vs.extract 1 vs.size)) ⟨_,rfl,by simp[d],λj c v b a=>i (j+1) c v (by simpa using b) (by
   rw[sJ]at a;split at a
   ·rw[sr]at a;exact a
   ·cases a)⟩
  obtain⟨ws,g,p,n⟩:=ht
  injection g with g
  subst g;refine⟨vs,rfl,by simp at p |-;omega,λj q v b a=>?_⟩
  cases j with
  | zero=>
   simp at b;subst b;exact f.rel hi (i 0 c v (by simp) a)
  | succ j=>
   refine n j q v (by simpa using b) ?_;have m:=(pI.1 a).1;rw[sJ,if_pos (by omega),sr];exact a
theorem Cv.freeze{V:View}{f:Env}{nx:Nat}{a:Act}(h:Cv TB Z N V f σ nx a)(ids:List Nat)(L:List (Nat×E))(r:Ev σ ids f L):Cv TB Z N (KV V σ ids) (look L) (Ce ids σ) nx a:=by
 have e:Ext V (KV V σ ids):=ON;refine⟨λt x l=>?_,λt x l=>?_,h.size,?_,h.nx,h.defers⟩
 ·obtain⟨y,n,g⟩:=r.get t x l
  exact g.rel h.inv (h.env t y n)
 ·obtain⟨y,n,_⟩:=r.get t x l
  exact h.lt t y n
 ·have hi:=h.inv
  refine⟨hi.os,hi.tape,hi.output,hi.old,?_,?_,hi.ext.trans e,⟨?_,?_,?_,?_⟩,?_,λx l=>⟨.inl (hi.tabs x l).1,(hi.tabs x l).2⟩,hi.hid.same rfl (λ_ h=>.inl h) (λb hb=>hb.elim .inl λ⟨id,o,_,c,d,q⟩=>.inr ⟨id,o,c,d,q⟩) λb ⟨id,o,c,d,hb⟩=>have g:=(A7 ids σ id o c).2;⟨id,o,g,d,(AG e (hi.st.lt id o g)).1 hb⟩⟩
  ·rintro b (hb|⟨id,o,_,c,d,hb⟩)
   ·exact hi.iLt b hb
   ·exact(hi.st.obj id o c).blt d hb
  ·rintro b (hb|⟨id,o,_,c,d,hb⟩)
   ·exact hi.iNew b hb
   ·exact .inr (hi.live id o c d b hb)
  ·intro id o c
   have:=(A7 ids σ id o c).2;exact(hi.st.obj id o this).AO e (hi.st.lt id o this) λ_ _ _=>rfl
  ·intro id o c;exact hi.st.lt id o (A7 ids σ id o c).2
  ·intro id o c d b i hb
   obtain⟨n,g⟩:=A7 ids σ id o c;have i:=(AG e (hi.st.lt id o g)).1 i
   rcases hb with hb|⟨id',o',s,k,j,q⟩
   ·exact hi.st.free id o g d b i hb
   ·exact hi.st.inj id id' o o' g k (λe=>n (e▸s)) d j b i q
  ·intro id id' o o' c k p d j b hb i
   have g:=(A7 ids σ id o c).2;have m:=(A7 ids σ id' o' k).2;exact hi.st.inj id id' o o' g m p d j b ((AG e (hi.st.lt id o g)).1 hb) ((AG e (hi.st.lt id' o' m)).1 i)
  ·intro id o c d b hb
   have g:=(A7 ids σ id o c).2;exact hi.live id o g d b ((AG e (hi.st.lt id o g)).1 hb)
theorem FC.full{ids:List Nat}{id k len:Nat}{T:TypeId}{rows:List (List C)}{ds:List (List D)}(c:id∈ids)(e:look σ id=some (.cells T k rows))(a:rows=ds.map (λr=>r.map .d))(b:rows.length=len):FC σ ids (.arr id k 0 len) (.d (.l ds)):=
 .arr c e (by omega) (by rw[qm,<-b,io];exact a)
theorem CV.full{id k len:Nat}{T:TypeId}{rows:List (List C)}{ds:List (List D)}(c:look σ id=some (.cells T k rows))(a:rows=ds.map (λr=>r.map .d))(b:rows.length=len):CV σ (.arr id k 0 len) (.d (.l ds)):=
 .arr c (by omega) (by rw[qm,<-b,io];exact a)
theorem Ak.freeze{c:Code}{Q:Exit->Env->Ab->Nat->Prop}{f:Env}{nx:Nat}(ids:List Nat)(L:List (Nat×E))(d:Ev σ ids f L)(h:Ak P TB Z N c Q (look L) (Ce ids σ) nx):Ak P TB Z N c Q f σ nx:=
 λV a b=>h (KV V σ ids) a (b.freeze ids L d)
end
end Go.Am
namespace Go.Proofs.YtgpbfllcjdfelaaGreatDoor
open Go
theorem QZ:mapsRowed Tryz.prog=true:=by kernel_rfl
theorem aI:(Tryz.prog.stops == [])=true:=by kernel_rfl
theorem aG:(Tryz.prog.stopKnobs == [])=true:=by kernel_rfl
theorem aF:Tryz.prog.stopsHeard=true:=by kernel_rfl
theorem Rm:(false == Tryz.prog.plainKeys)=true:=by kernel_rfl
end Go.Proofs.YtgpbfllcjdfelaaGreatDoor
