/-
  A machine of pure data over the kit's machine: values without addresses, their reading in a world, the walk of code over them, any order of a region that draws.
-/
import Derived.Still
import Derived.Laws.AppendOwn
import Derived.Test.YtgpbfllcjdfelaaGreatDoorRows
import Derived.JoinedCond
import Derived.KernelRfl
set_option linter.all false
namespace Go.Am
abbrev am:=@List.getElem?_eq_some_iff
abbrev bA:=@Nat.eq_of_beq_eq_true
abbrev bB:=@List.mem_map
abbrev bC:=@Function.comp_def
abbrev bE:=@List.mem_append
abbrev bF:=@List.take_add_one
abbrev bG:=@List.getElem?_map
abbrev bH:=@List.all_eq_true
abbrev bI:=@List.take_of_length_le
abbrev bJ:=@Nat.le_refl
abbrev bK:=@List.length_map
abbrev bL:=@Int.toNat_natCast
abbrev bM:=@List.length_eq_zero_iff
abbrev bN:=@Nat.lt_of_lt_of_le
abbrev bO:=@List.take_length
abbrev bP:=@Array.getElem?_eq_getElem
abbrev bQ:=@Result.andThen_ok
abbrev bR:=@Option.bind_eq_some_iff
abbrev bS:=@List.getElem?_take
abbrev bT:=@Nat.le_trans
abbrev bU:=@Array.getElem?_append_left
abbrev bV:=@Sem.run_bind
abbrev bW:=@Nat.zero_add
abbrev bX:=@List.getElem?_drop
abbrev bY:=@Nat.add_mul
abbrev bZ:=@List.pairwise_iff_getElem
abbrev bm:=@List.mem_of_getElem?
abbrev bn:=@Nat.le_of_ble_eq_true
abbrev br:=@Option.map_eq_some_iff
abbrev bt:=@List.getElem?_eq_getElem
abbrev bu:=@Bool.and_eq_true
abbrev bx:=@List.getElem?_append_left
abbrev bz:=@List.getElem?_append_right
abbrev c6:=@List.map_map
abbrev c7:=@Int.natCast_mul
abbrev c8:=@Nat.lt_succ_of_lt
abbrev cC:=@List.mem_cons_of_mem
abbrev cD:=@Nat.eq_zero_or_pos
abbrev cF:=@List.append_nil
abbrev cG:=@List.mem_range
abbrev cH:=@List.map_cons
abbrev cI:=@Bool.not_true
abbrev cJ:=@List.take_append_drop
abbrev cK:=@List.length_append
abbrev cL:=@Nat.lt_or_ge
abbrev cM:=@Bool.not_false
abbrev cO:=@List.map_append
abbrev cP:=@Int.mul_le_mul_of_nonneg_right
abbrev cQ:=@List.cons_append
abbrev cR:=@Nat.le_mul_of_pos_right
abbrev cS:=@Array.getElem?_append_right
abbrev cT:=@Option.bind_some
abbrev cU:=@Array.getElem?_toList
abbrev cV:=@List.find?_eq_none
abbrev cW:=@Array.getElem?_setIfInBounds_ne
abbrev cY:=@List.foldl_cons
abbrev cZ:=@Array.eq_empty_of_size_eq_zero
abbrev ca:=@Array.getElem?_eq_some_iff
abbrev cd:=@List.mem_append_left
abbrev ce:=@List.mem_of_mem_take
abbrev cf:=@Nat.mul_le_mul_right
abbrev cg:=@List.length_cons
abbrev cm:=@List.mem_cons
abbrev cn:=@List.mem_append_right
abbrev co:=@List.getElem?_eq_none
abbrev cr:=@List.getElem_of_mem
abbrev cu:=@Bool.or_eq_true
abbrev cx:=@List.getElem_mem
abbrev cy:=@Nat.add_assoc
abbrev d4:=@List.map_set
abbrev d5:=@List.mem_cons_self
abbrev d6:=@Array.any_eq_true
abbrev d7:=@Nat.lt_trichotomy
abbrev d8:=@Int.emod_eq_of_lt
abbrev d9:=@Array.getElem?_extract
abbrev dA:=@Option.map_some
abbrev dB:=@List.mem_filter
abbrev dC:=@Nat.not_lt_zero
abbrev dD:=@Int.mul_le_mul_of_nonneg_left
abbrev dE:=@Bool.not_eq_true'
abbrev dF:=@List.pairwise_map
abbrev dG:=@List.ext_getElem?
abbrev dH:=@List.set_append_right
abbrev dI:=@List.dropLast_concat_getLast
abbrev dJ:=@List.mem_of_mem_drop
abbrev dK:=@List.length_take
abbrev dL:=@Array.toList_map
abbrev dM:=@List.any_eq_true
abbrev dN:=@List.getElem?_set_ne
abbrev dO:=@Int.mul_assoc
abbrev dP:=@Nat.zero_le
abbrev dQ:=@Int.add_mul
abbrev dR:=@List.getElem?_range
abbrev dS:=@List.take_succ_cons
abbrev dT:=@Bool.eq_iff_iff
abbrev dU:=@List.range_succ
abbrev dV:=@List.length_nil
abbrev dW:=@List.length_set
abbrev dX:=@Nat.lt_or_gt_of_ne
abbrev dY:=@List.map_nil
abbrev dZ:=@Nat.lt_succ_iff_lt_or_eq
abbrev da:=@List.replicate_succ
abbrev db:=@List.map_congr_left
abbrev dc:=@Option.getD_some
abbrev de:=@Nat.mod_eq_of_lt
abbrev df:=@List.mem_flatMap
abbrev dg:=@Int.mul_nonneg
abbrev dh:=@Nat.zero_mul
abbrev dj:=@List.pairwise_cons
abbrev dk:=@List.nil_append
abbrev dm:=@List.getElem?_toArray
abbrev dn:=@List.map_inj_left
abbrev dp:=@List.nodup_append
abbrev dq:=@List.drop_eq_getElem_cons
abbrev dr:=@List.pairwise_append
abbrev dv:=@List.getElem?_of_mem
abbrev dw:=@List.drop_zero
abbrev dy:=@Nat.lt_succ_self
abbrev eD:=@Int.mul_le_mul
abbrev eE:=@Nat.mul_le_mul
abbrev eF:=@List.mem_singleton
abbrev eH:=@Int.add_mul_emod_self_right
abbrev eJ:=@Int.add_assoc
abbrev eK:=@Array.getElem_mem
abbrev eL:=@List.size_toArray
abbrev eM:=@List.flatten_cons
abbrev eO:=@List.length_range
abbrev eP:=@List.flatMap_cons
abbrev eQ:=@List.find?_append
abbrev eU:=@List.idxOf_append
abbrev eW:=@Nat.mul_comm
abbrev eX:=@List.map_toArray
abbrev eY:=@Nat.sub_zero
abbrev eZ:=@Int.mul_comm
abbrev ea:=@Sem.run_map
abbrev eb:=@List.getElem?_set_self
abbrev ed:=@Nat.ble_eq_true_of_le
abbrev ef:=@List.eraseIdx_eq_take_drop_succ
abbrev ei:=@Nat.beq_refl
abbrev em:=@Nat.add_zero
abbrev en:=@Nat.add_comm
abbrev eo:=@Nat.pow_lt_pow_right
abbrev ep:=@List.idxOf_cons_self
abbrev er:=@Array.length_toList
abbrev eu:=@List.length_flatten
abbrev ew:=@List.mapM_cons
abbrev ez:=@Array.getElem?_setIfInBounds
abbrev fa:=@List.prefix_refl
abbrev fb:=@Int.zero_add
abbrev fc:=@Int.add_comm
abbrev fe:=@Int.ediv_nonneg
open Go
inductive D where
 | v (x:Value)
 | l (rows:List (List D))
 | p (cells:List D)
inductive C where
 | d (x:D)
 | arr (id k off len:Nat)
 | ptr (id k i j:Nat)
 | fn (f:FuncId) (cap:List C)
 | mp (id:Nat)
 | mv (f:FuncId) (recv:List C)
abbrev C.ip(cells:List D):C:=.d (.p cells)
inductive E where
 | o (c:C)
 | a (cs:List C)
 | t (xs:List (Bool×List C))
 | e
def KQ:Value->Bool
 | .bool _|.int ..|.float ..|.complex ..|.string _|.pointer _|.map none|.chan none|.nilFunc|.nilIface|.slice .. => true
 | .func (.func _) ⟨[]⟩ ⟨[]⟩=>true
 | _=>false
structure View where
 I:Nat->Prop
 X:Nat->Nat
 cap:Nat->Nat
 nl:Nat->Prop
 nx:Nat
 w:World
inductive BX (I:Nat->Prop) (w:World):D->Value->Prop
 | v {x:Value}:KQ x=true->BX I w (.v x) x
 | nil:BX I w (.l []) (.slice none 0 0)
 | e {a:Addr} {cap:Nat}:cap<=maxLen->BX I w (.l []) (.slice (some a) 0 cap)
 | l {rows:List (List D)} {b o k cap:Nat} {vs:Nat->Nat->Value}:I b->rows.length<=cap->cap<=maxLen->
  (∀(i:Nat) (r:List D),rows[i]? = some r->r.length=k)->
  (∀(i:Nat) (r:List D) (j:Nat) (d:D),rows[i]? = some r->r[j]? = some d->w.cell? ⟨b,o+i*k+j,none⟩=some (vs i j))->
  (∀(i:Nat) (r:List D) (j:Nat) (d:D),rows[i]? = some r->r[j]? = some d->BX I w d (vs i j))->
  BX I w (.l rows) (.slice (some ⟨b,o,none⟩) rows.length cap)
 | p {cells:List D} {b o:Nat} {vs:Nat->Value}:I b->(∀(j:Nat) (d:D),cells[j]? = some d->w.cell? ⟨b,o+j,none⟩=some (vs j))->(∀(j:Nat) (d:D),cells[j]? = some d->BX I w d (vs j))->
  BX I w (.p cells) (.pointer (some ⟨b,o,none⟩))
theorem JT{w w':World}{b:Nat}(h:w'.heap[b]? = w.heap[b]?)(o:Nat):w'.cell? ⟨b,o,none⟩=w.cell? ⟨b,o,none⟩:=by
 simp [World.cell?,h]
theorem BX.mono{I I':Nat->Prop}{w w':World}{d:D}{v:Value}(m:∀b,I b->I' b)(g:∀b,I b->w'.heap[b]? = w.heap[b]?)(h:BX I w d v):BX I' w' d v:=by
 induction h with
 | v h=>exact .v h
 | nil=>exact .nil
 | e h=>exact .e h
 | @l rows b o k cap vs hb f s q n _ c=>
  exact .l (m b hb) f s q (λi r j d hi a=>by rw [JT (g b hb)];exact n i r j d hi a) (λi r j d hi a=>c i r j d hi a)
 | @p cells b o vs hb f _ c=>exact .p (m b hb) (λj d a=>by rw [JT (g b hb)];exact f j d a) (λj d a=>c j d a)
inductive AA (V:View):C->Value->Prop
 | d {x:D} {v:Value}:BX V.I V.w x v->AA V (.d x) v
 | nil {id k:Nat}:id < V.nx->V.nl id->AA V (.arr id k 0 0) (.slice none 0 0)
 | arr {id k off len:Nat}:id < V.nx->¬V.nl id->off+len<=V.cap id->AA V (.arr id k off len) (.slice (some ⟨V.X id,off*k,none⟩) len (V.cap id - off))
 | ptr {id k i j:Nat}:id < V.nx->¬V.nl id->AA V (.ptr id k i j) (.pointer (some ⟨V.X id,i*k+j,none⟩))
 | fn {f:FuncId} {cap:List C} {vs:Array Value}:vs.size=cap.length->(∀(j:Nat) (c:C) (v:Value),cap[j]? = some c->vs[j]? = some v->AA V c v)->AA V (.fn f cap) (.func (.func f) #[] vs)
 | mp {id:Nat}:id < V.nx->AA V (.mp id) (.map (some (V.X id)))
 | mv {f:FuncId} {recv:List C} {vs:Array Value}:vs.size=recv.length->(∀(j:Nat) (c:C) (v:Value),recv[j]? = some c->vs[j]? = some v->AA V c v)->AA V (.mv f recv) (.func (.func f) vs #[])
theorem AA.ip{V:View}{cells:List D}{b o:Nat}{vs:Nat->Value}(hb:V.I b)(c:∀(j:Nat) (d:D),cells[j]? = some d->V.w.cell? ⟨b,o+j,none⟩=some (vs j))(a:∀(j:Nat) (d:D),cells[j]? = some d->BX V.I V.w d (vs j)) :
 AA V (.ip cells) (.pointer (some ⟨b,o,none⟩)):=.d (.p hb c a)
theorem BX.val{I:Nat->Prop}{w:World}{x v:Value}(h:BX I w (.v x) v):v=x:=by cases h;rfl
theorem AA.val{V:View}{x v:Value}(h:AA V (.d (.v x)) v):v=x:=by cases h with|d h=>exact h.val
structure Ext (V V':View):Prop where
 i:∀b,V.I b->V'.I b
 heap:∀b,V.I b->V'.w.heap[b]? = V.w.heap[b]?
 size:V.w.heap.size<=V'.w.heap.size
 X:∀id,id < V.nx->V'.X id=V.X id
 cap:∀id,id < V.nx->V'.cap id=V.cap id
 nl:∀id,id < V.nx->(V'.nl id↔V.nl id)
 nx:V.nx<=V'.nx
theorem Ext.refl(V:View):Ext V V:=⟨λ_ h=>h,λ_ _=>rfl,bJ _,λ_ _=>rfl,λ_ _=>rfl,λ_ _=>Iff.rfl,bJ _⟩
theorem Ext.trans{A B C:View}(h:Ext A B)(k:Ext B C):Ext A C:=
 ⟨λb hb=>k.i b (h.i b hb),λb hb=>(k.heap b (h.i b hb)).trans (h.heap b hb),bT h.size k.size,
  λi hi=>(k.X i (bN hi h.nx)).trans (h.X i hi),λi hi=>(k.cap i (bN hi h.nx)).trans (h.cap i hi),λi hi=>(k.nl i (bN hi h.nx)).trans (h.nl i hi),bT h.nx k.nx⟩
theorem BX.ext{V V':View}{d:D}{v:Value}(e:Ext V V')(h:BX V.I V.w d v):BX V'.I V'.w d v:=h.mono e.i e.heap
theorem AA.ext{V V':View}{c:C}{v:Value}(e:Ext V V')(h:AA V c v):AA V' c v:=by
 induction h with
 | d h=>exact .d (h.ext e)
 | @nil id k a f=>exact .nil (bN a e.nx) ((e.nl id a).2 f)
 | @arr id k off len a g f=>rw [<-e.X id a,<-e.cap id a];exact .arr (bN a e.nx) (λh=>g ((e.nl id a).1 h)) (by rw [e.cap id a];exact f)
 | @ptr id k i j a g=>rw [<-e.X id a];exact .ptr (bN a e.nx) (λh=>g ((e.nl id a).1 h))
 | fn a _ b=>exact .fn a b
 | @mp id a=>rw [<-e.X id a];exact .mp (bN a e.nx)
 | mv a _ b=>exact .mv a b
def Cy(V:View)(cs:List C)(vs:Array Value):Prop:=vs.size=cs.length/\∀(j:Nat) c v,cs[j]? = some c->vs[j]? = some v->AA V c v
theorem Cy.ext{V V':View}{cs:List C}{vs:Array Value}(e:Ext V V')(h:Cy V cs vs):Cy V' cs vs:=⟨h.1,λj c v a b=>(h.2 j c v a b).ext e⟩
def Jj(V:View):Bool×List C->Value->Prop
 | (true,cs),v=>∃vs,v=.agg vs/\Cy V cs vs
 | (false,cs),v=>∃c,cs=[c]/\AA V c v
theorem Jj.ext{V V':View}{x:Bool×List C}{v:Value}(e:Ext V V')(h:Jj V x v):Jj V' x v:=by
 obtain⟨b,cs⟩:=x;cases b
 ·obtain⟨c,d,a⟩:=h;exact⟨c,d,a.ext e⟩
 ·obtain⟨vs,d,a⟩:=h;exact⟨vs,d,a.ext e⟩
def A1(V:View):E->Value->Prop
 | .o c,v=>AA V c v
 | .a cs,v=>∃vs,v=.agg vs/\Cy V cs vs
 | .t xs,v=>∃vs:Array Value,v=.tuple vs/\vs.size=xs.length/\∀(j:Nat) x v,xs[j]? = some x->vs[j]? = some v->Jj V x v
 | .e,v=>∃b,v=.slice b 0 0
theorem A1.ext{V V':View}{x:E}{v:Value}(e:Ext V V')(h:A1 V x v):A1 V' x v:=by
 cases x with
 | o c=>exact AA.ext e h
 | a cs=>obtain⟨vs,f,d⟩:=h;exact⟨vs,f,d.ext e⟩
 | t xs=>obtain⟨vs,f,d,g⟩:=h;exact⟨vs,f,d,λj x v a b=>(g j x v a b).ext e⟩
 | e=>exact h
inductive O where
 | cells (T k:Nat) (rows:List (List C))
 | mp (es:List (Value×Value))
 | sld (T:Nat) (l:List (Value×List Value))
abbrev Ab:=List (Nat×O)
def look{α:Type}:List (Nat×α)->Nat->Option α
 | [],_=>none
 | (k,x)::r,i=>bif Nat.beq k i then some x else look r i
theorem Ak{α:Type}(k:Nat)(x:α)(r:List (Nat×α))(i:Nat):look ((k,x)::r) i=if k=i then some x else look r i:=by
 simp only [look];by_cases h:k=i
 ·subst h;simp
 ·have:Nat.beq k i=false:=by
   cases hb:Nat.beq k i
   ·rfl
   ·exact absurd (bA hb) h
  simp [this,h]
def GZ(v:Value)(b:Nat):Prop:=∃o n c,v=.slice (some ⟨b,o,none⟩) n c
def Di(V:View)(id:Nat):O->Nat->Prop
 | .cells ..,b=>b=V.X id
 | .mp _,b=>b=V.X id
 | .sld _ l,b=>∃x∈l,GZ x.1 b
def Hr(w:World)(T:Nat)(v:Value)(row:List Value):Prop:=(v=.slice none 0 0/\row=[])\/
 ∃b cap cur,v=.slice (some ⟨b,0,none⟩) row.length cap/\w.heap[b]? = some (.cells cur T (0,0))/\cur.size=cap/\row.length<=cap/\cap<=maxLen/\∀(j:Nat) (x:Value),row[j]? = some x->cur[j]? = some x/\KQ x=true
def Ul(w:World)(T:Nat)(l:List (Value×List Value)):Prop:=l.Pairwise (λx y=>∀b,GZ x.1 b->¬GZ y.1 b)/\∀x∈l,Hr w T x.1 x.2
theorem Hr.AU{w w':World}{T:Nat}{v:Value}{row:List Value}(a:∀b,GZ v b->w'.heap[b]? = w.heap[b]?)(h:Hr w T v row):Hr w' T v row:=by
 rcases h with h|⟨b,cap,cur,rfl,d,c⟩
 ·exact .inl h
 ·exact .inr ⟨b,cap,cur,rfl,by rw [a b ⟨_,_,_,rfl⟩];exact d,c⟩
theorem Hr.blt{w:World}{T:Nat}{v:Value}{row:List Value}(h:Hr w T v row){b:Nat}(hb:GZ v b):b < w.heap.size:=by
 obtain⟨o,n,c,hb⟩:=hb
 rcases h with ⟨h,_⟩|⟨b',cap,cur,rfl,a,_⟩
 ·rw [h] at hb;cases hb
 ·injection hb with hb;injection hb with hb;injection hb with hb;subst hb;exact(ca.1 a).1
theorem Ul.AU{w w':World}{T:Nat}{l:List (Value×List Value)}(c:∀x∈l,∀b,GZ x.1 b->w'.heap[b]? = w.heap[b]?)(h:Ul w T l):Ul w' T l:=
 ⟨h.1,λx a=>(h.2 x a).AU (c x a)⟩
def BF(V:View)(id:Nat):O->Prop
 | .cells T k rows=>(V.nl id/\rows=[])\/¬V.nl id/\∃cur,V.w.heap[V.X id]? = some (.cells cur T (0,0))/\cur.size=V.cap id*k/\rows.length<=V.cap id/\V.cap id<=maxLen/\(∀r∈rows,r.length=k)/\
  ∀i r j c,rows[i]? = some r->r[j]? = some c->∃v,cur[i*k+j]? = some v/\AA V c v
 | .mp es=>¬V.nl id/\∃ents clock,V.w.heap[V.X id]? = some (.map ents clock)/\ents.toList.map (λe=>(e.key,e.val))=es
 | .sld T l=>¬V.nl id/\Ul V.w T l
theorem Aw{V V':View}(e:Ext V V'){id:Nat}(a:id < V.nx){o:O}{b:Nat}:Di V' id o b↔Di V id o b:=by
 cases o<;>simp [Di,e.X id a]
structure Hs (V:View) (σ:Ab):Prop where
 obj:∀id o,look σ id=some o->BF V id o
 lt:∀id o,look σ id=some o->id < V.nx
 free:∀id o,look σ id=some o->¬V.nl id->∀b,Di V id o b->¬V.I b
 inj:∀id id' o o',look σ id=some o->look σ id'=some o'->id≠id'->¬V.nl id->¬V.nl id'->∀b,Di V id o b->¬Di V id' o' b
structure Nx where
 B:Nat->Prop
 J:Nat->Prop
structure Ctx where
 V:View
 F:Nat->Prop
 J:Nat->Prop
def C0(V:View)(σ:Ab)(b:Nat):Prop:=∃id o,look σ id=some o/\¬V.nl id/\Di V id o b
theorem BF.AU{V V':View}(e:Ext V V'){id:Nat}(a:id < V.nx){o:O}(hb:¬V.nl id->∀b,Di V id o b->V'.w.heap[b]? = V.w.heap[b]?)(h:BF V id o):BF V' id o:=by
 cases o with
 | cells T k rows=>
  replace hb:=λg=>hb g _ (show Di V id (.cells T k rows) (V.X id) from rfl)
  rcases h with ⟨n,d⟩|⟨f,cur,d,B,A,z,y,u⟩
  ·exact .inl ⟨(e.nl id a).2 n,d⟩
  ·refine .inr ⟨λh=>f ((e.nl id a).1 h),cur,by rw [e.X id a,hb f];exact d,by rw [e.cap id a];exact B,by rw [e.cap id a];exact A,by rw [e.cap id a];exact z,y,λi r j c hi q=>?_⟩
   obtain⟨v,t,s⟩:=u i r j c hi q;exact⟨v,t,s.ext e⟩
 | mp es=>
  replace hb:=λg=>hb g _ (show Di V id (.mp es) (V.X id) from rfl);obtain⟨f,ents,clock,n,d⟩:=h;exact⟨λh=>f ((e.nl id a).1 h),ents,clock,by rw [e.X id a,hb f];exact n,d⟩
 | sld T l=>exact⟨λF=>h.1 ((e.nl id a).1 F),h.2.AU λx p b m=>hb h.1 b ⟨x,p,m⟩⟩
theorem BF.blt{V:View}{id:Nat}{o:O}(h:BF V id o)(d:¬V.nl id){b:Nat}(hb:Di V id o b):b < V.w.heap.size:=by
 cases o with
 | sld T l=>obtain⟨x,c,hb⟩:=hb;exact(h.2.2 x c).blt hb
 | cells T k rows=>
  subst hb
  rcases h with ⟨a,_⟩|⟨_,cur,e,_⟩
  ·exact absurd a d
  ·exact(ca.1 e).1
 | mp=>
  subst hb;obtain⟨_,ents,clock,a,_⟩:=h;exact(ca.1 a).1
theorem Ga{V V':View}(e:Ext V V'){σ:Ab}(a:∀id o,look σ id=some o->id < V.nx){b:Nat}(h:C0 V' σ b):C0 V σ b:=by
 obtain⟨id,o,d,i,g⟩:=h;have c:=a id o d;exact⟨id,o,d,λf=>i ((e.nl id c).2 f),(Aw e c).1 g⟩
structure Hid where
 S:Type
 st:S->Ab
 nx:Nat
structure Bg where
 tabs:List (Nat×Obj)
 hid:Option (Hid×Nat)
def aM:Bg:=⟨[],none⟩
instance:Membership (Nat×Obj) Bg:=⟨λa x=>x∈a.tabs⟩
def My(TB:Bg)(S:Nx)(w:World):Prop:=match TB.hid with
 | none=>∀b,¬S.B b
 | some (H,r)=>∃(s:H.S) (V:View),V.I=S.J/\V.w=w/\V.nx=H.nx/\Hs V (H.st s)/\(0 < V.nx/\V.X 0=r/\¬V.nl 0/\∀x∈TB,V.I x.1)/\∀b,S.B b↔C0 V (H.st s) b
theorem My.blt{TB:Bg}{S:Nx}{w:World}(h:My TB S w){b:Nat}(hb:S.B b):b < w.heap.size:=by
 unfold My at h;split at h
 ·exact absurd hb (h b)
 ·obtain⟨s,V,k,d,j,c,i,a⟩:=h
  obtain⟨id,o,g,f,e⟩:=(a b).1 hb;rw [<-d];exact(c.obj id o g).blt f e
theorem My.AU{TB:Bg}{S:Nx}{w w':World}(h:My TB S w)(t:∀b,S.J b->w'.heap[b]? = w.heap[b]?)(u:w.heap.size<=w'.heap.size)(v:∀b,S.B b->w'.heap[b]? = w.heap[b]?):My TB S w':=by
 unfold My at *;split at h
 ·exact h
 ·obtain⟨s,V,r,q,y,d,x,p⟩:=h
  have e:Ext V { V with w:=w' } := by
   subst q;exact⟨λ_ h=>h,λb hb=>t b (by rw [<-r];exact hb),u,λ_ _=>rfl,λ_ _=>rfl,λ_ _=>Iff.rfl,bJ _⟩
  have bw:∀ {i o b},Di { V with w:=w' } i o b↔Di V i o b:=λ{i o b} => by cases o<;>exact Iff.rfl
  refine⟨s,{ V with w:=w' },r,rfl,y,⟨λid o a=>?_,d.lt,λid o a c b hb=>d.free id o a c b (bw.1 hb),λid id' o o' a f g c j b hb k=>d.inj id id' o o' a f g c j b (bw.1 hb) (bw.1 k)⟩,x,λb=>?_⟩
  ·exact(d.obj id o a).AU e (d.lt id o a) λc b hb=>by
    have:=v b ((p b).2 ⟨id,o,a,c,hb⟩);rw [q];exact this
  ·rw [p b]
   exact⟨λ⟨id,o,n,m,l⟩=>⟨id,o,n,m,bw.2 l⟩,λ⟨id,o,n,m,l⟩=>⟨id,o,n,m,bw.1 l⟩⟩
structure Ji (TB:Bg) (V:View) (σ:Ab) (S:Nx):Prop where
 r:My TB S V.w
 ji:∀b,S.J b->V.I b
 bi:∀b,S.B b->¬V.I b
 ap:∀b,C0 V σ b->¬S.B b
def OZ(TB:Bg)(Z:Ctx)(V:View)(σ:Ab):Prop:=∃S,Ji TB V σ S/\(∀b,S.J b->Z.J b\/Z.V.w.heap.size<=b\/Z.F b)/\∀b,S.B b->Z.V.w.heap.size<=b\/Z.F b
theorem Ji.step{TB:Bg}{S:Nx}{V V':View}{σ σ':Ab}(h:Ji TB V σ S)(j:∀b,V.I b->V'.I b)(d:∀b,V.I b->V'.w.heap[b]? = V.w.heap[b]?)(f:V.w.heap.size<=V'.w.heap.size)
 (e:∀b,b < V.w.heap.size->¬V.I b->¬C0 V σ b->V'.w.heap[b]? = V.w.heap[b]?) (i:∀b,V'.I b->V.I b\/C0 V σ b\/V.w.heap.size<=b) (k:∀b,C0 V' σ' b->C0 V σ b\/V.w.heap.size<=b):Ji TB V' σ' S:=by
 have g:∀b,S.B b->¬C0 V σ b:=λb hb c=>h.ap b c hb;refine⟨h.r.AU (λb hb=>d b (h.ji b hb)) f (λb hb=>e b (h.r.blt hb) (h.bi b hb) (g b hb)),λb hb=>j b (h.ji b hb),λb hb hi=>?_,λb c hb=>?_⟩
 ·rcases i b hi with a|a|a
  ·exact h.bi b hb a
  ·exact h.ap b a hb
  ·have:=h.r.blt hb;omega
 ·rcases k b c with a|a
  ·exact h.ap b a hb
  ·have:=h.r.blt hb;omega
theorem OZ.step{TB:Bg}{Z:Ctx}{V V':View}{σ σ':Ab}(h:OZ TB Z V σ)(f:∀b,V.I b->V'.I b)(a:∀b,V.I b->V'.w.heap[b]? = V.w.heap[b]?)(d:V.w.heap.size<=V'.w.heap.size)
 (c:∀b,b < V.w.heap.size->¬V.I b->¬C0 V σ b->V'.w.heap[b]? = V.w.heap[b]?) (e:∀b,V'.I b->V.I b\/C0 V σ b\/V.w.heap.size<=b) (g:∀b,C0 V' σ' b->C0 V σ b\/V.w.heap.size<=b):OZ TB Z V' σ':=by
 obtain⟨S,j,i⟩:=h;exact⟨S,j.step f a d c e g,i⟩
theorem OZ.same{TB:Bg}{Z:Ctx}{V V':View}{σ σ':Ab}(h:OZ TB Z V σ)(a:V'.w=V.w)(d:∀b,V.I b->V'.I b)(c:∀b,V'.I b->V.I b\/C0 V σ b)(e:∀b,C0 V' σ' b->C0 V σ b):OZ TB Z V' σ':=
 h.step d (λb _=>by rw [a]) (by rw [a];exact bJ _) (λb _ _ _=>by rw [a]) (λb hb=>(c b hb).elim .inl λh=>.inr (.inl h)) (λb hb=>.inl (e b hb))
structure Inv (TB:Bg) (Z:Ctx) (V:View) (σ:Ab):Prop where
 os:V.w.os=Z.V.w.os
 tape:V.w.tape=Z.V.w.tape
 output:V.w.output=Z.V.w.output
 old:∀b,b < Z.V.w.heap.size->¬Z.F b->V.w.heap[b]? = Z.V.w.heap[b]?
 iLt:∀b,V.I b->b < V.w.heap.size
 iNew:∀b,V.I b->Z.V.I b\/Z.V.w.heap.size<=b\/Z.F b
 ext:Ext Z.V V
 st:Hs V σ
 live:∀id o,look σ id=some o->¬V.nl id->∀b,Di V id o b->Z.V.w.heap.size<=b\/Z.F b
 tabs:∀x∈TB,V.I x.1/\V.w.heap[x.1]? = some x.2
 hid:OZ TB Z V σ
abbrev Env:=Nat->Option E
def Bj(f:Env)(d:Option Tmp)(x:E):Env:=match d with
 | some d=>λt=>if t=d then some x else f t
 | none=>f
def CP(V:View)(f:Env)(tmps:Array Value):Prop:=∀t e,f t=some e->A1 V e (tmps.getD t undef)
def FN(V:View)(o:Oper)(f:Env)(a:Act):Prop:=∀t e,.tmp t∈o.op.operands->f t=some e->A1 V e (a.tmps.getD t undef)
theorem CP.op{V:View}{f:Env}{a:Act}(h:CP V f a.tmps)(o:Oper):FN V o f a:=λt e _ b=>h t e b
theorem CP.ext{V V':View}{f:Env}{tmps:Array Value}(e:Ext V V')(h:CP V f tmps):CP V' f tmps:=λt x a=>(h t x a).ext e
def Zf:Exit->Act->World->Prop:=λ_ _ _=>False
section
variable (P:Program)(TB:Bg)(Z:Ctx)
def AP(o:Oper)(f:Env)(σ:Ab)(nx:Nat)(x:E):Prop:=
 ∀V a,FN V o f a->Inv TB Z V σ->V.nx=nx->o.wp P a V.w (λa' w'=>∃V' v,V'.w=w'/\a'=a.put o.dst v/\Ext V V'/\Inv TB Z V' σ/\V'.nx=nx/\A1 V' x v) Zf
def BH(o:Oper)(f:Env)(σ:Ab)(nx:Nat)(K:E->Ab->Nat->Prop):Prop:=
 ∀V a,FN V o f a->Inv TB Z V σ->V.nx=nx->o.wp P a V.w (λa' w'=>∃V' v x σ',V'.w=w'/\a'=a.put o.dst v/\Ext V V'/\Inv TB Z V' σ'/\A1 V' x v/\K x σ' V'.nx) Zf
theorem PX{o:Oper}{a:Act}{w:World}{K:Act->World->Prop}{Q:Exit->Act->World->Prop}(h:o.wp P a w K Zf):o.wp P a w K Q:=by
 unfold Oper.wp at *;generalize (execOp a.eval o).run P w=r at *
 cases r with
 | ok n w'=>
  cases n<;>simp only [Oper.upon] at h |-
  case value=>exact h
  case skip=>exact h
  case defer=>exact h
  case enter f args=>
   refine h.mono λe w'' b=>?_
   cases e with
   | returned v=>exact b
   | panicked c=>exact b.elim
   | outgrown=>obtain⟨_,_,h⟩:=b;exact h.elim
  case row=>exact h
 | halt x w'=>
  cases x<;>simp only [Oper.upon] at h |-
  case panic v=>exact h.elim
theorem AP.Zn{o:Oper}{f:Env}{σ:Ab}{nx:Nat}{x:E}{K:E->Ab->Nat->Prop}(h:AP P TB Z o f σ nx x)(b:K x σ nx):BH P TB Z o f σ nx K:=by
 intro V a e d c;refine Oper.wp_mono ?_ (h V a e d c);rintro a' w' ⟨V',v,m,l,k,j,i,g⟩;exact⟨V',v,x,σ,m,l,k,j,g,i ▸ b⟩
def A8(ops:Array Oper)(o:Oper)(f:Env):Option Bool:=
 match o.guard with
 | none=>some true
 | some (g,want)=>
  match ((ops[g]?).bind (·.dst)).bind f with
  | some (.o (.d (.v (.bool b))))=>some (b == want)
  | some (.t _)=>some false
  | _=>none
theorem E5{V:View}{ops:Array Oper}{o:Oper}{f:Env}{a:Act}{b:Bool}(r:CP V f a.tmps)(c:∀t e,f t=some e->t < a.tmps.size)(h:A8 ops o f=some b) :
 Region.wanted o (yielded ops a.tmps)=b:=by
 unfold A8 at h;unfold Region.wanted;split at h
 ·rename_i m;simp only [m];exact Option.some.inj h
 ·rename_i g want m
  simp only [m];split at h
  ·rename_i b' hb
   have l:∃t,((ops[g]?).bind (·.dst))=some t/\f t=some (.o (.d (.v (.bool b')))):=by
    cases ht:((ops[g]?).bind (·.dst)) with
    | none=>rw [ht] at hb;cases hb
    | some t=>exact⟨t,rfl,by rw [ht] at hb;exact hb⟩
   obtain⟨t,q,j⟩:=l;have k:=r t _ j;have i:=c t _ j;have s:a.tmps.getD t undef=.bool b':=AA.val k
   have p:a.tmps[t]? = some (.bool b'):=by
    rw [bP i];rw [Array.getD,dif_pos i] at s;exact congrArg some s
   have n:yielded ops a.tmps g=some b':=by
    unfold yielded;rw [q];simp [p]
   rw [n];cases b'<;>cases want<;>simp_all
  ·rename_i xs hb
   have l:∃t,((ops[g]?).bind (·.dst))=some t/\f t=some (.t xs):=by
    cases ht:((ops[g]?).bind (·.dst)) with
    | none=>rw [ht] at hb;cases hb
    | some t=>exact⟨t,rfl,by rw [ht] at hb;exact hb⟩
   obtain⟨t,q,j⟩:=l;obtain⟨vs,k,_⟩:=r t _ j;have i:=c t _ j
   have p:a.tmps[t]? = some (.tuple vs):=by
    rw [bP i];rw [Array.getD,dif_pos i] at k;exact congrArg some k
   have n:yielded ops a.tmps g=none:=by
    unfold yielded;rw [q];simp [p]
   rw [n];exact Option.some.inj h
  ·cases h
end
theorem Iw{f:Env}{d d':Option Tmp}{x y:E}(h:∀t,d=some t->d'≠some t):Bj (Bj f d x) d' y=Bj (Bj f d' y) d x:=by
 cases d with
 | none=>rfl
 | some t=>
  cases d' with
  | none=>rfl
  | some t'=>
   have a:t≠t':=λe=>h t rfl (by rw [e]);funext s;simp only [Bj];by_cases c:s=t<;>by_cases b:s=t'<;>simp_all
theorem Cu{f:Env}{d:Option Tmp}{x:E}{t:Tmp}(h:d≠some t):Bj f d x t=f t:=by
 cases d with
 | none=>rfl
 | some d=>
  have:t≠d:=λe=>h (by rw [e]);simp [Bj,this]
section
variable (P:Program)(TB:Bg)(Z:Ctx)(ops:Array Oper)
def Qc(n:Bool)(o:Oper)(K:Env->Ab->Nat->Prop)(f:Env)(σ:Ab)(nx:Nat):Prop:=
 (A8 ops o f=some false/\K (Bj f o.dst (.t [])) σ nx)\/
 (A8 ops o f=some true/\bif n then BH P TB Z o f σ nx (λx σ' nx'=>K (Bj f o.dst x) σ' nx') else ∃x,AP P TB Z o f σ nx x/\K (Bj f o.dst x) σ nx)
def Kept(m:Nat)(σ σ':Ab):Prop:=∀id,Nat.testBit m id=true->look σ' id=look σ id
def Y7(c:Nat)(o:Oper)(K:Env->Ab->Nat->Prop)(f:Env)(σ:Ab)(nx:Nat):Prop:=
 (A8 ops o f=some false/\K (Bj f o.dst (.t [])) σ nx)\/
 (A8 ops o f=some true/\bif Nat.ble 1000 c then BH P TB Z o f σ nx (λx σ' nx'=>Kept (c - 1000) σ σ'/\K (Bj f o.dst x) σ' nx')
  else ∃x,(∀σ' nx',look σ' (c - 10)=look σ (c - 10)->AP P TB Z o f σ' nx' x)/\K (Bj f o.dst x) σ nx)
def Lex : List (Nat×Nat)->(Env->Ab->Nat->Prop)->Env->Ab->Nat->Prop
 | [],K,f,σ,nx=>K f σ nx
 | (i, c)::r,K,f,σ,nx=>∃o,ops[i]? = some o/\
  bif Nat.ble 10 c then Y7 P TB Z ops c o (Lex r K) f σ nx else bif Nat.beq c 2 then
   (A8 ops o f=some false/\Lex r K (Bj f o.dst (.t [])) σ nx)\/
   (A8 ops o f=some true/\∃x,(∀σ nx,AP P TB Z o f σ nx x)/\Lex r K (Bj f o.dst x) σ nx)
  else Qc P TB Z ops (Nat.beq c 1) o (Lex r K) f σ nx
end
def MC(c:Nat):Bool:=Nat.beq c 0 || Nat.beq c 1
def C9(c:Nat):Bool:=Nat.beq c 1 || Nat.ble 1000 c
def JW(c cj:Nat):Bool:=Nat.beq c 2 || (!C9 cj || (Nat.ble 10 c && (Nat.ble 1000 cj && Nat.testBit (cj - 1000) (c - 10))))
section
variable {P:Program}{TB:Bg}{Z:Ctx}{ops:Array Oper}
theorem FN.congr{V:View}{o:Oper}{f f':Env}{a:Act}(h:∀t,.tmp t∈o.op.operands->f t=f' t)(b:FN V o f a):FN V o f' a:=
 λt e ht c=>b t e ht (by rw [h t ht];exact c)
theorem AP.congr{o:Oper}{f f':Env}{σ:Ab}{nx:Nat}{x:E}(h:∀t,.tmp t∈o.op.operands->f t=f' t)(b:AP P TB Z o f σ nx x):AP P TB Z o f' σ nx x:=
 λV a c=>b V a (c.congr λt ht=>(h t ht).symm)
theorem BH.congr{o:Oper}{f f':Env}{σ:Ab}{nx:Nat}{K:E->Ab->Nat->Prop}(h:∀t,.tmp t∈o.op.operands->f t=f' t)(b:BH P TB Z o f σ nx K):BH P TB Z o f' σ nx K:=
 λV a c=>b V a (c.congr λt ht=>(h t ht).symm)
theorem BH.mono{o:Oper}{f:Env}{σ:Ab}{nx:Nat}{K K':E->Ab->Nat->Prop}(b:BH P TB Z o f σ nx K)(h:∀x σ nx,K x σ nx->K' x σ nx):BH P TB Z o f σ nx K':=by
 intro V a e d c;refine Oper.wp_mono ?_ (b V a e d c);rintro a' w' ⟨V',v,x,σ',m,l,k,j,i,g⟩;exact⟨V',v,x,σ',m,l,k,j,i,h _ _ _ g⟩
theorem ER{o:Oper}{t:Tmp}(h:.tmp t∈o.op.operands):t∈o.looksAt ops:=
 cd _ (List.mem_filterMap.2 ⟨.tmp t,by simpa using h,rfl⟩)
theorem EM{o:Oper}{f:Env}{d:Option Tmp}{x:E}(h:∀t,d=some t->t∉o.looksAt ops):A8 ops o (Bj f d x)=A8 ops o f:=by
 unfold A8
 cases b:o.guard with
 | none=>rfl
 | some gw=>
  obtain⟨g,want⟩:=gw
  cases ht:(ops[g]?).bind (·.dst) with
  | none=>simp only [ht];rfl
  | some t=>
   have a:d≠some t:=λe=>h t e (by simp [Oper.looksAt,b,ht]);simp only [ht,cT,Cu a]
theorem DV{o:Oper}{f:Env}{d:Option Tmp}{x:E}(h:∀t,d=some t->t∉o.looksAt ops):∀t,.tmp t∈o.op.operands->Bj f d x t=f t:=
 λt ht=>Cu λe=>h t e (ER ht)
def waits(ops:Array Oper)(i:Nat):Nat->Nat->Bool
 | 0,_=>false
 | n+1,j=>((ops[j]?).map (·.after.any λe=>Region.binds .any e && (Nat.beq e.on i || waits ops i n e.on))).getD false
def DL(ops:Array Oper)(listed:Array Bool):Prop:=
 ∀j,listed.getD j false=true->∀o,ops[j]? = some o->∀e∈o.after,Region.binds .any e=true->listed.getD e.on false=true
theorem Il{listed:Array Bool}(c:DL ops listed){i:Nat}:∀(n j:Nat),waits ops i n j=true->listed.getD j false=true->listed.getD i false=true
 | 0,_,h,_=>by cases h
 | n + 1,j,h,e=>by
  unfold waits at h
  cases a:ops[j]? with
  | none=>rw [a] at h;cases h
  | some o=>
   rw [a] at h;simp only [dA,dc] at h;rw [d6] at h;obtain⟨k,f,h⟩:=h;simp only [bu,cu] at h;have d:=c j e o a _ (eK f) h.1
   rcases h.2 with b|b
   ·have:=bA b;rw [<-this];exact d
   ·exact Il c n _ b d
theorem Jg{listed:Array Bool}(g:DL ops listed){i:Nat}(hi:listed.getD i false=false){n j:Nat}(h:waits ops i n j=true):j∉Region.ready .any ops listed:=by
 intro d;obtain⟨_,o,e,a⟩:=mem_ready.1 d
 cases n with
 | zero=>cases h
 | succ n=>
  unfold waits at h;rw [e] at h;simp only [dA,dc] at h;rw [d6] at h;obtain⟨k,f,h⟩:=h;simp only [bu,cu] at h;have c:=a _ (eK f) h.1
  rcases h.2 with b|b
  ·have:=bA b;rw [this,hi] at c;cases c
  ·have:=Il g n _ b c;rw [hi] at this;cases this
def MZ(ops:Array Oper)(i c:Nat)(r:List (Nat×Nat)):Bool:=
 (r.all λ(j,cj)=>waits ops i ops.size j || (!C9 c && (match ops[i]?,ops[j]? with|some x,some y=>x.apart ops y|_,_=>false) && JW c cj))
def CM(ops:Array Oper):List (Nat×Nat)->Bool
 | []=>true
 | (i,c)::r=>MZ ops i c r && CM ops r
def AY(ops:Array Oper):List (Nat×Nat)->Array Bool->Bool
 | [],listed=>(Region.ready .any ops listed).isEmpty
 | (i,_)::r,listed=>(Region.ready .any ops listed).contains i && AY ops r (listed.setIfInBounds i true)
end
section
variable {P:Program}{TB:Bg}{Z:Ctx}{ops:Array Oper}
theorem Lq(listed:Array Bool)(i:Nat):(listed.setIfInBounds i true).getD i true=true:=by
 by_cases h:i < listed.size
 ·simp [h]
 ·simp [h]
theorem KH{listed:Array Bool}{j:Nat}(h:j∈Region.ready .any ops listed):listed.getD j true=false:=(mem_ready.1 h).1
theorem OR{listed:Array Bool}{j:Nat}(h:listed.getD j true=false):listed.getD j false=false:=by
 rcases cL j listed.size with a|a
 ·simpa [a] using h
 ·simp [Array.getElem?_eq_none a]
theorem Fb{listed:Array Bool}{j:Nat}(h:DL ops listed)(g:j∈Region.ready .any ops listed):DL ops (listed.setIfInBounds j true):=by
 intro i hi o d e f hb;by_cases b:j=i
 ·subst b
  obtain⟨_,o',a,c⟩:=mem_ready.1 g;rw [d] at a
  injection a with a
  subst a;exact getD_set_true (c e f hb)
 ·rw [getD_set_ne false b] at hi
  exact getD_set_true (h i hi o d e f hb)
theorem HS:∀(r:List (Nat×Nat)) (listed:Array Bool),AY ops r listed=true->∀j,j∈Region.ready .any ops listed->j∈r.map (·.1)
 | [],listed,h,j,b=>by
  simp only [AY,List.isEmpty_iff] at h;rw [h] at b;cases b
 | (i,c)::r,listed,h,j,b=>by
  simp only [AY,bu] at h;by_cases a:j=i
  ·subst a;simp
  ·have:=HS r _ h.2 j (ready_mono b a)
   simp only [cH,cm];exact .inr this
theorem QG:∀(r:List (Nat×Nat)) (listed:Array Bool),AY ops r listed=true->∀j,listed.getD j true=true->j∉r.map (·.1)
 | [],_,_,_,_=>by simp
 | (i,c)::r,listed,h,j,b=>by
  simp only [AY,bu] at h
  have hi:i∈Region.ready .any ops listed:=by simpa using h.1
  have a:i≠j:=λe=>by subst e;rw [KH hi] at b;cases b
  have:=QG r _ h.2 j (by rw [getD_set_ne true a];exact b);simp only [cH,cm,not_or];exact⟨λe=>a e.symm,this⟩
theorem KB:∀(f b:List (Nat×Nat)) (j c:Nat) (listed:Array Bool),AY ops (f++(j,c)::b) listed=true->j∈Region.ready .any ops listed->
 AY ops (f++b) (listed.setIfInBounds j true)=true
 | [],b,j,c,listed,h,_=>by
  simp only [dk,AY,bu] at h;exact h.2
 | (i,d)::f,b,j,c,listed,h,g=>by
  simp only [cQ,AY,bu] at h |-
  have hi:i∈Region.ready .any ops listed:=by simpa using h.1
  have a:j≠i:=by
   intro e;subst e;have:=QG _ _ h.2 j (Lq _ _);exact this (by simp)
  refine⟨by simpa using ready_mono hi (Ne.symm a),?_⟩;rw [Array.setIfInBounds_comm _ _ a];exact KB f b j c _ h.2 (ready_mono g a)
theorem HQ:∀(e a:List (Nat×Nat)) (x:Nat×Nat),CM ops (e++x::a)=true->CM ops (e++a)=true
 | [],a,(j,c),h=>by
  simp only [dk,CM,bu] at h;exact h.2
 | (i,d)::e,a,x,h=>by
  simp only [cQ,CM,bu] at h |-;refine⟨?_,HQ e a x h.2⟩;have f:=h.1;unfold MZ at f |-;rw [bH] at f |-;intro y b;refine f y ?_
  rcases bE.1 b with b|b
  ·exact cd _ b
  ·exact cn _ (cC _ b)
def QC(P:Program)(TB:Bg)(Z:Ctx)(c:Nat)(o:Oper)(x:E)(f:Env)(σ:Ab)(nx:Nat):Prop:=
 bif Nat.ble 10 c then ∀σ' nx',look σ' (c - 10)=look σ (c - 10)->AP P TB Z o f σ' nx' x else bif Nat.beq c 2 then ∀σ nx,AP P TB Z o f σ nx x else AP P TB Z o f σ nx x
def Yl(P:Program)(TB:Bg)(Z:Ctx)(ops:Array Oper)(c:Nat)(o:Oper)(x:E)(f:Env)(σ:Ab)(nx:Nat):Prop:=
 (A8 ops o f=some false/\x=.t [])\/(A8 ops o f=some true/\QC P TB Z c o x f σ nx)
theorem QC.congr{c:Nat}{o:Oper}{x:E}{f f':Env}{σ:Ab}{nx:Nat}(h:∀t,.tmp t∈o.op.operands->f t=f' t)(q:QC P TB Z c o x f σ nx):QC P TB Z c o x f' σ nx:=by
 unfold QC at q |-;cases b:Nat.ble 10 c
 ·rw [b] at q
  cases a:Nat.beq c 2
  ·rw [a] at q;exact AP.congr h q
  ·rw [a] at q;exact λσ nx=>AP.congr h (q σ nx)
 ·rw [b] at q;exact λσ' nx' d=>AP.congr h (q σ' nx' d)
theorem QC.move{c:Nat}{o:Oper}{x:E}{f:Env}{σ σ':Ab}{nx nx':Nat}(q:QC P TB Z c o x f σ nx)(g:(Nat.ble 10 c=false/\Nat.beq c 2=true)\/(σ'=σ/\nx'=nx)\/(Nat.ble 10 c=true/\look σ' (c - 10)=look σ (c - 10))):QC P TB Z c o x f σ' nx':=by
 rcases g with ⟨e,d⟩|⟨rfl,rfl⟩|⟨e,d⟩
 ·unfold QC at q |-;rw [e,d] at q |-;exact q
 ·exact q
 ·unfold QC at q |-;rw [e] at q |-;exact λa b h=>q a b (h.trans d)
def EF(P:Program)(TB:Bg)(Z:Ctx)(ops:Array Oper)(c:Nat)(o:Oper)(K:Env->Ab->Nat->Prop)(f:Env)(σ:Ab)(nx:Nat):Prop:=
 bif Nat.ble 10 c then Y7 P TB Z ops c o K f σ nx else bif Nat.beq c 2 then
  (A8 ops o f=some false/\K (Bj f o.dst (.t [])) σ nx)\/
  (A8 ops o f=some true/\∃x,(∀σ nx,AP P TB Z o f σ nx x)/\K (Bj f o.dst x) σ nx)
 else Qc P TB Z ops (Nat.beq c 1) o K f σ nx
theorem CQ{c:Nat}{o:Oper}{K:Env->Ab->Nat->Prop}{f:Env}{σ:Ab}{nx:Nat}(a:C9 c=false) :
 EF P TB Z ops c o K f σ nx↔∃x,Yl P TB Z ops c o x f σ nx/\K (Bj f o.dst x) σ nx:=by
 unfold C9 at a;rw [Bool.or_eq_false_iff] at a;unfold EF Yl Qc Y7 QC;rw [a.1,a.2];have key:∀ {q:E->Prop},((A8 ops o f=some false/\K (Bj f o.dst (.t [])) σ nx)\/(A8 ops o f=some true/\∃x,q x/\K (Bj f o.dst x) σ nx))↔
  ∃x,((A8 ops o f=some false/\x=.t [])\/(A8 ops o f=some true/\q x))/\K (Bj f o.dst x) σ nx:=by
  intro q;constructor
  ·rintro(⟨h,k⟩|⟨h,x,q,k⟩)
   ·exact⟨_,.inl ⟨h,rfl⟩,k⟩
   ·exact⟨x,.inr ⟨h,q⟩,k⟩
  ·rintro⟨x,⟨h,rfl⟩|⟨h,q⟩,k⟩
   ·exact .inl ⟨h,k⟩
   ·exact .inr ⟨h,x,q,k⟩
 cases d:Nat.ble 10 c
 ·cases b:Nat.beq c 2
  ·exact key
  ·exact key
 ·exact key
theorem Eb{c:Nat}{o:Oper}{K:Env->Ab->Nat->Prop}{f:Env}{σ:Ab}{nx:Nat}(b:C9 c=true) :
 EF P TB Z ops c o K f σ nx↔(A8 ops o f=some false/\K (Bj f o.dst (.t [])) σ nx)\/(A8 ops o f=some true/\BH P TB Z o f σ nx (λx σ' nx'=>(Nat.ble 1000 c=true->Kept (c - 1000) σ σ')/\K (Bj f o.dst x) σ' nx')):=by
 unfold C9 at b;unfold EF Qc Y7;cases g:Nat.ble 1000 c
 ·rw [g,Bool.or_false] at b
  have a:=bA b;subst a;constructor
  ·rintro(h|⟨h,q⟩)
   ·exact .inl h
   ·exact .inr ⟨h,BH.mono q λx σ' nx' k=>⟨λe=>by simp at e,k⟩⟩
  ·rintro(h|⟨h,q⟩)
   ·exact .inl h
   ·exact .inr ⟨h,BH.mono q λx σ' nx' k=>k.2⟩
 ·have d:Nat.ble 10 c=true:=ed (by have:=bn g;omega)
  rw [d];simp only [cond_true];constructor
  ·rintro(h|⟨h,q⟩)
   ·exact .inl h
   ·exact .inr ⟨h,BH.mono q λx σ' nx' k=>⟨λ_=>k.1,k.2⟩⟩
  ·rintro(h|⟨h,q⟩)
   ·exact .inl h
   ·exact .inr ⟨h,BH.mono q λx σ' nx' k=>⟨k.1 trivial,k.2⟩⟩
theorem EF.mono{c:Nat}{o:Oper}{K K':Env->Ab->Nat->Prop}{f:Env}{σ:Ab}{nx:Nat}(d:∀f σ nx,K f σ nx->K' f σ nx)(h:EF P TB Z ops c o K f σ nx):EF P TB Z ops c o K' f σ nx:=by
 cases e:C9 c
 ·rw [CQ e] at h |-
  obtain⟨x,b,a⟩:=h;exact⟨x,b,d _ _ _ a⟩
 ·rw [Eb e] at h |-
  rcases h with ⟨b,a⟩|⟨b,a⟩
  ·exact .inl ⟨b,d _ _ _ a⟩
  ·exact .inr ⟨b,BH.mono a λx σ' nx' k=>⟨k.1,d _ _ _ k.2⟩⟩
theorem RB{ci cj:Nat}{oi oj:Oper}{x:E}{f:Env}{σ:Ab}{nx:Nat}{K:Env->Ab->Nat->Prop}
 (i:C9 ci=false) (j:oi.apart ops oj=true) (c:JW ci cj=true) (e:Yl P TB Z ops ci oi x f σ nx)
 (h:EF P TB Z ops cj oj K (Bj f oi.dst x) σ nx):EF P TB Z ops cj oj (EF P TB Z ops ci oi K) f σ nx:=by
 obtain⟨n,o,m⟩:=Oper.apart_spec j;have l:A8 ops oj (Bj f oi.dst x)=A8 ops oj f:=EM n;have ag:∀t,.tmp t∈oj.op.operands->Bj f oi.dst x t=f t:=DV n
 have back:∀(y:E) (σ':Ab) (nx':Nat),((Nat.ble 10 ci=false/\Nat.beq ci 2=true)\/(σ'=σ/\nx'=nx)\/(Nat.ble 10 ci=true/\look σ' (ci - 10)=look σ (ci - 10)))->K (Bj (Bj f oi.dst x) oj.dst y) σ' nx'->EF P TB Z ops ci oi K (Bj f oj.dst y) σ' nx':=by
  intro y σ' nx' g b;rw [CQ i];refine⟨x,?_,by rw [Iw o] at b;exact b⟩;unfold Yl at e |-;rw [EM m]
  rcases e with e|⟨e,q⟩
  ·exact .inl e
  ·exact .inr ⟨e,(q.move g).congr λt ht=>(DV m t ht).symm⟩
 cases d:C9 cj
 ·rw [CQ d] at h |-
  obtain⟨y,a,b⟩:=h;refine⟨y,?_,back y σ nx (.inr (.inl ⟨rfl,rfl⟩)) b⟩;unfold Yl at a |-;rw [l] at a
  rcases a with a|⟨a,q⟩
  ·exact .inl a
  ·exact .inr ⟨a,q.congr ag⟩
 ·rw [Eb d] at h |-
  rw [l] at h
  have g:∀σ' nx',(Nat.ble 1000 cj=true->Kept (cj - 1000) σ σ')->(Nat.ble 10 ci=false/\Nat.beq ci 2=true)\/(σ'=σ/\nx'=nx)\/(Nat.ble 10 ci=true/\look σ' (ci - 10)=look σ (ci - 10)):=λσ' nx' b=>by
   unfold JW at c;rw [d] at c;simp only [cI,Bool.false_or,cu,bu] at c
   rcases c with c|⟨s,r,p⟩
   ·have:=bA c
    subst this;exact .inl ⟨rfl,rfl⟩
   ·exact .inr (.inr ⟨s,b r _ p⟩)
  rcases h with ⟨k,b⟩|⟨k,b⟩
  ·exact .inl ⟨k,back _ σ nx (.inr (.inl ⟨rfl,rfl⟩)) b⟩
  ·exact .inr ⟨k,(BH.congr ag b).mono λy σ' nx' b=>⟨b.1,back y σ' nx' (g σ' nx' b.1) b.2⟩⟩
theorem Dy(K:Env->Ab->Nat->Prop):∀(r:List (Nat×Nat)) (listed:Array Bool) (f:Env) (σ:Ab) (nx:Nat),DL ops listed->AY ops r listed=true->CM ops r=true->
 Lex P TB Z ops r K f σ nx->∀j,j∈Region.ready .any ops listed->∃k c g o,r=k++(j,c)::g/\ops[j]? = some o/\EF P TB Z ops c o (Lex P TB Z ops (k++g) K) f σ nx
 | [],listed,_,_,_,_,q,_,_,j,t=>by have:=HS _ _ q j t;simp at this
 | (i, ci)::r,listed,f,σ,nx,G,q,y,h,j,t=>by
  obtain⟨oi,m,h⟩:=h;by_cases n:j=i
  ·subst n
   exact⟨[],ci,r,oi,rfl,m,h⟩
  ·simp only [AY,bu] at q
   simp only [CM,bu] at y
   have hi:i∈Region.ready .any ops listed:=by simpa using q.1
   have z:j∈r.map (·.1):=HS r _ q.2 j (ready_mono t n);obtain⟨⟨j',cj⟩,s,rfl⟩:=bB.1 z;have p:=y.1;unfold MZ at p;rw [bH] at p
   have l:∀c',(j',c')∈r->C9 ci=false/\(∃oj,ops[j']? = some oj/\oi.apart ops oj=true)/\JW ci c'=true:=by
    intro c' w;have d:=p _ w;simp only [cu,bu] at d
    rcases d with d|⟨⟨R,v⟩,Q⟩
    ·exact absurd t (Jg G (OR (KH hi)) d)
    ·refine⟨by simpa using R,?_,Q⟩
     rw [m] at v
     cases b:ops[j']? with
     | none=>rw [b] at v;cases v
     | some oj=>rw [b] at v;exact⟨oj,rfl,v⟩
   have u:=(l cj s).1;have H:EF P TB Z ops ci oi (Lex P TB Z ops r K) f σ nx:=h;rw [CQ u] at H;obtain⟨x,I,J⟩:=H;obtain⟨k,c,g,oj,F,b,N⟩:=Dy K r (listed.setIfInBounds i true) _ σ nx (Fb G hi) q.2 y.2 J j' (ready_mono t n);obtain⟨_,⟨oj',a,B⟩,A⟩:=l c (by rw [F];simp);rw [b] at a
   injection a with a
   subst a;refine⟨(i,ci)::k,c,g,oj,by rw [F];rfl,b,?_⟩;have M:=RB u B A I N;have e:Lex P TB Z ops ((i,ci)::k++g) K=λf σ nx=>∃o,ops[i]? = some o/\EF P TB Z ops ci o (Lex P TB Z ops (k++g) K) f σ nx:=rfl;rw [e]
   have L:∀f σ nx,EF P TB Z ops ci oi (Lex P TB Z ops (k++g) K) f σ nx->∃o,ops[i]? = some o/\EF P TB Z ops ci o (Lex P TB Z ops (k++g) K) f σ nx:=λf σ nx h=>⟨oi,m,h⟩
   exact EF.mono L M
end
structure Bv (TB:Bg) (Z:Ctx) (N:Nat) (V:View) (f:Env) (σ:Ab) (nx:Nat) (a:Act):Prop where
 env:CP V f a.tmps
 lt:∀t e,f t=some e->t < N
 size:a.tmps.size=N
 inv:Inv TB Z V σ
 nx:V.nx=nx
 defers:a.defers=[]
def Es(N:Nat)(ops:Array Oper):Bool:=ops.all λo=>match o.dst with|some d=>Nat.blt d N|none=>true
section
variable {P:Program}{TB:Bg}{Z:Ctx}{N:Nat}{ops:Array Oper}
theorem O9(h:Es N ops=true){i:Nat}{o:Oper}(a:ops[i]? = some o){d:Tmp}(b:o.dst=some d):d < N:=by
 unfold Es at h;rw [Array.all_eq_true] at h;obtain⟨hi,rfl⟩:=ca.1 a;have:=h i hi;rw [b] at this;exact bn this
theorem Bv.put{V V':View}{f:Env}{σ σ':Ab}{nx nx':Nat}{a:Act}{d:Option Tmp}{x:E}{v:Value}(h:Bv TB Z N V f σ nx a)(g:∀t,d=some t->t < N)
 (e:Ext V V') (hi:Inv TB Z V' σ') (c:V'.nx=nx') (i:A1 V' x v):Bv TB Z N V' (Bj f d x) σ' nx' (a.put d v):=by
 cases d with
 | none=>exact⟨h.env.ext e,h.lt,h.size,hi,c,h.defers⟩
 | some d=>
  refine⟨?_,?_,by simp [Act.put,h.size],hi,c,h.defers⟩
  ·intro t y b
   simp only [Bj] at b;by_cases ht:t=d
   ·subst ht
    simp only [if_true] at b
    injection b with b
    subst b
    have:t < a.tmps.size:=by rw [h.size];exact g t rfl
    simpa [Act.put,this] using i
   ·rw [if_neg ht] at b
    have:=(h.env t y b).ext e
    simpa [Act.put,cW (Ne.symm ht)] using this
  ·intro t y b
   simp only [Bj] at b;by_cases ht:t=d
   ·subst ht;exact g t rfl
   ·rw [if_neg ht] at b;exact h.lt t y b
theorem IQ(V:View):A1 V (.t []) undef:=⟨#[],rfl,rfl,λj x v h=>by simp at h⟩
def Qb(TB:Bg)(Z:Ctx)(N:Nat)(K:Env->Ab->Nat->Prop)(Q:Exit->Act->World->Prop):Prop:=
 ∀V f σ a,Bv TB Z N V f σ V.nx a->K f σ V.nx->Q .normal a V.w
theorem JL{c:Nat}{i:Nat}{o:Oper}(B:ops[i]? = some o)(l:∀t,o.dst=some t->t < N){K:Env->Ab->Nat->Prop}{K':Act->World->Prop}{Q:Exit->Act->World->Prop}
 (m:∀V f σ a,Bv TB Z N V f σ V.nx a->K f σ V.nx->K' a V.w)
 {V:View} {f:Env} {σ:Ab} {nx:Nat} {a:Act} (b:Bv TB Z N V f σ nx a) (h:EF P TB Z ops c o K f σ nx):wpOp P ops Q i K' a V.w:=by
 have j:∀t e,f t=some e->t < a.tmps.size:=λt e F=>by rw [b.size];exact b.lt t e F
 unfold wpOp;simp only [B]
 have no:A8 ops o f=some false->K (Bj f o.dst (.t [])) σ nx->(if Region.wanted o (yielded ops a.tmps) then o.wp P a V.w K' Q\/(o.asks P a V.w/\LetsOut Q) else K' (a.put o.dst undef) V.w):=by
  intro d g;rw [E5 b.env j d];have k:Bv TB Z N V (Bj f o.dst (.t [])) σ V.nx (a.put o.dst undef):=b.put l (Ext.refl _) b.inv rfl (IQ V)
  simpa using m _ _ _ _ k (by rw [b.nx];exact g)
 have yes:A8 ops o f=some true->(∃x,AP P TB Z o f σ nx x/\K (Bj f o.dst x) σ nx)->(if Region.wanted o (yielded ops a.tmps) then o.wp P a V.w K' Q\/(o.asks P a V.w/\LetsOut Q) else K' (a.put o.dst undef) V.w):=by
  rintro d ⟨x,A,g⟩;rw [E5 b.env j d];simp only [if_true];refine .inl (PX P (Oper.wp_mono ?_ (A V a (b.env.op o) b.inv b.nx)));rintro a' w' ⟨V',v,rfl,rfl,s,r,p,n⟩;exact m V' _ σ _ (b.put l s r rfl n) (by rw [p];exact g)
 cases u:C9 c
 ·rw [CQ u] at h
  obtain⟨x,z,g⟩:=h
  rcases z with ⟨d,rfl⟩|⟨d,q⟩
  ·exact no d g
  ·refine yes d ⟨x,?_,g⟩
   unfold QC at q;cases k:Nat.ble 10 c
   ·rw [k] at q
    cases y:Nat.beq c 2
    ·rw [y] at q;exact q
    ·rw [y] at q;exact q σ nx
   ·rw [k] at q;exact q σ nx rfl
 ·rw [Eb u] at h
  rcases h with ⟨d,g⟩|⟨d,g⟩
  ·exact no d g
  ·rw [E5 b.env j d]
   simp only [if_true];refine .inl (PX P (Oper.wp_mono ?_ (g V a (b.env.op o) b.inv b.nx)));rintro a' w' ⟨V',v,x,σ',rfl,rfl,s,r,p,n⟩;exact m V' _ σ' _ (b.put l s r rfl p) n.2
theorem Io(g:Es N ops=true){K:Env->Ab->Nat->Prop}{Q:Exit->Act->World->Prop}(j:Qb TB Z N K Q):∀(r:List (Nat×Nat)) (V:View) (f:Env) (σ:Ab) (a:Act),
 Bv TB Z N V f σ V.nx a->Lex P TB Z ops r K f σ V.nx->wpOps P ops Q (r.map (·.1)) a V.w
 | [],V,f,σ,a,d,h=>j V f σ a d h
 | (i,c)::r,V,f,σ,a,d,h=>by
  obtain⟨o,e,h⟩:=h;rw [cH,wpOps_cons];exact JL e (λt ht=>O9 g e ht) (λV' f' σ' a' b k=>Io g j r V' f' σ' a' b k) d h
theorem Im(y:Es N ops=true){K:Env->Ab->Nat->Prop}{Q:Exit->Act->World->Prop}(z:Qb TB Z N K Q):∀(n:Nat) (r:List (Nat×Nat)) (listed:Array Bool) (V:View) (f:Env) (σ:Ab) (a:Act),
 r.length=n->DL ops listed->AY ops r listed=true->CM ops r=true->Bv TB Z N V f σ V.nx a->Lex P TB Z ops r K f σ V.nx->wpAny P .any ops Q n listed a V.w
 | 0,r,listed,V,f,σ,a,g,v,b,s,p,h=>by
  have:r=[]:=bM.1 g;subst this;refine⟨?_,z V f σ a p h⟩
  simpa [AY] using b
 | n + 1,r,listed,V,f,σ,a,g,v,b,s,p,h=>by
  refine⟨λe=>?_,λj u=>?_⟩
  ·cases r with
   | nil=>simp at g
   | cons x r=>
    obtain⟨i,c⟩:=x;simp only [AY,bu] at b;have:=b.1;rw [e] at this;simp at this
  ·obtain⟨l,c,k,o,rfl,d,A⟩:=Dy K r listed f σ V.nx v b s h j u
   refine JL d (λt ht=>O9 y d ht) (λV' f' σ' a' m q=>?_) p A;exact Im y z n (l++k) _ V' f' σ' a' (by simp at g |-;omega) (Fb v u) (KB l k j c listed b u) (HQ l k _ s) m q
def Al(P:Program)(TB:Bg)(Z:Ctx)(N:Nat)(c:Code)(Q:Exit->Env->Ab->Nat->Prop)(f:Env)(σ:Ab)(nx:Nat):Prop:=
 ∀V a,Bv TB Z N V f σ nx a->c.wp P (λe a' w'=>∃V' f' σ',V'.w=w'/\Q e f' σ' V'.nx/\Bv TB Z N V' f' σ' V'.nx a') a V.w
variable {Q:Exit->Env->Ab->Nat->Prop}{f:Env}{σ:Ab}{nx:Nat}
theorem Al.skip(h:Q .normal f σ nx):Al P TB Z N .skip Q f σ nx:=λV _ a=>wp_skip ⟨V,f,σ,rfl,by rw [a.nx];exact h,by rw [a.nx];exact a⟩
theorem Al.exit{id:Nat}(h:Q (.exit id) f σ nx):Al P TB Z N (.exit id) Q f σ nx:=λV _ a=>wp_exit ⟨V,f,σ,rfl,by rw [a.nx];exact h,by rw [a.nx];exact a⟩
theorem Al.ret(h:Q .ret f σ nx):Al P TB Z N .ret Q f σ nx:=λV _ a=>wp_ret ⟨V,f,σ,rfl,by rw [a.nx];exact h,by rw [a.nx];exact a⟩
def Ii(K:Env->Ab->Nat->Prop)(Q:Exit->Env->Ab->Nat->Prop):Exit->Env->Ab->Nat->Prop
 | .normal=>K
 | e=>Q e
theorem Al.seq{x y:Code}(h:Al P TB Z N x (Ii (Al P TB Z N y Q) Q) f σ nx):Al P TB Z N (.seq x y) Q f σ nx:=by
 intro V a d;refine wp_seq (wp_mono (h V a d) ?_);rintro e a' w' ⟨V',f',σ',rfl,c,b⟩
 cases e with
 | normal=>exact c V' a' b
 | exit id=>exact⟨V',f',σ',rfl,c,b⟩
 | goto l=>exact⟨V',f',σ',rfl,c,b⟩
 | ret=>exact⟨V',f',σ',rfl,c,b⟩
 | panic ch=>exact⟨V',f',σ',rfl,c,b⟩
 | outgrown=>exact⟨V',f',σ',rfl,c,b⟩
def Zc(id:Nat)(Q:Exit->Env->Ab->Nat->Prop):Exit->Env->Ab->Nat->Prop
 | .exit id'=>bif Nat.beq id' id then Q .normal else Q (.exit id')
 | e=>Q e
theorem Al.block{id:Nat}{c:Code}(h:Al P TB Z N c (Zc id Q) f σ nx):Al P TB Z N (.block id c) Q f σ nx:=by
 intro V a i;refine wp_block (wp_mono (h V a i) ?_);rintro e a' w' ⟨V',f',σ',rfl,b,g⟩
 cases e with
 | exit id'=>
  simp only [Exit.inBlock];by_cases d:id'=id
  ·subst d
   simp only [Zc,ei,cond_true] at b;rw [if_pos rfl];exact⟨V',f',σ',rfl,b,g⟩
  ·have:Nat.beq id' id=false:=by
    cases hb:Nat.beq id' id
    ·rfl
    ·exact absurd (bA hb) d
   simp only [Zc,this,cond_false] at b;rw [if_neg d];exact⟨V',f',σ',rfl,b,g⟩
 | normal=>exact⟨V',f',σ',rfl,b,g⟩
 | goto l=>exact⟨V',f',σ',rfl,b,g⟩
 | ret=>exact⟨V',f',σ',rfl,b,g⟩
 | panic ch=>exact⟨V',f',σ',rfl,b,g⟩
 | outgrown=>exact⟨V',f',σ',rfl,b,g⟩
def cE:Value->Option E
 | .slice none 0 0=>some (.o (.d (.l [])))
 | v=>bif KQ v then some (.o (.d (.v v))) else none
def ev(f:Env):Operand->Option E
 | .tmp t=>f t
 | .const v=>cE v
 | .global _=>none
 | .func f=>some (.o (.fn f []))
theorem Sv{V:View}{v:Value}{e:E}(h:cE v=some e):A1 V e v:=by
 unfold cE at h;split at h
 ·injection h with h;subst h;exact .d .nil
 ·cases a:KQ v
  ·rw [a] at h;cases h
  ·rw [a] at h;injection h with h;subst h;exact .d (.v a)
theorem VR{V:View}{o:Oper}{f:Env}{a:Act}(h:FN V o f a){x:Operand}(d:x∈o.op.operands){e:E}(b:ev f x=some e):A1 V e (a.eval x):=by
 cases x with
 | tmp t=>exact h t e d b
 | const v=>exact Sv b
 | global g=>cases b
 | func g=>
  injection b with b;subst b
  exact .fn rfl (λj c v i=>by simp at i)
theorem VQ{V:View}{f:Env}{a:Act}(h:CP V f a.tmps){x:Operand}{e:E}(b:ev f x=some e):A1 V e (a.eval x):=by
 cases x with
 | tmp t=>exact h t e b
 | const v=>exact Sv b
 | global g=>cases b
 | func g=>
  injection b with b;subst b
  exact .fn rfl (λj c v d=>by simp at d)
theorem Al.cond{c:Operand}{x y:Code}{b:Bool}(i:ev f c=some (.o (.d (.v (.bool b)))))(ht:b=true->Al P TB Z N x Q f σ nx)(g:b=false->Al P TB Z N y Q f σ nx) :
 Al P TB Z N (.cond c x y) Q f σ nx:=by
 intro V a e;have j:a.eval c=.bool b:=AA.val (VQ e.env i);exact wp_cond_split j (λh=>ht h V a e) (λh=>g h V a e)
theorem Al.region{id:Nat}(r:List (Nat×Nat))(g:Es N ops=true)(d:r.map (·.1)=List.range ops.size)(h:Lex P TB Z ops r (λf σ nx=>Q .normal f σ nx) f σ nx) :
 Al P TB Z N (.region id ops false) Q f σ nx:=by
 intro V a b;refine wp_region ?_;rw [<-d];have c:=b.nx;subst c;exact Io g (λV f σ a b e=>⟨V,f,σ,rfl,e,b⟩) r V f σ a b h
theorem IY(ops:Array Oper):DL ops (Array.replicate ops.size false):=by
 intro j a
 have:(Array.replicate ops.size false).getD j false=false:=by
  rcases cL j ops.size with h|h
  ·simp [h]
  ·simp [h]
 rw [this] at a;cases a
theorem Inv.drew{V:View}(h:Inv TB Z V σ):Inv TB Z { V with w:={ V.w with drawn:=V.w.drawn+1 } } σ/\Ext V { V with w:={ V.w with drawn:=V.w.drawn+1 } } := by
 have e:Ext V { V with w:={ V.w with drawn:=V.w.drawn+1 } } := ⟨λ_ h=>h,λ_ _=>rfl,bJ _,λ_ _=>rfl,λ_ _=>rfl,λ_ _=>Iff.rfl,bJ _⟩
 refine⟨⟨h.os,h.tape,h.output,h.old,h.iLt,h.iNew,h.ext.trans e,⟨λid o d=>?_,h.st.lt,h.st.free,h.st.inj⟩,h.live,h.tabs,h.hid.step (λ_ h=>h) (λ_ _=>rfl) (bJ _) (λ_ _ _ _=>rfl) (λ_ h=>.inl h) (λb hb=>.inl (Ga e h.st.lt hb))⟩,e⟩;have a:=h.st.obj id o d
 cases o with
 | cells T k rows=>
  rcases a with a|⟨u,cur,t,s,q,p,n,m⟩
  ·exact .inl a
  ·exact .inr ⟨u,cur,t,s,q,p,n,λi r j c hi f=>let ⟨v,l,g⟩:=m i r j c hi f;⟨v,l,g.ext e⟩⟩
 | mp=>exact a
 | sld=>exact a
theorem Al.UX{id:Nat}(r:List (Nat×Nat))(i:P.follows .mixedOrders=true)(k:Es N ops=true)(g:r.length=ops.size)(d:(AY ops r (Array.replicate ops.size false) && CM ops r)=true)
 (h:Lex P TB Z ops r (λf σ nx=>Q .normal f σ nx) f σ nx):Al P TB Z N (.region id ops true) Q f σ nx:=by
 intro V a b;rw [bu] at d;refine wp_region_any i ?_;obtain⟨m,l⟩:=b.inv.drew
 have c:Bv TB Z N { V with w:={ V.w with drawn:=V.w.drawn+1 } } f σ V.nx a:=⟨b.env.ext l,b.lt,b.size,m,rfl,b.defers⟩
 have e:=b.nx;subst e;exact Im k (λV f σ a b j=>⟨V,f,σ,rfl,j,b⟩) ops.size r _ { V with w:={ V.w with drawn:=V.w.drawn+1 } } f σ a g (IY ops) d.1 d.2 c h
theorem Al.loop{α:Type}{c:Code}(S:α->Env×Ab×Nat)(μ:α->Nat)(back:α->Env->Ab->Nat->Prop)
 (g:∀y f σ nx V a,back y f σ nx->Bv TB Z N V f σ nx a->∃V',V'.w=V.w/\Bv TB Z N V' (S y).1 (S y).2.1 (S y).2.2 a)
 (x:α) (u:back x f σ nx) (round:∀x,Al P TB Z N c (Ii (λf σ nx=>∃y,μ y < μ x/\back y f σ nx) Q) (S x).1 (S x).2.1 (S x).2.2) :
 Al P TB Z N (.loop c) Q f σ nx:=by
 intro V a o b k cs;have key:∀n y,μ y=n->∀V a,Bv TB Z N V (S y).1 (S y).2.1 (S y).2.2 a->
  ∃e a' w',(∃V' f' σ',V'.w=w'/\Q e f' σ' V'.nx/\Bv TB Z N V' f' σ' V'.nx a')/\Arrives P (lone (b.at a (.code c::.inLoop c::k)) cs V.w) b k cs e a' w':=by
  intro n
  induction n using Nat.strongRecOn with
  | _ n r=>
   intro y t V a o;obtain⟨e,a₁,w₁,p,d⟩:=round y V a o b (.inLoop c::k) cs;obtain⟨V',f',σ',rfl,i,h⟩:=p
   cases e with
   | normal=>
    obtain⟨z,s,hb⟩:=i;obtain⟨V'',q,j⟩:=g z f' σ' V'.nx V' a₁ hb h;obtain⟨e₂,a₂,w₂,hq₂,harr₂⟩:=r (μ z) (t ▸ s) z rfl V'' a₁ j;rw [q] at harr₂;exact⟨e₂,a₂,w₂,hq₂,.of_steps (Steps.trans d (.one step_inLoop)) harr₂⟩
   | exit id=>exact⟨_,a₁,_,⟨V',f',σ',rfl,i,h⟩,.pass (x:=.inLoop c) rfl (λ_ _=>.inl (by simp)) d⟩
   | goto l=>exact⟨_,a₁,_,⟨V',f',σ',rfl,i,h⟩,.pass (x:=.inLoop c) rfl (λ_ _=>.inl (by simp)) d⟩
   | ret=>exact⟨_,a₁,_,⟨V',f',σ',rfl,i,h⟩,.pass (x:=.inLoop c) rfl (λ_ _=>.inl (by simp)) d⟩
   | panic ch=>exact⟨_,a₁,_,⟨V',f',σ',rfl,i,h⟩,.pass (x:=.inLoop c) rfl (λ_ _=>.inl (by simp)) d⟩
   | outgrown=>exact⟨_,a₁,_,⟨V',f',σ',rfl,i,h⟩,.pass (x:=.inLoop c) rfl (λ_ _=>.inl (by simp)) d⟩
 obtain⟨V',q,m⟩:=g x f σ nx V a u o;obtain⟨e,a',w',p,d⟩:=key _ x rfl V' a m;rw [q] at d;exact⟨e,a',w',p,.of_steps (.one step_loop) d⟩
end
end Go.Am
namespace Go.Proofs.YtgpbfllcjdfelaaGreatDoor
open Go
theorem Ui:mapsRowed Tryz.prog=true:=by kernel_rfl
theorem Xj:(Tryz.prog.stops == [])=true:=by kernel_rfl
theorem Xh:(Tryz.prog.stopKnobs == [])=true:=by kernel_rfl
theorem Xg:Tryz.prog.stopsHeard=true:=by kernel_rfl
theorem Uj:(false == Tryz.prog.plainKeys)=true:=by kernel_rfl
end Go.Proofs.YtgpbfllcjdfelaaGreatDoor
