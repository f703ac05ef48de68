/-
  The quiet operations, one rule each.
-/
import Derived.Test.YtainaphkaklkmaaGreatDoorPart1
import Derived.IntWalk
import Derived.Laws.Cells
import Derived.Laws.Entries
import Derived.Laws.AppendOwn
import Derived.Laws.CopyRow
set_option linter.constructorNameAsVariable false
set_option linter.unusedSimpArgs false
set_option linter.unusedVariables false
namespace Go.Am
open Go
def isAggD:TypeDesc→Bool
  | .struct _|.array _ _=>true
  | _=>false
def ldF (P:Program) (t:TypeId):Option (Bool×Nat):=match P.underlying t,P.info? t with
  | some d,some i=>some (isAggD d,i.size)
  | _,_=>none
def fldF (P:Program) (s k:Nat):Option Nat:=match P.underlying s with
  | some (.struct fs)=>match fs[k]? with
    | some f=>match P.info? f.type with
      | some i=>bif Nat.beq i.size 0 then none else some f.offset
      | none=>none
    | none=>none
  | _=>none
def fldT (P:Program) (s k:Nat):Option (Nat×Bool×Nat):=match P.underlying s with
  | some (.struct fs)=>match fs[k]? with
    | some f=>(ldF P f.type).map fun x=>(f.offset,x)
    | none=>none
  | _=>none
def slF (P:Program) (t:TypeId):Option (TypeId×Nat×Nat):=match P.underlying t with
  | some (.slice e)=>(P.info? e).map fun i=>(e,i.size,i.bytes)
  | _=>none
def arF (P:Program) (t:TypeId):Option (Nat×Nat):=match P.underlying t with
  | some (.array n e)=>(P.info? e).map fun i=>(n,i.size)
  | _=>none
def zeF (P:Program) (t:TypeId):Option (List Value):=(P.info? t).bind fun i=>i.zero.map fun z=>z.cells.toList
class HasLd (P:Program) (t:TypeId) (ag:outParam Bool) (k:outParam Nat):Prop where
  out:ldF P t=some (ag,k)
class HasFld (P:Program) (s k:Nat) (off:outParam Nat):Prop where
  out:fldF P s k=some off
class HasFldT (P:Program) (s k:Nat) (off:outParam Nat) (ag:outParam Bool) (n:outParam Nat):Prop where
  out:fldT P s k=some (off,ag,n)
class HasSl (P:Program) (t:TypeId) (e:outParam TypeId) (k b:outParam Nat):Prop where
  out:slF P t=some (e,k,b)
class HasAr (P:Program) (t:TypeId) (n k:outParam Nat):Prop where
  out:arF P t=some (n,k)
class HasZe (P:Program) (t:TypeId) (z:outParam (List Value)):Prop where
  out:zeF P t=some z
class HasStr (P:Program) (t:TypeId):Prop where
  out:P.underlying t=some .string
class HasInt (P:Program) (t:TypeId) (k:outParam IntKind):Prop where
  out:P.underlying t=some (.int k)
theorem ld_inv {P:Program} {t:TypeId} {ag:Bool} {k:Nat} (h:ldF P t=some (ag,k)):∃d i,P.underlying t=some d∧isAggD d=ag∧P.info? t=some i∧i.size=k:=by
  unfold ldF at h
  split at h
  · rename_i d i hd hi
    injection h with h;injection h with h1 h2
    exact ⟨d,i,hd,h1,hi,h2⟩
  · cases h
theorem run_isAgg {P:Program} {t:TypeId} {ag:Bool} {k:Nat} (h:ldF P t=some (ag,k)) (w:World):(isAgg t).run P w=.ok ag w∧(sizeOf t).run P w=.ok k w:=by
  obtain ⟨d,i,h1,h2,h3,h4⟩:=ld_inv h
  constructor
  · subst h2
    cases d<;>simp [isAgg,run_underlying h1,isAggD,go_sem]
  · simp [sizeOf,typeInfo,h3,h4,go_sem]
theorem sl_inv {P:Program} {t e:TypeId} {k b:Nat} (h:slF P t=some (e,k,b)):∃i,P.underlying t=some (.slice e)∧P.info? e=some i∧i.size=k∧i.bytes=b:=by
  unfold slF at h
  split at h
  · rename_i e' hd
    simp only [Option.map_eq_some_iff] at h
    obtain ⟨i,hi,h⟩:=h
    injection h with h1 h2;injection h2 with h2 h3
    subst h1 h2 h3
    exact ⟨i,hd,hi,rfl,rfl⟩
  · cases h
theorem ar_inv {P:Program} {t:TypeId} {n k:Nat} (h:arF P t=some (n,k)):∃e i,P.underlying t=some (.array n e)∧P.info? e=some i∧i.size=k:=by
  unfold arF at h
  split at h
  · rename_i n' e' hd
    simp only [Option.map_eq_some_iff] at h
    obtain ⟨i,hi,h⟩:=h
    injection h with h1 h2
    subst h1 h2
    exact ⟨e',i,hd,hi,rfl⟩
  · cases h
theorem addr_add (b o n:Nat):(⟨b,o,none⟩:Addr).add n=⟨b,o+n,none⟩:=by
  unfold Addr.add;split<;>simp_all
section
variable {P:Program} {TB:List (Nat×Obj)} {Γ:Ctx} {d:Option Tmp} {ty:TypeId} {pos:String} {af:Array Edge} {g:Option (Nat×Bool)} {f:Env} {σ:Store} {nx:Nat}
def EvRel (V:View) (o:Oper) (f:Env) (ρ:Operand→Value):Prop:=∀x e,x∈o.op.operands→ev f x=some e→ERel V e (ρ x)
theorem OpRel.evRel {V:View} {o:Oper} {f:Env} {a:Act} (h:OpRel V o f a):EvRel V o f a.eval:=fun _ _ hx he=>Am.ev_rel h hx he
theorem EvRel.get {V:View} {o:Oper} {f:Env} {ρ:Operand→Value} (h:EvRel V o f ρ) {x:Operand} (hx:x∈o.op.operands) {e:E} (he:ev f x=some e):ERel V e (ρ x):=h x e hx he
theorem q_of_run {o:Oper} {x:E} (h:∀V ρ,EvRel V o f ρ→Inv TB Γ V σ→∃v,(execOp ρ o).run P V.w=.ok (.value v) V.w∧ERel V x v):QOp P TB Γ o f σ nx x:=by
  intro V a h1 h2 h3
  obtain ⟨v,hr,he⟩:=h V a.eval h1.evRel h2
  unfold Oper.wp
  rw [hr]
  exact ⟨V,v,rfl,rfl,Ext.refl V,h2,h3,he⟩
theorem q_move {x:Operand} {e:E} (hx:ev f x=some e):QOp P TB Γ ⟨d,.move x,ty,pos,af,g⟩ f σ nx e:=
  q_of_run fun V ρ h1 _=>⟨ρ x,by simp [execOp,go_sem],h1.get (by simp [Op.operands]) hx⟩
theorem q_assign {x:Operand} {e:E} (hx:ev f x=some e):QOp P TB Γ ⟨d,.assign x,ty,pos,af,g⟩ f σ nx e:=
  q_of_run fun V ρ h1 _=>⟨ρ x,by simp [execOp,go_sem],h1.get (by simp [Op.operands]) hx⟩
theorem q_pickT {c x y:Operand} {e:E} (hc:ev f c=some (.o (.d (.v (.bool true))))) (hx:ev f x=some e):QOp P TB Γ ⟨d,.pick c x y,ty,pos,af,g⟩ f σ nx e:=
  q_of_run fun V ρ h1 _=>⟨ρ x,by
    have h2:ρ c=.bool true:=CRel.val (h1.get (by simp [Op.operands]) hc)
    simp [execOp,h2,asBool,go_sem],h1.get (by simp [Op.operands]) hx⟩
theorem q_pickF {c x y:Operand} {e:E} (hc:ev f c=some (.o (.d (.v (.bool false))))) (hy:ev f y=some e):QOp P TB Γ ⟨d,.pick c x y,ty,pos,af,g⟩ f σ nx e:=
  q_of_run fun V ρ h1 _=>⟨ρ y,by
    have h2:ρ c=.bool false:=CRel.val (h1.get (by simp [Op.operands]) hc)
    simp [execOp,h2,asBool,go_sem],h1.get (by simp [Op.operands]) hy⟩
abbrev eI (k:IntKind) (n:Int):E:=.o (.d (.v (.int k n)))
abbrev eB (b:Bool):E:=.o (.d (.v (.bool b)))
abbrev eS (s:ByteArray):E:=.o (.d (.v (.string s)))
theorem bin_run {op:BinOp} {t yt:TypeId} {x y:Operand} {vx vy v:Value} (hx:ev f x=some (.o (.d (.v vx)))) (hy:ev f y=some (.o (.d (.v vy)))) (hs:scal v=true)
    (hr:∀w,((do eqGuard op t x y vx vy;binOp op t vx vy:Sem Value)).run P w=.ok v w):QOp P TB Γ ⟨d,.binOp op t x y yt,ty,pos,af,g⟩ f σ nx (.o (.d (.v v))):=
  q_of_run fun V ρ h1 _=>⟨v,by
    have h2:ρ x=vx:=CRel.val (h1.get (by simp [Op.operands]) hx)
    have h3:ρ y=vy:=CRel.val (h1.get (by simp [Op.operands]) hy)
    have:=hr V.w
    simp only [execOp,h2,h3,Sem.run_bind] at this ⊢
    rw [this];rfl,.d (.v hs)⟩
theorem q_add {t yt:TypeId} {x y:Operand} {k:IntKind} {m n z:Int} (hx:ev f x=some (eI k m)) (hy:ev f y=some (eI k n)) (hz:k.wrap (m+n)=z) :
    QOp P TB Γ ⟨d,.binOp .add t x y yt,ty,pos,af,g⟩ f σ nx (eI k z):=bin_run hx hy rfl fun w=>by subst hz;simp [eqGuard,binOp,Op.intArith,go_sem]
theorem q_sub {t yt:TypeId} {x y:Operand} {k:IntKind} {m n z:Int} (hx:ev f x=some (eI k m)) (hy:ev f y=some (eI k n)) (hz:k.wrap (m - n)=z) :
    QOp P TB Γ ⟨d,.binOp .sub t x y yt,ty,pos,af,g⟩ f σ nx (eI k z):=bin_run hx hy rfl fun w=>by subst hz;simp [eqGuard,binOp,Op.intArith,go_sem]
theorem q_mul {t yt:TypeId} {x y:Operand} {k:IntKind} {m n z:Int} (hx:ev f x=some (eI k m)) (hy:ev f y=some (eI k n)) (hz:k.wrap (m*n)=z) :
    QOp P TB Γ ⟨d,.binOp .mul t x y yt,ty,pos,af,g⟩ f σ nx (eI k z):=bin_run hx hy rfl fun w=>by subst hz;simp [eqGuard,binOp,Op.intArith,go_sem]
theorem q_quo {t yt:TypeId} {x y:Operand} {k:IntKind} {m n z:Int} (hx:ev f x=some (eI k m)) (hy:ev f y=some (eI k n)) (hn:n≠0) (hz:k.wrap (m.tdiv n)=z) :
    QOp P TB Γ ⟨d,.binOp .quo t x y yt,ty,pos,af,g⟩ f σ nx (eI k z):=bin_run hx hy rfl fun w=>by subst hz;simp [eqGuard,binOp,Op.intDiv,hn,go_sem]
theorem q_rem {t yt:TypeId} {x y:Operand} {k:IntKind} {m n z:Int} (hx:ev f x=some (eI k m)) (hy:ev f y=some (eI k n)) (hn:n≠0) (hz:m.tmod n=z) :
    QOp P TB Γ ⟨d,.binOp .rem t x y yt,ty,pos,af,g⟩ f σ nx (eI k z):=bin_run hx hy rfl fun w=>by subst hz;simp [eqGuard,binOp,Op.intDiv,hn,go_sem]
theorem q_shl {t yt:TypeId} {x y:Operand} {k k':IntKind} {m n z:Int} (hx:ev f x=some (eI k m)) (hy:ev f y=some (eI k' n)) (hn:0≤n) (hz:k.wrap (m*2 ^ (min n.toNat k.bits))=z) :
    QOp P TB Γ ⟨d,.binOp .shl t x y yt,ty,pos,af,g⟩ f σ nx (eI k z):=bin_run hx hy rfl fun w=>by
      have:¬n < 0:=by omega
      subst hz;simp [eqGuard,binOp,Op.shift,this,go_sem]
theorem q_shr {t yt:TypeId} {x y:Operand} {k k':IntKind} {m n z:Int} (hx:ev f x=some (eI k m)) (hy:ev f y=some (eI k' n)) (hn:0≤n) (hz:m.fdiv (2 ^ (min n.toNat k.bits))=z) :
    QOp P TB Γ ⟨d,.binOp .shr t x y yt,ty,pos,af,g⟩ f σ nx (eI k z):=bin_run hx hy rfl fun w=>by
      have:¬n < 0:=by omega
      subst hz;simp [eqGuard,binOp,Op.shift,this,go_sem]
def iAnd (k:IntKind) (m n:Int):Int:=k.wrap ((BitVec.ofInt k.bits m &&& BitVec.ofInt k.bits n).toNat)
def iOr (k:IntKind) (m n:Int):Int:=k.wrap ((BitVec.ofInt k.bits m ||| BitVec.ofInt k.bits n).toNat)
def iXor (k:IntKind) (m n:Int):Int:=k.wrap ((BitVec.ofInt k.bits m ^^^ BitVec.ofInt k.bits n).toNat)
theorem q_and {t yt:TypeId} {x y:Operand} {k:IntKind} {m n z:Int} (hx:ev f x=some (eI k m)) (hy:ev f y=some (eI k n)) (hz:iAnd k m n=z) :
    QOp P TB Γ ⟨d,.binOp .and t x y yt,ty,pos,af,g⟩ f σ nx (eI k z):=bin_run hx hy rfl fun w=>by subst hz;simp [eqGuard,binOp,Op.intBits,iAnd,go_sem]
theorem q_or {t yt:TypeId} {x y:Operand} {k:IntKind} {m n z:Int} (hx:ev f x=some (eI k m)) (hy:ev f y=some (eI k n)) (hz:iOr k m n=z) :
    QOp P TB Γ ⟨d,.binOp .or t x y yt,ty,pos,af,g⟩ f σ nx (eI k z):=bin_run hx hy rfl fun w=>by subst hz;simp [eqGuard,binOp,Op.intBits,iOr,go_sem]
theorem q_xor {t yt:TypeId} {x y:Operand} {k:IntKind} {m n z:Int} (hx:ev f x=some (eI k m)) (hy:ev f y=some (eI k n)) (hz:iXor k m n=z) :
    QOp P TB Γ ⟨d,.binOp .xor t x y yt,ty,pos,af,g⟩ f σ nx (eI k z):=bin_run hx hy rfl fun w=>by subst hz;simp [eqGuard,binOp,Op.intBits,iXor,go_sem]
theorem q_lss {t yt:TypeId} {x y:Operand} {k:IntKind} {m n:Int} (hx:ev f x=some (eI k m)) (hy:ev f y=some (eI k n)) :
    QOp P TB Γ ⟨d,.binOp .lss t x y yt,ty,pos,af,g⟩ f σ nx (eB (decide (m < n))):=bin_run hx hy rfl fun w=>by simp [eqGuard,binOp,Op.intCmp,go_sem]
theorem q_leq {t yt:TypeId} {x y:Operand} {k:IntKind} {m n:Int} (hx:ev f x=some (eI k m)) (hy:ev f y=some (eI k n)) :
    QOp P TB Γ ⟨d,.binOp .leq t x y yt,ty,pos,af,g⟩ f σ nx (eB (decide (m≤n))):=bin_run hx hy rfl fun w=>by simp [eqGuard,binOp,Op.intCmp,go_sem]
theorem q_gtr {t yt:TypeId} {x y:Operand} {k:IntKind} {m n:Int} (hx:ev f x=some (eI k m)) (hy:ev f y=some (eI k n)) :
    QOp P TB Γ ⟨d,.binOp .gtr t x y yt,ty,pos,af,g⟩ f σ nx (eB (decide (n < m))):=bin_run hx hy rfl fun w=>by simp [eqGuard,binOp,Op.intCmp,go_sem]
theorem q_geq {t yt:TypeId} {x y:Operand} {k:IntKind} {m n:Int} (hx:ev f x=some (eI k m)) (hy:ev f y=some (eI k n)) :
    QOp P TB Γ ⟨d,.binOp .geq t x y yt,ty,pos,af,g⟩ f σ nx (eB (decide (n≤m))):=bin_run hx hy rfl fun w=>by simp [eqGuard,binOp,Op.intCmp,go_sem]
theorem q_eql {t yt:TypeId} {x y:Operand} {k:IntKind} {m n:Int} (hx:ev f x=some (eI k m)) (hy:ev f y=some (eI k n)) :
    QOp P TB Γ ⟨d,.binOp .eql t x y yt,ty,pos,af,g⟩ f σ nx (eB (decide (m=n))):=bin_run hx hy rfl fun w=>by simp [eqGuard,binOp,Op.intCmp,go_sem];rfl
theorem q_neq {t yt:TypeId} {x y:Operand} {k:IntKind} {m n:Int} (hx:ev f x=some (eI k m)) (hy:ev f y=some (eI k n)) :
    QOp P TB Γ ⟨d,.binOp .neq t x y yt,ty,pos,af,g⟩ f σ nx (eB (decide (m≠n))):=bin_run hx hy rfl fun w=>by
      simp [eqGuard,binOp,Op.intCmp,go_sem]
      by_cases h:m=n<;>simp [h]
theorem q_not {t:TypeId} {x:Operand} {b:Bool} (hx:ev f x=some (eB b)):QOp P TB Γ ⟨d,.unOp .not t x,ty,pos,af,g⟩ f σ nx (eB (!b)):=
  q_of_run fun V ρ h1 _=>⟨.bool (!b),by
    have h2:ρ x=.bool b:=CRel.val (h1.get (by simp [Op.operands]) hx)
    simp [execOp,h2,Op.unary,go_sem],.d (.v rfl)⟩
theorem q_neg {t:TypeId} {x:Operand} {k:IntKind} {m z:Int} (hx:ev f x=some (eI k m)) (hz:k.wrap (-m)=z):QOp P TB Γ ⟨d,.unOp .neg t x,ty,pos,af,g⟩ f σ nx (eI k z):=
  q_of_run fun V ρ h1 _=>⟨.int k z,by
    have h2:ρ x=.int k m:=CRel.val (h1.get (by simp [Op.operands]) hx)
    subst hz
    simp [execOp,h2,Op.unary,go_sem],.d (.v rfl)⟩
theorem q_conv {s t:TypeId} {x:Operand} {k k':IntKind} {m z:Int} [hs:HasInt P s k] [ht:HasInt P t k'] (hx:ev f x=some (eI k m)) (hz:k'.wrap m=z):QOp P TB Γ ⟨d,.convert s t x,ty,pos,af,g⟩ f σ nx (eI k' z):=
  q_of_run fun V ρ h1 _=>⟨.int k' z,by
    have h2:ρ x=.int k m:=CRel.val (h1.get (by simp [Op.operands]) hx)
    subst hz
    simp [execOp,h2,convert,run_underlying hs.out,run_underlying ht.out,Conv.intToInt,go_sem],.d (.v rfl)⟩
theorem q_fieldIp {s k off:Nat} {x:Operand} {cs:List D} [hf:HasFld P s k off] (hx:ev f x=some (.o (.ip cs))):QOp P TB Γ ⟨d,.fieldAddr s x k,ty,pos,af,g⟩ f σ nx (.o (.ip (cs.drop off))):=
  q_of_run fun V ρ h1 _=>by
    have h2:=h1.get (by simp [Op.operands]) hx
    generalize hv:ρ x=v at h2
    obtain ⟨h2⟩:=h2
    cases h2 with
    | @p _ b o vs hb h3 h4=>
      have hh:=hf.out
      unfold fldF at hh
      split at hh
      · rename_i fs hu
        split at hh
        · rename_i fl hfl
          split at hh
          · rename_i i hi
            cases hz:Nat.beq i.size 0
            · rw [hz] at hh
              simp only [cond_false,Option.some.injEq] at hh
              subst hh
              have hz':i.size≠0:=fun e=>by rw [e] at hz;cases hz
              refine ⟨.pointer (some ⟨b,o+fl.offset,none⟩),?_,.ip (vs:=fun j=>vs (fl.offset+j)) hb (fun j d hj=>?_) (fun j d hj=>?_)⟩
              · simp [execOp,hv,Instr.fieldAt,run_underlying hu,hfl,Instr.sureAddr,fieldPlace,sizeOf,typeInfo,hi,hz',addr_add,go_sem]
              · rw [Nat.add_assoc];exact h3 _ d (by simpa using hj)
              · exact h4 _ d (by simpa using hj)
            · rw [hz] at hh;cases hh
          · cases hh
        · cases hh
      · cases hh
theorem q_loadIp {t:TypeId} {x:Operand} {c:D} {cs:List D} {n:Nat} [hl:HasLd P t false n] (hx:ev f x=some (.o (.ip (c::cs)))):QOp P TB Γ ⟨d,.load t x,ty,pos,af,g⟩ f σ nx (.o (.d c)):=
  q_of_run fun V ρ h1 _=>by
    have h2:=h1.get (by simp [Op.operands]) hx
    generalize hv:ρ x=v at h2
    obtain ⟨h2⟩:=h2
    cases h2 with
    | @p _ b o vs hb h3 h4=>
      have h5:=h3 0 c rfl
      refine ⟨vs 0,?_,.d (h4 0 c rfl)⟩
      simp only [Nat.add_zero] at h5
      simp [execOp,hv,Instr.loadAt,Instr.sureAddr,loadVar,(run_isAgg hl.out V.w).1,h5,go_sem]
theorem q_loadIpA {t:TypeId} {x:Operand} {cs:List D} {n:Nat} [hl:HasLd P t true n] (hx:ev f x=some (.o (.ip cs))) (hn:n≤cs.length):QOp P TB Γ ⟨d,.load t x,ty,pos,af,g⟩ f σ nx (.a ((cs.take n).map .d)):=
  q_of_run fun V ρ h1 _=>by
    have h2:=h1.get (by simp [Op.operands]) hx
    generalize hv:ρ x=v at h2
    obtain ⟨h2⟩:=h2
    cases h2 with
    | @p _ b o vs hb h3 h4=>
      refine ⟨.agg ((List.range n).map vs).toArray,?_,((List.range n).map vs).toArray,rfl,by simp;omega,?_⟩
      · have:(loadCells ⟨b,o,none⟩ n).run P V.w=.ok ((List.range n).map vs).toArray V.w:=run_loadCells V.w _ n vs fun j hj=>by
          rw [addr_add]
          exact h3 j cs[j] (List.getElem?_eq_getElem (by omega))
        unfold loadCells at this
        simp [execOp,hv,Instr.loadAt,Instr.sureAddr,loadVar,(run_isAgg hl.out V.w).1,(run_isAgg hl.out V.w).2,this,go_sem]
      · intro j c v hj hv'
        simp only [List.getElem?_map,Option.map_eq_some_iff] at hj
        obtain ⟨y,hy,rfl⟩:=hj
        rw [List.getElem?_take] at hy
        split at hy
        · rename_i hlt
          have:vs j=v:=by simpa [hlt] using hv'
          subst this
          exact .d (h4 j y hy)
        · cases hy
theorem q_indexL {t e:TypeId} {x y:Operand} {rows:List (List D)} {row:List D} {n:Int} {k b:Nat} {ik:IntKind} [hl:HasSl P t e k b] (hx:ev f x=some (.o (.d (.l rows)))) (hy:ev f y=some (eI ik n))
    (h0:0≤n) (hr:rows[n.toNat]? = some row) (hk:row.length=k):QOp P TB Γ ⟨d,.indexAddr t x y,ty,pos,af,g⟩ f σ nx (.o (.ip row)):=
  q_of_run fun V ρ h1 _=>by
    have h2:=h1.get (by simp [Op.operands]) hx
    have h3:ρ y=.int ik n:=CRel.val (h1.get (by simp [Op.operands]) hy)
    generalize hv:ρ x=v at h2
    obtain ⟨i,hu,hi,hs,_⟩:=sl_inv hl.out
    cases h2 with
    | d h2=>
      cases h2 with
      | nil=>simp at hr
      | e=>simp at hr
      | @l _ b o k' cap vs hb h4 h4' h5 h6 h7=>
        have hlt:=(List.getElem?_eq_some_iff.1 hr).1
        have hk':k'=k:=by rw [←h5 _ _ hr,hk]
        subst hk'
        refine ⟨.pointer (some ⟨b,o+n.toNat*k',none⟩),?_,.ip (vs:=vs n.toNat) hb (fun j d hj=>h6 _ _ j d hr hj) (fun j d hj=>h7 _ _ j d hr hj)⟩
        have:n < (rows.length:Int):=by omega
        simp [execOp,hv,h3,Instr.indexAt,asIntOf,run_underlying hu,h0,this,sizeOf,typeInfo,hi,hs,addr_add,go_sem]
theorem q_indexIp {t:TypeId} {x y:Operand} {cs:List D} {n:Int} {len k:Nat} {ik:IntKind} [hl:HasAr P t len k] (hx:ev f x=some (.o (.ip cs))) (hy:ev f y=some (eI ik n))
    (h0:0≤n) (hn:n < len):QOp P TB Γ ⟨d,.indexAddr t x y,ty,pos,af,g⟩ f σ nx (.o (.ip (cs.drop (n.toNat*k)))):=
  q_of_run fun V ρ h1 _=>by
    have h2:=h1.get (by simp [Op.operands]) hx
    have h3:ρ y=.int ik n:=CRel.val (h1.get (by simp [Op.operands]) hy)
    generalize hv:ρ x=v at h2
    obtain ⟨e,i,hu,hi,hs⟩:=ar_inv hl.out
    obtain ⟨h2⟩:=h2
    cases h2 with
    | @p _ b o vs hb h4 h5=>
      refine ⟨.pointer (some ⟨b,o+n.toNat*k,none⟩),?_,.ip (vs:=fun j=>vs (n.toNat*k+j)) hb (fun j d hj=>?_) (fun j d hj=>?_)⟩
      · simp [execOp,hv,h3,Instr.indexAt,asIntOf,run_underlying hu,Instr.sureAddr,h0,hn,sizeOf,typeInfo,hi,hs,addr_add,go_sem]
      · rw [Nat.add_assoc];exact h4 _ d (by simpa using hj)
      · exact h5 _ d (by simpa using hj)
theorem q_indexS {t:TypeId} {x y:Operand} {s:ByteArray} {n:Int} {ik:IntKind} [hl:HasStr P t] (hx:ev f x=some (eS s)) (hy:ev f y=some (eI ik n))
    (h0:0≤n) (hn:n.toNat < s.size):QOp P TB Γ ⟨d,.index t x y,ty,pos,af,g⟩ f σ nx (eI .u8 ((s[n.toNat]'hn).toNat:Int)):=
  q_of_run fun V ρ h1 _=>by
    have h2:ρ x=.string s:=CRel.val (h1.get (by simp [Op.operands]) hx)
    have h3:ρ y=.int ik n:=CRel.val (h1.get (by simp [Op.operands]) hy)
    refine ⟨.int .u8 ((s[n.toNat]'hn).toNat:Int),?_,.d (.v rfl)⟩
    simp [execOp,h2,h3,Instr.index,asIntOf,run_underlying hl.out,h0,hn,go_sem]
theorem q_lenS {t:TypeId} {x:Operand} {s:ByteArray} [hl:HasStr P t] (hx:ev f x=some (eS s)):QOp P TB Γ ⟨d,.call ⟨.builtin .len,#[x],#[t]⟩,ty,pos,af,g⟩ f σ nx (eI .i64 s.size):=
  q_of_run fun V ρ h1 _=>by
    have h2:ρ x=.string s:=CRel.val (h1.get (by simp [Op.operands,Call.operands]) hx)
    refine ⟨.int .i64 s.size,?_,.d (.v rfl)⟩
    simp [execOp,resolve,invoke,builtin,h2,Builtin.len_,run_underlying hl.out,goInt,go_sem]
theorem q_lenL {t e:TypeId} {x:Operand} {rows:List (List D)} {k b:Nat} [hl:HasSl P t e k b] (hx:ev f x=some (.o (.d (.l rows)))):QOp P TB Γ ⟨d,.call ⟨.builtin .len,#[x],#[t]⟩,ty,pos,af,g⟩ f σ nx (eI .i64 rows.length):=
  q_of_run fun V ρ h1 _=>by
    have h2:=h1.get (by simp [Op.operands,Call.operands]) hx
    obtain ⟨i,hu,hi,hs,_⟩:=sl_inv hl.out
    generalize hv:ρ x=v at h2
    refine ⟨.int .i64 rows.length,?_,.d (.v rfl)⟩
    cases h2 with
    | d h2=>cases h2<;>simp [execOp,resolve,invoke,builtin,hv,Builtin.len_,run_underlying hu,goInt,go_sem]
theorem q_lenA {t e:TypeId} {x:Operand} {id k' off len k b:Nat} [hl:HasSl P t e k b] (hx:ev f x=some (.o (.arr id k' off len))):QOp P TB Γ ⟨d,.call ⟨.builtin .len,#[x],#[t]⟩,ty,pos,af,g⟩ f σ nx (eI .i64 len):=
  q_of_run fun V ρ h1 _=>by
    have h2:=h1.get (by simp [Op.operands,Call.operands]) hx
    obtain ⟨i,hu,hi,hs,_⟩:=sl_inv hl.out
    generalize hv:ρ x=v at h2
    refine ⟨.int .i64 len,?_,.d (.v rfl)⟩
    cases h2<;>simp [execOp,resolve,invoke,builtin,hv,Builtin.len_,run_underlying hu,goInt,go_sem]
theorem q_extract {x:Operand} {k:Nat} {xs:List (Bool×List C)} {e:E} (hx:ev f x=some (.t xs)) (hk:(xs[k]?).bind (fun y=>match y with|(false,[c])=>some (E.o c)|(true,cs)=>some (E.a cs)|_=>none)=some e) :
    QOp P TB Γ ⟨d,.extract x k,ty,pos,af,g⟩ f σ nx e:=
  q_of_run fun V ρ h1 _=>by
    obtain ⟨vs,hv,hs,h2⟩:=h1.get (by simp [Op.operands]) hx
    cases hy:xs[k]? with
    | none=>rw [hy] at hk;cases hk
    | some y=>
      rw [hy] at hk
      have hlt:k < vs.size:=by rw [hs];exact (List.getElem?_eq_some_iff.1 hy).1
      refine ⟨vs[k],by simp [execOp,hv,Instr.extract,hlt,go_sem],?_⟩
      have h3:=h2 k y vs[k] hy (Array.getElem?_eq_getElem hlt)
      obtain ⟨b,cs⟩:=y
      cases b
      · obtain ⟨c,rfl,h4⟩:=h3
        simp only [Option.bind_some,Option.some.injEq] at hk
        subst hk;exact h4
      · simp only [Option.bind_some,Option.some.injEq] at hk
        subst hk;exact h3
theorem q_field {t:TypeId} {x:Operand} {k off n:Nat} {cs:List C} {c:C} [hf:HasFldT P t k off false n] (hx:ev f x=some (.a cs)) (hc:cs[off]? = some c):QOp P TB Γ ⟨d,.field t x k,ty,pos,af,g⟩ f σ nx (.o c):=
  q_of_run fun V ρ h1 _=>by
    obtain ⟨vs,hv,hs,h2⟩:=h1.get (by simp [Op.operands]) hx
    have hh:=hf.out
    unfold fldT at hh
    split at hh
    · rename_i fs hu
      split at hh
      · rename_i fl hfl
        simp only [Option.map_eq_some_iff,Prod.mk.injEq] at hh
        obtain ⟨x',hx',rfl,rfl⟩:=hh
        have hlt:fl.offset < vs.size:=by rw [hs];exact (List.getElem?_eq_some_iff.1 hc).1
        refine ⟨vs[fl.offset],?_,h2 _ c _ hc (Array.getElem?_eq_getElem hlt)⟩
        simp [execOp,hv,Instr.field,run_underlying hu,hfl,asAgg,part,(run_isAgg hx' V.w).1,hlt,go_sem]
      · cases hh
    · cases hh
theorem q_fieldA {t:TypeId} {x:Operand} {k off n:Nat} {cs:List C} [hf:HasFldT P t k off true n] (hx:ev f x=some (.a cs)) (hc:off+n≤cs.length):QOp P TB Γ ⟨d,.field t x k,ty,pos,af,g⟩ f σ nx (.a ((cs.drop off).take n)):=
  q_of_run fun V ρ h1 _=>by
    obtain ⟨vs,hv,hs,h2⟩:=h1.get (by simp [Op.operands]) hx
    have hh:=hf.out
    unfold fldT at hh
    split at hh
    · rename_i fs hu
      split at hh
      · rename_i fl hfl
        simp only [Option.map_eq_some_iff,Prod.mk.injEq] at hh
        obtain ⟨x',hx',rfl,rfl⟩:=hh
        refine ⟨.agg (vs.extract fl.offset (fl.offset+n)),?_,_,rfl,by simp;omega,?_⟩
        · simp [execOp,hv,Instr.field,run_underlying hu,hfl,asAgg,part,(run_isAgg hx' V.w).1,(run_isAgg hx' V.w).2,go_sem]
        · intro j c v hj hv'
          rw [List.getElem?_take] at hj
          split at hj
          · rename_i hlt
            rw [List.getElem?_drop] at hj
            refine h2 (fl.offset+j) c v hj ?_
            rw [Array.getElem?_extract] at hv'
            split at hv'
            · exact hv'
            · cases hv'
          · cases hj
      · cases hh
    · cases hh
end
end Go.Am
namespace Go.Am
open Go
def noisy (l:List Nat) (i:Nat):Nat:=match l with
  | []=>0
  | k::r=>bif Nat.beq k i then 1 else noisy r i
structure Fl where
  c:Nat→Nat
  p:Nat→Nat
instance:CoeFun Fl fun _=>Nat→Nat:=⟨fun fl i=>fl.c (fl.p i)⟩
def flAll:Fl:=⟨fun _=>1,fun i=>i⟩
def flN (l:List Nat):Fl:=⟨noisy l,fun i=>i⟩
def mark (n1 n2:List Nat) (i:Nat):Nat:=bif Nat.beq (noisy n1 i) 1 then 1 else bif Nat.beq (noisy n2 i) 1 then 2 else 0
def flM (n1 n2:List Nat):Fl:=⟨mark n1 n2,fun i=>i⟩
def at0:List Nat→Nat→Nat
  | [],i=>i
  | k::_,0=>k
  | _::r,i+1=>at0 r i
def flP (q n1 n2:List Nat):Fl:=⟨mark n1 n2,at0 q⟩
def flagOf:List (Nat×Nat)→Nat→Nat
  | [],_=>2
  | (k,c)::r,i=>bif Nat.beq k i then c else flagOf r i
def flX (l:List (Nat×Nat)):Fl:=⟨flagOf l,fun i=>i⟩
def ordFrom (fl:Fl):Nat→Nat→List (Nat×Nat)
  | _,0=>[]
  | i,n+1=>(fl.p i,fl i)::ordFrom fl (i+1) n
theorem ordFrom_map:∀(n i:Nat),(ordFrom flAll i n).map (·.1)=List.range' i n
  | 0,_=>rfl
  | n+1,i=>by simp [ordFrom,List.range'_succ,ordFrom_map n (i+1)];rfl
theorem ordFrom_length (fl:Fl):∀(n i:Nat),(ordFrom fl i n).length=n
  | 0,_=>rfl
  | n+1,i=>by simp [ordFrom,ordFrom_length fl n (i+1)]
def direct (ops:Array Oper) (i j:Nat):Bool:=((ops[j]?).map (·.after.any fun e=>Region.binds .any e && Nat.beq e.on i)).getD false
theorem direct_waits {ops:Array Oper} {i j n:Nat} (h:direct ops i j=true):waits ops i (n+1) j=true:=by
  unfold direct at h
  unfold waits
  cases ho:ops[j]? with
  | none=>rw [ho] at h;cases h
  | some o=>
    rw [ho] at h
    simp only [Option.map_some,Option.getD_some] at h ⊢
    rw [Array.any_eq_true] at h ⊢
    obtain ⟨k,hk,h⟩:=h
    simp only [Bool.and_eq_true] at h
    exact ⟨k,hk,by simp [h.1,h.2]⟩
def okAtF (ops:Array Oper) (i c:Nat) (r:List (Nat×Nat)):Bool:=
  r.all fun (j,cj)=>(!noisyB c && (match ops[i]?,ops[j]? with|some x,some y=>x.apart ops y|_,_=>false) && compat c cj) || (direct ops i j || waits ops i ops.size j)
def okOrdF (ops:Array Oper):List (Nat×Nat)→Bool
  | []=>true
  | (i,c)::r=>okAtF ops i c r && okOrdF ops r
theorem okAtF_ok {ops:Array Oper} {i c:Nat} {r:List (Nat×Nat)} (h:okAtF ops i c r=true):okAt ops i c r=true:=by
  unfold okAtF at h
  unfold okAt
  rw [List.all_eq_true] at h ⊢
  intro x hx
  have h:=h x hx
  rw [Bool.or_eq_true] at h ⊢
  rcases h with h|h
  · exact .inr h
  · rw [Bool.or_eq_true] at h
    rcases h with h|h
    · refine .inl ?_
      have hpos:∃n,ops.size=n+1:=by
        cases hs:ops.size with
        | zero=>
          unfold direct at h
          rw [Array.getElem?_eq_none (by omega)] at h
          cases h
        | succ n=>exact ⟨n,rfl⟩
      obtain ⟨n,hn⟩:=hpos
      rw [hn]
      exact direct_waits h
    · exact .inl h
theorem okOrdF_ok {ops:Array Oper}:∀ {r:List (Nat×Nat)},okOrdF ops r=true→okOrd ops r=true
  | [],_=>rfl
  | (i,c)::r,h=>by
    simp only [okOrdF,Bool.and_eq_true] at h
    simp only [okOrd,Bool.and_eq_true]
    exact ⟨okAtF_ok h.1,okOrdF_ok h.2⟩
theorem fput_look (L:List (Nat×E)) (d:Nat) (x:E):fput (look L) (some d) x=look ((d,x)::L):=by
  funext t
  rw [look_cons]
  simp only [fput]
  by_cases h:t=d
  · subst h;simp
  · rw [if_neg h,if_neg (fun e=>h e.symm)]
section
variable {P:Program} {TB:List (Nat×Obj)} {Γ:Ctx} {N:Nat} {ops:Array Oper} {fl:Fl} {i n:Nat} {L:List (Nat×E)} {σ:Store} {nx:Nat} {K:Env→Store→Nat→Prop} {Q:Exit→Env→Store→Nat→Prop}
theorem reg {id:Nat} {f:Env} (hd:dstOk N ops=true) (h:Lex P TB Γ ops (ordFrom flAll 0 ops.size) (fun f σ nx=>Q .normal f σ nx) f σ nx):AWp P TB Γ N (.region id ops false) Q f σ nx:=
  AWp.region _ hd (by rw [ordFrom_map,List.range_eq_range']) h
theorem regD {id:Nat} {f:Env} (fl:Fl) (hm:P.follows .mixedOrders=true) (hd:dstOk N ops=true) (ho:(ordReady ops (ordFrom fl 0 ops.size) (Array.replicate ops.size false) && okOrdF ops (ordFrom fl 0 ops.size))=true)
    (h:Lex P TB Γ ops (ordFrom fl 0 ops.size) (fun f σ nx=>Q .normal f σ nx) f σ nx):AWp P TB Γ N (.region id ops true) Q f σ nx:=
  AWp.regionD _ hm hd (ordFrom_length _ _ _) (by rw [Bool.and_eq_true] at ho ⊢;exact ⟨ho.1,okOrdF_ok ho.2⟩) h
theorem lexE {f:Env} (h:K f σ nx):Lex P TB Γ ops (ordFrom fl i 0) K f σ nx:=h
theorem popAll {c:Nat} {r:List (Nat×Nat)} {o:Oper} {x:E} {f:Env} (ho:ops[i]? = some o) (hg:gval ops o f=some true) (hq:∀σ nx,QOp P TB Γ o f σ nx x) (h:Lex P TB Γ ops r K (fput f o.dst x) σ nx):Lex P TB Γ ops ((i,c)::r) K f σ nx:=by
  refine ⟨o,ho,?_⟩
  show Lex1 P TB Γ ops c o (Lex P TB Γ ops r K) f σ nx
  cases hn:noisyB c
  · rw [lex1_quiet hn]
    refine ⟨x,.inr ⟨hg,?_⟩,h⟩
    unfold QC
    cases Nat.ble 10 c
    · cases Nat.beq c 2
      · exact hq σ nx
      · exact hq
    · exact fun σ nx _=>hq σ nx
  · rw [lex1_noisy hn]
    exact .inr ⟨hg,(hq σ nx).aop _ _ _ ⟨fun _ _ _=>rfl,h⟩⟩
theorem popAny {c:Nat} {r:List (Nat×Nat)} {o:Oper} {x:E} {f:Env} (ho:ops[i]? = some o) (hg:gval ops o f=some true) (hc:asIs c=true) (hq:QOp P TB Γ o f σ nx x) (h:Lex P TB Γ ops r K (fput f o.dst x) σ nx):Lex P TB Γ ops ((i,c)::r) K f σ nx:=by
  refine ⟨o,ho,?_⟩
  unfold asIs at hc
  rw [Bool.or_eq_true] at hc
  rcases hc with hc|hc
  · have:=Nat.eq_of_beq_eq_true hc
    subst this
    exact .inr ⟨hg,x,hq,h⟩
  · have:=Nat.eq_of_beq_eq_true hc
    subst this
    exact .inr ⟨hg,hq.aop _ _ _ h⟩
theorem popOff {c:Nat} {r:List (Nat×Nat)} {o:Oper} {f:Env} (ho:ops[i]? = some o) (hg:gval ops o f=some false) (h:Lex P TB Γ ops r K (fput f o.dst (.t [])) σ nx):Lex P TB Γ ops ((i,c)::r) K f σ nx:=by
  refine ⟨o,ho,?_⟩
  show Lex1 P TB Γ ops c o (Lex P TB Γ ops r K) f σ nx
  cases hn:noisyB c
  · rw [lex1_quiet hn];exact ⟨_,.inl ⟨hg,rfl⟩,h⟩
  · rw [lex1_noisy hn];exact .inl ⟨hg,h⟩
theorem popNoisy {r:List (Nat×Nat)} {o:Oper} {f:Env} (ho:ops[i]? = some o) (hg:gval ops o f=some true) (h:AOp P TB Γ o f σ nx (fun x σ' nx'=>Lex P TB Γ ops r K (fput f o.dst x) σ' nx')):Lex P TB Γ ops ((i,1)::r) K f σ nx:=by
  refine ⟨o,ho,?_⟩
  exact .inr ⟨hg,h⟩
theorem popFr {c:Nat} {r:List (Nat×Nat)} {o:Oper} {x:E} {f:Env} (ho:ops[i]? = some o) (hg:gval ops o f=some true) (hc:Nat.ble 10 c=true∧Nat.ble 1000 c=false) (hq:∀σ' nx',look σ' (c - 10)=look σ (c - 10)→QOp P TB Γ o f σ' nx' x) (h:Lex P TB Γ ops r K (fput f o.dst x) σ nx):Lex P TB Γ ops ((i,c)::r) K f σ nx:=by
  refine ⟨o,ho,?_⟩
  rw [hc.1]
  refine .inr ⟨hg,?_⟩
  rw [hc.2]
  exact ⟨x,hq,h⟩
theorem popKeep {c:Nat} {r:List (Nat×Nat)} {o:Oper} {f:Env} (ho:ops[i]? = some o) (hg:gval ops o f=some true) (hc:Nat.ble 10 c=true∧Nat.ble 1000 c=true) (h:AOp P TB Γ o f σ nx (fun x σ' nx'=>Kept (c - 1000) σ σ'∧Lex P TB Γ ops r K (fput f o.dst x) σ' nx')):Lex P TB Γ ops ((i,c)::r) K f σ nx:=by
  refine ⟨o,ho,?_⟩
  rw [hc.1]
  refine .inr ⟨hg,?_⟩
  rw [hc.2]
  exact h
def opAt:List Oper→Nat→Option Oper
  | [],_=>none
  | o::_,0=>some o
  | _::r,n+1=>opAt r n
theorem opAt_get:∀(l:List Oper) (i:Nat),opAt l i=l[i]?
  | [],_=>by simp [opAt]
  | o::_,0=>by simp [opAt]
  | _::r,n+1=>by simp [opAt,opAt_get r n]
def LexO (P:Program) (TB:List (Nat×Obj)) (Γ:Ctx) (ops:Array Oper) (o:Oper) (fl:Fl) (i n:Nat) (K:Env→Store→Nat→Prop) (L:List (Nat×E)) (σ:Store) (nx:Nat):Prop:=
  ops[fl.p i]? = some o→Lex P TB Γ ops (ordFrom fl i (n+1)) K (look L) σ nx
theorem popO {o:Oper} (ho:opAt ops.toList (fl.p i)=some o) (h:LexO P TB Γ ops o fl i n K L σ nx):Lex P TB Γ ops (ordFrom fl i (n+1)) K (look L) σ nx:=h (by rw [opAt_get] at ho;simpa using ho)
theorem popS {d:Tmp} {op:Op} {ty:TypeId} {pos:String} {af:Array Edge} {g:Option (Nat×Bool)} {x:E}
    (hq:∀σ nx,QOp P TB Γ ⟨some d,op,ty,pos,af,g⟩ (look L) σ nx x) (hg:gval ops ⟨some d,op,ty,pos,af,g⟩ (look L)=some true) (h:Lex P TB Γ ops (ordFrom fl (i+1) n) K (look ((d,x)::L)) σ nx):LexO P TB Γ ops ⟨some d,op,ty,pos,af,g⟩ fl i n K L σ nx:=
  fun ho=>popAll ho hg hq (by rw [fput_look];exact h)
theorem popQ {d:Tmp} {op:Op} {ty:TypeId} {pos:String} {af:Array Edge} {g:Option (Nat×Bool)} {x:E}
    (hq:QOp P TB Γ ⟨some d,op,ty,pos,af,g⟩ (look L) σ nx x) (hg:gval ops ⟨some d,op,ty,pos,af,g⟩ (look L)=some true) (hf:asIs (fl i)=true) (h:Lex P TB Γ ops (ordFrom fl (i+1) n) K (look ((d,x)::L)) σ nx):LexO P TB Γ ops ⟨some d,op,ty,pos,af,g⟩ fl i n K L σ nx:=
  fun ho=>popAny ho hg hf hq (by rw [fput_look];exact h)
theorem popW {d:Tmp} {op:Op} {ty:TypeId} {pos:String} {af:Array Edge} {g:Option (Nat×Bool)}
    (h:AOp P TB Γ ⟨some d,op,ty,pos,af,g⟩ (look L) σ nx (fun x σ' nx'=>Lex P TB Γ ops (ordFrom fl (i+1) n) K (look ((d,x)::L)) σ' nx')) (hg:gval ops ⟨some d,op,ty,pos,af,g⟩ (look L)=some true) (hf:fl i=1):LexO P TB Γ ops ⟨some d,op,ty,pos,af,g⟩ fl i n K L σ nx:=by
  intro ho
  unfold ordFrom
  rw [hf]
  exact popNoisy ho hg (by simp only [fput_look];exact h)
theorem popW0 {op:Op} {ty:TypeId} {pos:String} {af:Array Edge} {g:Option (Nat×Bool)}
    (h:AOp P TB Γ ⟨none,op,ty,pos,af,g⟩ (look L) σ nx (fun _ σ' nx'=>Lex P TB Γ ops (ordFrom fl (i+1) n) K (look L) σ' nx')) (hg:gval ops ⟨none,op,ty,pos,af,g⟩ (look L)=some true) (hf:fl i=1):LexO P TB Γ ops ⟨none,op,ty,pos,af,g⟩ fl i n K L σ nx:=by
  intro ho
  unfold ordFrom
  rw [hf]
  exact popNoisy ho hg h
theorem popB {d:Tmp} {op:Op} {ty:TypeId} {pos:String} {af:Array Edge} {g:Option (Nat×Bool)} {c:Bool}
    (hq:∀σ nx,QOp P TB Γ ⟨some d,op,ty,pos,af,g⟩ (look L) σ nx (eB c)) (hg:gval ops ⟨some d,op,ty,pos,af,g⟩ (look L)=some true) (h:∀b,c=b→Lex P TB Γ ops (ordFrom fl (i+1) n) K (look ((d,eB b)::L)) σ nx):LexO P TB Γ ops ⟨some d,op,ty,pos,af,g⟩ fl i n K L σ nx:=
  popS hq hg (h c rfl)
theorem popN {d:Tmp} {op:Op} {ty:TypeId} {pos:String} {af:Array Edge} {j:Nat} {w:Bool} (hg:gval ops ⟨some d,op,ty,pos,af,some (j,w)⟩ (look L)=some false)
    (h:Lex P TB Γ ops (ordFrom fl (i+1) n) K (look ((d,.t [])::L)) σ nx):LexO P TB Γ ops ⟨some d,op,ty,pos,af,some (j,w)⟩ fl i n K L σ nx:=
  fun ho=>popOff ho hg (by rw [fput_look];exact h)
theorem popF {d:Tmp} {op:Op} {ty:TypeId} {pos:String} {af:Array Edge} {g:Option (Nat×Bool)} {x:E}
    (hq:∀σ' nx',look σ' (fl i - 10)=look σ (fl i - 10)→QOp P TB Γ ⟨some d,op,ty,pos,af,g⟩ (look L) σ' nx' x) (hg:gval ops ⟨some d,op,ty,pos,af,g⟩ (look L)=some true) (hf:Nat.ble 10 (fl i)=true∧Nat.ble 1000 (fl i)=false) (h:Lex P TB Γ ops (ordFrom fl (i+1) n) K (look ((d,x)::L)) σ nx):LexO P TB Γ ops ⟨some d,op,ty,pos,af,g⟩ fl i n K L σ nx:=
  fun ho=>popFr ho hg hf hq (by rw [fput_look];exact h)
theorem popWK {d:Tmp} {op:Op} {ty:TypeId} {pos:String} {af:Array Edge} {g:Option (Nat×Bool)}
    (h:AOp P TB Γ ⟨some d,op,ty,pos,af,g⟩ (look L) σ nx (fun x σ' nx'=>Kept (fl i - 1000) σ σ'∧Lex P TB Γ ops (ordFrom fl (i+1) n) K (look ((d,x)::L)) σ' nx')) (hg:gval ops ⟨some d,op,ty,pos,af,g⟩ (look L)=some true) (hf:Nat.ble 10 (fl i)=true∧Nat.ble 1000 (fl i)=true):LexO P TB Γ ops ⟨some d,op,ty,pos,af,g⟩ fl i n K L σ nx:=
  fun ho=>popKeep ho hg hf (by simp only [fput_look];exact h)
end
end Go.Am
namespace Go.Am
open Go
def kill (id:Nat):Store→Store
  | []=>[]
  | (k,o)::r=>bif Nat.beq k id then kill id r else (k,o)::kill id r
theorem look_kill:∀(σ:Store) (id i:Nat),look (kill id σ) i=if i=id then none else look σ i
  | [],id,i=>by simp [kill,look]
  | (k,o)::r,id,i=>by
    simp only [kill]
    by_cases h:k=id
    · subst h
      simp only [Nat.beq_refl,cond_true]
      rw [look_kill r k i,look_cons]
      by_cases h2:i=k
      · simp [h2]
      · rw [if_neg h2,if_neg h2,if_neg (Ne.symm h2)]
    · have:Nat.beq k id=false:=by
        cases hb:Nat.beq k id
        · rfl
        · exact absurd (Nat.eq_of_beq_eq_true hb) h
      rw [this,cond_false,look_cons,look_cons,look_kill r id i]
      by_cases h2:i=id
      · subst h2;simp [h]
      · simp [h2]
def newV (V:View) (b c:Nat) (nl:Prop) (w:World):View:=
  { I:=V.I,ρ:=fun i=>if i=V.nx then b else V.ρ i,cap:=fun i=>if i=V.nx then c else V.cap i,nl:=fun i=>if i=V.nx then nl else V.nl i,nx:=V.nx+1,w:=w }
def newI (V:View) (w:World):View:={ V with I:=fun b=>V.I b∨b=V.w.heap.size,w:=w }
section
variable {TB:List (Nat×Obj)} {Γ:Ctx} {V:View} {σ:Store}
theorem newV_ext {b c:Nat} {nl:Prop} {w:World} (hs:V.w.heap.size≤w.heap.size) (hw:∀b,V.I b→w.heap[b]? = V.w.heap[b]?):Ext V (newV V b c nl w):=by
  refine ⟨fun _ h=>h,hw,hs,fun i hi=>?_,fun i hi=>?_,fun i hi=>?_,Nat.le_succ _⟩<;>simp [newV,Nat.ne_of_lt hi]
theorem ObjRel.keep {V V':View} (e:Ext V V') {id:Nat} (hid:id < V.nx) {o:O} (hb:¬V.nl id→∀b,blk V id o b→V'.w.heap[b]? = V.w.heap[b]?) (h:ObjRel V id o):ObjRel V' id o:=by
  cases o with
  | cells T k rows=>
    replace hb:=fun hn=>hb hn _ (show blk V id (.cells T k rows) (V.ρ id) from rfl)
    rcases h with ⟨h1,h2⟩|⟨h0,cur,h2,h3,h4,h5,h6,h7⟩
    · exact .inl ⟨(e.nl id hid).2 h1,h2⟩
    · refine .inr ⟨fun h=>h0 ((e.nl id hid).1 h),cur,by rw [e.ρ id hid,hb h0];exact h2,by rw [e.cap id hid];exact h3,by rw [e.cap id hid];exact h4,by rw [e.cap id hid];exact h5,h6,fun i r j c hi hj=>?_⟩
      obtain ⟨v,h8,h9⟩:=h7 i r j c hi hj
      exact ⟨v,h8,h9.ext e⟩
  | mp es=>
    replace hb:=fun hn=>hb hn _ (show blk V id (.mp es) (V.ρ id) from rfl)
    obtain ⟨h0,ents,clock,h1,h2⟩:=h
    exact ⟨fun h=>h0 ((e.nl id hid).1 h),ents,clock,by rw [e.ρ id hid,hb h0];exact h1,h2⟩
  | sld T l=>exact ⟨fun h'=>h.1 ((e.nl id hid).1 h'),h.2.keep fun x hx b hb'=>hb h.1 b ⟨x,hx,hb'⟩⟩
theorem ObjRel.blt {V:View} {id:Nat} {o:O} (h:ObjRel V id o) (hn:¬V.nl id) {b:Nat} (hb:blk V id o b):b < V.w.heap.size:=by
  cases o with
  | sld T l=>obtain ⟨x,hx,hb⟩:=hb;exact (h.2.2 x hx).blt hb
  | cells T k rows=>
    subst hb
    rcases h with ⟨h1,_⟩|⟨_,cur,h2,_⟩
    · exact absurd h1 hn
    · exact (Array.getElem?_eq_some_iff.1 h2).1
  | mp=>
    subst hb
    obtain ⟨_,ents,clock,h1,_⟩:=h
    exact (Array.getElem?_eq_some_iff.1 h1).1
def O.one:O→Bool
  | .sld .. => false
  | _=>true
theorem O.one_blk {V:View} {id:Nat} {o:O} (h:o.one=true):blk V id o=fun b=>b=V.ρ id:=by
  cases o with
  | sld=>cases h
  | _=>rfl
theorem Inv.alloc (h:Inv TB Γ V σ) {c:Nat} {nl:Prop} {w:World} {ob:O} (h1:ob.one=true) (hos:w.os=V.w.os) (ht:w.tape=V.w.tape) (ho:w.output=V.w.output) (hs:V.w.heap.size≤w.heap.size)
    (hw:∀b,b < V.w.heap.size→w.heap[b]? = V.w.heap[b]?) (hob:ObjRel (newV V V.w.heap.size c nl w) V.nx ob):Inv TB Γ (newV V V.w.heap.size c nl w) ((V.nx,ob)::σ)∧Ext V (newV V V.w.heap.size c nl w):=by
  have e:Ext V (newV V V.w.heap.size c nl w):=newV_ext hs fun b hb=>hw b (h.iLt b hb)
  have hsl:blk (newV V V.w.heap.size c nl w) V.nx ob=fun b=>b=V.w.heap.size:=by rw [O.one_blk h1];simp [newV]
  refine ⟨⟨hos.trans h.os,ht.trans h.tape,ho.trans h.output,fun b hb hf=>(hw b (Nat.lt_of_lt_of_le hb h.ext.size)).trans (h.old b hb hf),fun b hb=>Nat.lt_of_lt_of_le (h.iLt b hb) hs,h.iNew,h.ext.trans e,⟨?_,?_,?_,?_⟩,?_,?_⟩,e⟩
  · intro id o hl
    rw [look_cons] at hl
    by_cases hid:V.nx=id
    · rw [if_pos hid] at hl;injection hl with hl;subst hl;subst hid;exact hob
    · rw [if_neg hid] at hl
      exact (h.st.obj id o hl).keep e (h.st.lt id o hl) fun hn b hb=>hw _ ((h.st.obj id o hl).blt hn hb)
  · intro id o hl
    rw [look_cons] at hl
    by_cases hid:V.nx=id
    · subst hid;exact Nat.lt_succ_self _
    · rw [if_neg hid] at hl;exact Nat.lt_succ_of_lt (h.st.lt id o hl)
  · intro id o hl hn b hb
    rw [look_cons] at hl
    by_cases hid:V.nx=id
    · subst hid
      rw [if_pos rfl] at hl;injection hl with hl;subst hl
      intro hI
      rw [hsl] at hb
      subst hb
      exact Nat.lt_irrefl _ (h.iLt _ hI)
    · rw [if_neg hid] at hl
      have hlt:=h.st.lt id o hl
      exact h.st.free id o hl (fun hn'=>hn ((e.nl id hlt).2 hn')) b ((blk_ext e hlt).1 hb)
  · intro id id' o o' hl hl' hne hn hn' b hb hb'
    rw [look_cons] at hl hl'
    by_cases hid:V.nx=id
    · subst hid
      rw [if_neg hne] at hl'
      rw [if_pos rfl] at hl;injection hl with hl;subst hl
      have hlt:=h.st.lt id' o' hl'
      have:=(h.st.obj id' o' hl').blt (fun hx=>hn' ((e.nl id' hlt).2 hx)) ((blk_ext e hlt).1 hb')
      rw [hsl] at hb
      subst hb;omega
    · rw [if_neg hid] at hl
      have hlt:=h.st.lt id o hl
      have hlb:=(h.st.obj id o hl).blt (fun hx=>hn ((e.nl id hlt).2 hx)) ((blk_ext e hlt).1 hb)
      by_cases hid':V.nx=id'
      · subst hid'
        rw [if_pos rfl] at hl';injection hl' with hl';subst hl'
        rw [hsl] at hb'
        subst hb';omega
      · rw [if_neg hid'] at hl'
        have hlt':=h.st.lt id' o' hl'
        exact h.st.inj id id' o o' hl hl' hne (fun hx=>hn ((e.nl id hlt).2 hx)) (fun hx=>hn' ((e.nl id' hlt').2 hx)) b ((blk_ext e hlt).1 hb) ((blk_ext e hlt').1 hb')
  · intro id o hl hn b hb
    rw [look_cons] at hl
    by_cases hid:V.nx=id
    · subst hid
      rw [if_pos rfl] at hl;injection hl with hl;subst hl
      left
      rw [hsl] at hb
      subst hb;exact h.ext.size
    · rw [if_neg hid] at hl
      have hlt:=h.st.lt id o hl
      exact h.live id o hl (fun hx=>hn ((e.nl id hlt).2 hx)) b ((blk_ext e hlt).1 hb)
  · intro x hx
    have:=h.tabs x hx
    exact ⟨this.1,(hw _ (h.iLt _ this.1)).trans this.2⟩
theorem Inv.allocI (h:Inv TB Γ V σ) {w:World} (hos:w.os=V.w.os) (ht:w.tape=V.w.tape) (ho:w.output=V.w.output) (hs:V.w.heap.size < w.heap.size)
    (hw:∀b,b < V.w.heap.size→w.heap[b]? = V.w.heap[b]?):Inv TB Γ (newI V w) σ∧Ext V (newI V w):=by
  have e:Ext V (newI V w):=⟨fun _ h=>.inl h,fun b hb=>hw b (h.iLt b hb),Nat.le_of_lt hs,fun _ _=>rfl,fun _ _=>rfl,fun _ _=>Iff.rfl,Nat.le_refl _⟩
  refine ⟨⟨hos.trans h.os,ht.trans h.tape,ho.trans h.output,fun b hb hf=>(hw b (Nat.lt_of_lt_of_le hb h.ext.size)).trans (h.old b hb hf),?_,?_,h.ext.trans e,⟨?_,h.st.lt,?_,h.st.inj⟩,h.live,?_⟩,e⟩
  · intro b hb
    rcases hb with hb|hb
    · exact Nat.lt_trans (h.iLt b hb) hs
    · subst hb;exact hs
  · intro b hb
    rcases hb with hb|hb
    · exact h.iNew b hb
    · subst hb;exact .inr (.inl h.ext.size)
  · intro id o hl
    exact (h.st.obj id o hl).keep e (h.st.lt id o hl) fun hn b hb=>hw _ ((h.st.obj id o hl).blt hn hb)
  · intro id o hl hn b hb hI
    have hb:=(blk_ext e (h.st.lt id o hl)).1 hb
    rcases hI with hI|hI
    · exact h.st.free id o hl hn b hb hI
    · have hI:b=V.w.heap.size:=hI
      have:=(h.st.obj id o hl).blt hn hb
      omega
  · intro x hx
    have:=h.tabs x hx
    exact ⟨.inl this.1,(hw _ (h.iLt _ this.1)).trans this.2⟩
theorem Inv.writeB (h:Inv TB Γ V σ) {id:Nat} {ob ob':O} (hl:look σ id=some ob) (hn:¬V.nl id) {w:World} (hos:w.os=V.w.os) (ht:w.tape=V.w.tape) (ho:w.output=V.w.output) (hs:w.heap.size=V.w.heap.size)
    (hw:∀b,¬blk V id ob b→w.heap[b]? = V.w.heap[b]?) (hsb:∀b,blk V id ob' b→blk V id ob b) (hob:ObjRel { V with w:=w } id ob'):Inv TB Γ { V with w:=w } ((id,ob')::σ)∧Ext V { V with w:=w } := by
  have hfree:∀b,V.I b→¬blk V id ob b:=fun b hb e=>h.st.free id ob hl hn b e hb
  have e:Ext V { V with w:=w } := ⟨fun _ h=>h,fun b hb=>hw b (hfree b hb),Nat.le_of_eq hs.symm,fun _ _=>rfl,fun _ _=>rfl,fun _ _=>Iff.rfl,Nat.le_refl _⟩
  have bw:∀ {i o b},blk { V with w:=w } i o b↔blk V i o b:=fun {i o b} => by cases o<;>exact Iff.rfl
  have look':∀i o,look ((id,ob')::σ) i=some o→∃o0,look σ i=some o0∧∀b,blk V i o b→blk V i o0 b:=fun i o hi=>by
    rw [look_cons] at hi
    by_cases hx:id=i
    · subst hx;rw [if_pos rfl] at hi;injection hi with hi;subst hi;exact ⟨ob,hl,hsb⟩
    · rw [if_neg hx] at hi;exact ⟨o,hi,fun _ h=>h⟩
  refine ⟨⟨hos.trans h.os,ht.trans h.tape,ho.trans h.output,?_,fun b hb=>by show b < w.heap.size;rw [hs];exact h.iLt b hb,h.iNew,h.ext.trans e,⟨?_,?_,?_,?_⟩,?_,?_⟩,e⟩
  · intro b hb hf
    have:¬blk V id ob b:=by
      intro hx
      rcases h.live id ob hl hn b hx with h1|h1
      · omega
      · exact hf h1
    exact (hw b this).trans (h.old b hb hf)
  · intro i o hi
    rw [look_cons] at hi
    by_cases hx:id=i
    · rw [if_pos hx] at hi;injection hi with hi;subst hi;subst hx;exact hob
    · rw [if_neg hx] at hi
      exact (h.st.obj i o hi).keep e (h.st.lt i o hi) fun hn' b hb=>hw _ fun he=>h.st.inj id i ob o hl hi hx hn hn' b he hb
  · intro i o hi;obtain ⟨o0,h0,_⟩:=look' i o hi;exact h.st.lt i o0 h0
  · intro i o hi hn b hb;obtain ⟨o0,h0,h1⟩:=look' i o hi;exact h.st.free i o0 h0 hn b (h1 b (bw.1 hb))
  · intro i i' o o' hi hi' hne hn hn' b hb hb';obtain ⟨o0,h0,h2⟩:=look' i o hi;obtain ⟨o1,h1,h3⟩:=look' i' o' hi';exact h.st.inj i i' o0 o1 h0 h1 hne hn hn' b (h2 b (bw.1 hb)) (h3 b (bw.1 hb'))
  · intro i o hi hn b hb;obtain ⟨o0,h0,h1⟩:=look' i o hi;exact h.live i o0 h0 hn b (h1 b (bw.1 hb))
  · intro x hx
    have:=h.tabs x hx
    exact ⟨this.1,(hw _ (hfree _ this.1)).trans this.2⟩
theorem Inv.write (h:Inv TB Γ V σ) {id:Nat} {ob ob':O} (hl:look σ id=some ob) (hn:¬V.nl id) {w:World} (h1:ob.one=true) (h2:ob'.one=true) (hos:w.os=V.w.os) (ht:w.tape=V.w.tape) (ho:w.output=V.w.output) (hs:w.heap.size=V.w.heap.size)
    (hw:∀b,b≠V.ρ id→w.heap[b]? = V.w.heap[b]?) (hob:ObjRel { V with w:=w } id ob'):Inv TB Γ { V with w:=w } ((id,ob')::σ)∧Ext V { V with w:=w } :=
  h.writeB hl hn hos ht ho hs (fun b hb=>hw b (by rw [O.one_blk h1] at hb;exact hb)) (fun b hb=>by rw [O.one_blk h1];rw [O.one_blk h2] at hb;exact hb) hob
theorem Inv.alias (h:Inv TB Γ V σ) {id:Nat} {ob:O} (hl:look σ id=some ob):Inv TB Γ (newV V (V.ρ id) (V.cap id) (V.nl id) V.w) ((V.nx,ob)::kill id σ)∧Ext V (newV V (V.ρ id) (V.cap id) (V.nl id) V.w):=by
  have e:Ext V (newV V (V.ρ id) (V.cap id) (V.nl id) V.w):=newV_ext (Nat.le_refl _) fun _ _=>rfl
  have hid:=h.st.lt id ob hl
  have hnew:(newV V (V.ρ id) (V.cap id) (V.nl id) V.w).ρ V.nx=V.ρ id:=by simp [newV]
  have hnnl:(newV V (V.ρ id) (V.cap id) (V.nl id) V.w).nl V.nx=V.nl id:=by simp [newV]
  have hncap:(newV V (V.ρ id) (V.cap id) (V.nl id) V.w).cap V.nx=V.cap id:=by simp [newV]
  have look':∀i o,look ((V.nx,ob)::kill id σ) i=some o→(i=V.nx∧o=ob)∨(i≠V.nx∧i≠id∧look σ i=some o):=fun i o hi=>by
    rw [look_cons] at hi
    by_cases hx:V.nx=i
    · rw [if_pos hx] at hi;injection hi with hi;exact .inl ⟨hx.symm,hi.symm⟩
    · rw [if_neg hx,look_kill] at hi
      by_cases hy:i=id
      · rw [if_pos hy] at hi;cases hi
      · rw [if_neg hy] at hi;exact .inr ⟨Ne.symm hx,hy,hi⟩
  have bnew:∀ {o b},blk (newV V (V.ρ id) (V.cap id) (V.nl id) V.w) V.nx o b↔blk V id o b:=fun {o b} => by cases o<;>simp [blk,hnew]
  refine ⟨⟨h.os,h.tape,h.output,h.old,h.iLt,h.iNew,h.ext.trans e,⟨?_,?_,?_,?_⟩,?_,h.tabs⟩,e⟩
  · intro i o hi
    rcases look' i o hi with ⟨rfl,rfl⟩|⟨_,_,hi⟩
    · have h1:=h.st.obj id o hl
      cases o with
      | cells T k rows=>
        rcases h1 with ⟨h1,h2⟩|⟨h0,cur,h2,h3,h4,h5,h6,h7⟩
        · exact .inl ⟨by rw [hnnl];exact h1,h2⟩
        · refine .inr ⟨by rw [hnnl];exact h0,cur,by rw [hnew];exact h2,by rw [hncap];exact h3,by rw [hncap];exact h4,by rw [hncap];exact h5,h6,fun i r j c hi hj=>?_⟩
          obtain ⟨v,h8,h9⟩:=h7 i r j c hi hj
          exact ⟨v,h8,h9.ext e⟩
      | mp=>
        obtain ⟨h0,ents,clock,h2,h3⟩:=h1
        exact ⟨by rw [hnnl];exact h0,ents,clock,by rw [hnew];exact h2,h3⟩
      | sld T l=>exact ⟨by rw [hnnl];exact h1.1,h1.2⟩
    · exact (h.st.obj i o hi).keep e (h.st.lt i o hi) fun _ _ _=>rfl
  · intro i o hi
    rcases look' i o hi with ⟨rfl,rfl⟩|⟨_,_,hi⟩
    · exact Nat.lt_succ_self _
    · exact Nat.lt_succ_of_lt (h.st.lt i o hi)
  · intro i o hi hn b hb
    rcases look' i o hi with ⟨rfl,rfl⟩|⟨_,_,hi⟩
    · exact h.st.free id o hl (by rw [←hnnl];exact hn) b (bnew.1 hb)
    · have hlt:=h.st.lt i o hi
      exact h.st.free i o hi (fun hx=>hn ((e.nl i hlt).2 hx)) b ((blk_ext e hlt).1 hb)
  · intro i i' o o' hi hi' hne hn hn' b hb hb'
    rcases look' i o hi with ⟨rfl,rfl⟩|⟨_,h1,hk⟩<;>rcases look' i' o' hi' with ⟨rfl,rfl⟩|⟨_,h1',hk'⟩
    · exact absurd rfl hne
    · have hlt:=h.st.lt i' o' hk'
      exact h.st.inj id i' o o' hl hk' (Ne.symm h1') (by rw [←hnnl];exact hn) (fun hx=>hn' ((e.nl i' hlt).2 hx)) b (bnew.1 hb) ((blk_ext e hlt).1 hb')
    · have hlt:=h.st.lt i o hk
      exact h.st.inj i id o o' hk hl h1 (fun hx=>hn ((e.nl i hlt).2 hx)) (by rw [←hnnl];exact hn') b ((blk_ext e hlt).1 hb) (bnew.1 hb')
    · have hlt:=h.st.lt i o hk
      have hlt':=h.st.lt i' o' hk'
      exact h.st.inj i i' o o' hk hk' hne (fun hx=>hn ((e.nl i hlt).2 hx)) (fun hx=>hn' ((e.nl i' hlt').2 hx)) b ((blk_ext e hlt).1 hb) ((blk_ext e hlt').1 hb')
  · intro i o hi hn b hb
    rcases look' i o hi with ⟨rfl,rfl⟩|⟨_,_,hi⟩
    · exact h.live id o hl (by rw [←hnnl];exact hn) b (bnew.1 hb)
    · have hlt:=h.st.lt i o hi
      exact h.live i o hi (fun hx=>hn ((e.nl i hlt).2 hx)) b ((blk_ext e hlt).1 hb)
theorem Inv.sub (h:Inv TB Γ V σ) {σ':Store} (hs:∀id o,look σ' id=some o→look σ id=some o):Inv TB Γ V σ':=
  ⟨h.os,h.tape,h.output,h.old,h.iLt,h.iNew,h.ext,⟨fun id o hl=>h.st.obj id o (hs id o hl),fun id o hl=>h.st.lt id o (hs id o hl),fun id o hl=>h.st.free id o (hs id o hl),
    fun id id' o o' hl hl'=>h.st.inj id id' o o' (hs id o hl) (hs id' o' hl')⟩,fun id o hl=>h.live id o (hs id o hl),h.tabs⟩
end
end Go.Am
namespace Go.Am
open Go
def zC:Value→C
  | .slice none 0 0=>.d (.l [])
  | v=>.d (.v v)
def zOk:Value→Bool
  | .slice none 0 0=>true
  | v=>scal v
theorem zC_rel {V:View} {v:Value} (h:zOk v=true):CRel V (zC v) v:=by
  unfold zC
  split
  · exact .d .nil
  · rename_i hn
    unfold zOk at h
    split at h
    · exact absurd rfl (hn)
    · exact .d (.v h)
def eC:E→List C
  | .o c=>[c]
  | .a cs=>cs
  | .t _=>[]
  | .e=>[.d (.l [])]
def eOk:E→Bool
  | .t _=>false
  | _=>true
theorem eC_rel {V:View} {e:E} {v:Value} (ho:eOk e=true) (h:ERel V e v):LRel V (eC e) v.cells:=by
  cases e with
  | o c=>
    have h:CRel V c v:=h
    have:v.cells = #[v]:=by cases h with
      | d h=>cases h with
        | v hs=>cases v<;>first|rfl|(simp [scal] at hs)
        | nil=>rfl
        | l=>rfl
        | e=>rfl
        | p=>rfl
      | _=>rfl
    rw [this]
    refine ⟨rfl,fun j c' v' hj hv=>?_⟩
    match j with
    | 0=>simp [eC] at hj hv;subst hj hv;exact h
    | j+1=>simp [eC] at hj
  | a cs=>obtain ⟨vs,rfl,h⟩:=h;exact h
  | t=>cases ho
  | e=>
    obtain ⟨b,rfl⟩:=h
    refine ⟨rfl,fun j c' v' hj hv=>?_⟩
    match j with
    | 0=>
      simp [eC] at hj
      subst hj
      have hv:v'=.slice b 0 0:=(Option.some.inj hv).symm
      subst hv
      cases b with
      | none=>exact .d .nil
      | some a=>exact .d (.e (Nat.zero_le _))
    | j+1=>simp [eC] at hj
theorem CRel.one {V:View} {c:C} {v:Value} (h:CRel V c v):v.oneCell'=true:=by
  cases h with
  | d h=>cases h with
    | v hs=>cases v<;>first|rfl|(simp [scal] at hs)
    | nil=>rfl
    | l=>rfl
    | e=>rfl
    | p=>rfl
  | _=>rfl
section
variable {P:Program} {TB:List (Nat×Obj)} {Γ:Ctx} {d:Option Tmp} {ty:TypeId} {pos:String} {af:Array Edge} {g:Option (Nat×Bool)} {f:Env} {σ:Store} {nx:Nat}
variable {K:E→Store→Nat→Prop}
theorem n_of_run {o:Oper} (h:∀V ρ,EvRel V o f ρ→Inv TB Γ V σ→V.nx=nx→∃v V' x σ',(execOp ρ o).run P V.w=.ok (.value v) V'.w∧Ext V V'∧Inv TB Γ V' σ'∧ERel V' x v∧K x σ' V'.nx):AOp P TB Γ o f σ nx K:=by
  intro V a h1 h2 h3
  obtain ⟨v,V',x,σ',hr,he,hi,hx,hk⟩:=h V a.eval h1.evRel h2 h3
  unfold Oper.wp
  rw [hr]
  exact ⟨V',v,x,σ',rfl,rfl,he,hi,hx,hk⟩
theorem q_of_runI {o:Oper} {x:E} (h:∀V ρ,EvRel V o f ρ→Inv TB Γ V σ→∃v V',(execOp ρ o).run P V.w=.ok (.value v) V'.w∧Ext V V'∧Inv TB Γ V' σ∧V'.nx=V.nx∧ERel V' x v):QOp P TB Γ o f σ nx x:=by
  intro V a h1 h2 h3
  obtain ⟨v,V',hr,he,hi,hn,hx⟩:=h V a.eval h1.evRel h2
  unfold Oper.wp
  rw [hr]
  exact ⟨V',v,rfl,rfl,he,hi,hn.trans h3,hx⟩
theorem row_rel {V:View} {cs:List C} {vs:Array Value} (h:LRel V cs vs) (i:Nat) (r:List C) (j:Nat) (c:C) (hi:[cs][i]? = some r) (hj:r[j]? = some c):∃v,vs[i*cs.length+j]? = some v∧CRel V c v:=by
  match i with
  | 0=>
    simp at hi;subst hi
    have hlt:j < vs.size:=by rw [h.1];exact (List.getElem?_eq_some_iff.1 hj).1
    exact ⟨vs[j],by simp [hlt],h.2 j c _ hj (Array.getElem?_eq_getElem hlt)⟩
  | i+1=>simp at hi
theorem heap_push_old (w:World) (o:Obj) (b:Nat) (h:b < w.heap.size):(w.alloc o).heap[b]? = w.heap[b]?:=by
  show (w.heap.push o)[b]? = _
  rw [Array.getElem?_push,if_neg (by omega)]
theorem heap_push_new (w:World) (o:Obj):(w.alloc o).heap[w.heap.size]? = some o:=by
  show (w.heap.push o)[w.heap.size]? = _
  simp
theorem ptr_new {V:View} {b c k:Nat} {w:World}:CRel (newV V b c False w) (.ptr V.nx k 0 0) (.pointer (some ⟨b,0,none⟩)):=by
  have:=@CRel.ptr (newV V b c False w) V.nx k 0 0 (by simp [newV]) (by simp [newV])
  have h:(newV V b c False w).ρ V.nx=b:=by simp [newV]
  rw [h] at this
  simpa using this
theorem box_inv {V:View} (h:Inv TB Γ V σ) {T:TypeId} {cs:List C} {vs:Array Value} (hc:LRel V cs vs) :
    Inv TB Γ (newV V V.w.heap.size 1 False (V.w.alloc (.cells vs T))) ((V.nx,.cells T cs.length [cs])::σ)∧Ext V (newV V V.w.heap.size 1 False (V.w.alloc (.cells vs T))):=by
  have e:Ext V (newV V V.w.heap.size 1 False (V.w.alloc (.cells vs T))):=newV_ext (by simp) fun b hb=>heap_push_old _ _ _ (h.iLt b hb)
  refine h.alloc rfl rfl rfl rfl (by simp) (fun b hb=>heap_push_old _ _ _ hb) (.inr ⟨by simp [newV],vs,?_,?_,?_,?_,?_,?_⟩)
  · have:=heap_push_new V.w (.cells vs T)
    simpa only [newV,if_true] using this
  · simp [newV,hc.1]
  · simp [newV]
  · simp [newV,maxLen]
  · intro r hr;simp at hr;subst hr;rfl
  · exact fun i r j c hi hj=>row_rel (hc.ext e) i r j c hi hj
theorem n_box {T:TypeId} {x:Operand} {e:E} (hx:ev f x=some e) (ho:eOk e=true) (hK:K (.o (.ptr nx (eC e).length 0 0)) ((nx,.cells T (eC e).length [eC e])::σ) (nx+1)):AOp P TB Γ ⟨d,.box T x,ty,pos,af,g⟩ f σ nx K:=
  n_of_run fun V ρ h1 h2 h3=>by
    subst h3
    have hc:=eC_rel ho (h1.get (by simp [Op.operands]) hx)
    obtain ⟨hi,he⟩:=box_inv h2 (T:=T) hc
    refine ⟨.pointer (some ⟨V.w.heap.size,0,none⟩),_,_,_,?_,he,hi,?_,hK⟩
    · simp [execOp,Instr.box,newVar,newRow,newV,go_sem]
    · exact ptr_new
theorem n_alloc {T:TypeId} {z:List Value} [hz:HasZe P T z] (hok:z.all zOk=true) (hK:K (.o (.ptr nx z.length 0 0)) ((nx,.cells T z.length [z.map zC])::σ) (nx+1)):AOp P TB Γ ⟨d,.alloc T,ty,pos,af,g⟩ f σ nx K:=
  n_of_run fun V ρ h1 h2 h3=>by
    subst h3
    have hz':=hz.out
    simp only [zeF,Option.bind_eq_some_iff,Option.map_eq_some_iff] at hz'
    obtain ⟨i,hi,zv,hzv,hzz⟩:=hz'
    have hc:LRel V (z.map zC) zv.cells:=by
      refine ⟨by rw [List.length_map,←hzz];simp,fun j c v hj hv=>?_⟩
      simp only [List.getElem?_map,Option.map_eq_some_iff] at hj
      obtain ⟨u,hu,rfl⟩:=hj
      have:u=v:=by
        rw [←hzz] at hu
        simp only [Array.getElem?_toList] at hu
        rw [hu] at hv;exact Option.some.inj hv
      subst this
      exact zC_rel (List.all_eq_true.1 hok u (List.mem_of_getElem? hu))
    obtain ⟨hi',he⟩:=box_inv h2 (T:=T) hc
    rw [List.length_map] at hi'
    refine ⟨.pointer (some ⟨V.w.heap.size,0,none⟩),_,_,_,?_,he,hi',?_,hK⟩
    · simp [execOp,Instr.alloc,zeroValue,typeInfo,hi,hzv,newVar,newRow,newV,go_sem]
    · exact ptr_new
def toDs:List C→Option (List D)
  | []=>some []
  | .d x::l=>(toDs l).map (x :: ·)
  | _=>none
theorem toDs_get:∀ {l:List C} {ds:List D},toDs l=some ds→∀(j:Nat) (x:D),ds[j]? = some x→l[j]? = some (.d x)
  | [],ds,h,j,x,hj=>by injection h with h;subst h;simp at hj
  | c::l,ds,h,j,x,hj=>by
    cases c<;>simp only [toDs] at h<;>try cases h
    simp only [Option.map_eq_some_iff] at h
    obtain ⟨ds',h',rfl⟩:=h
    cases j with
    | zero=>simpa using hj
    | succ j=>simpa using toDs_get h' j x (by simpa using hj)
theorem toDs_length:∀ {l:List C} {ds:List D},toDs l=some ds→ds.length=l.length
  | [],ds,h=>by injection h with h;subst h;rfl
  | c::l,ds,h=>by
    cases c<;>simp only [toDs] at h<;>try cases h
    simp only [Option.map_eq_some_iff] at h
    obtain ⟨ds',h',rfl⟩:=h
    simp [toDs_length h']
theorem q_boxI {T:TypeId} {x:Operand} {e:E} {ds:List D} (hx:ev f x=some e) (ho:eOk e=true) (hd:toDs (eC e)=some ds):QOp P TB Γ ⟨d,.box T x,ty,pos,af,g⟩ f σ nx (.o (.ip ds)):=
  q_of_runI fun V ρ h1 h2=>by
    have hc:=eC_rel ho (h1.get (by simp [Op.operands]) hx)
    obtain ⟨hi,he⟩:=h2.allocI (w:=V.w.alloc (.cells (ρ x).cells T)) rfl rfl rfl (by simp) (fun b hb=>heap_push_old _ _ _ hb)
    refine ⟨.pointer (some ⟨V.w.heap.size,0,none⟩),_,?_,he,hi,rfl,?_⟩
    · simp [execOp,Instr.box,newVar,newRow,newI,go_sem]
    · refine .ip (vs:=fun j=>(ρ x).cells.getD j undef) (.inr rfl) (fun j y hj=>?_) (fun j y hj=>?_)
      · have h4:=toDs_get hd j y hj
        have hlt:j < (ρ x).cells.size:=by rw [hc.1];exact (List.getElem?_eq_some_iff.1 h4).1
        have h5:(newI V (V.w.alloc (.cells (ρ x).cells T))).w.heap[V.w.heap.size]? = some (.cells (ρ x).cells T):=heap_push_new _ _
        simp [World.cell?,h5,hlt]
      · have h4:=toDs_get hd j y hj
        have hlt:j < (ρ x).cells.size:=by rw [hc.1];exact (List.getElem?_eq_some_iff.1 h4).1
        have h5:=hc.2 j _ _ h4 (Array.getElem?_eq_getElem hlt)
        cases h5 with
        | d h6=>simpa [hlt] using h6.ext he
theorem q_loadP {t:TypeId} {x:Operand} {id k i j n:Nat} {T:TypeId} {rows:List (List C)} {r:List C} {c:C} [hl:HasLd P t false n] (hx:ev f x=some (.o (.ptr id k i j))) (ho:look σ id=some (.cells T k rows)) (hr:rows[i]? = some r) (hc:r[j]? = some c) :
    QOp P TB Γ ⟨d,.load t x,ty,pos,af,g⟩ f σ nx (.o c):=
  q_of_run fun V ρ h1 h2=>by
    have h3:=h1.get (by simp [Op.operands]) hx
    generalize hv:ρ x=v at h3
    cases h3 with
    | ptr hid hnl=>
      rcases h2.st.obj id _ ho with ⟨h4,_⟩|⟨_,cur,h4,h5,h6,h7,h8,h9⟩
      · exact absurd h4 hnl
      · obtain ⟨v,h10,h11⟩:=h9 i r j c hr hc
        refine ⟨v,?_,h11⟩
        have:V.w.cell? ⟨V.ρ id,i*k+j,none⟩=some v:=by simp [World.cell?,h4,h10]
        simp [execOp,hv,Instr.loadAt,Instr.sureAddr,loadVar,(run_isAgg hl.out V.w).1,this,go_sem]
theorem q_loadPA {t:TypeId} {x:Operand} {id k i j n:Nat} {T:TypeId} {rows:List (List C)} {r:List C} [hl:HasLd P t true n] (hx:ev f x=some (.o (.ptr id k i j))) (ho:look σ id=some (.cells T k rows)) (hr:rows[i]? = some r) (hn:j+n≤r.length) :
    QOp P TB Γ ⟨d,.load t x,ty,pos,af,g⟩ f σ nx (.a ((r.drop j).take n)):=
  q_of_run fun V ρ h1 h2=>by
    have h3:=h1.get (by simp [Op.operands]) hx
    generalize hv:ρ x=v at h3
    cases h3 with
    | ptr hid hnl=>
      rcases h2.st.obj id _ ho with ⟨h4,_⟩|⟨_,cur,h4,h5,h6,h7,h8,h9⟩
      · exact absurd h4 hnl
      · have hcell:∀q,q < n→∃v,cur[i*k+j+q]? = some v∧CRel V (r[j+q]?.getD (.d (.l []))) v:=fun q hq=>by
          have hlt:j+q < r.length:=by omega
          obtain ⟨v,h10,h11⟩:=h9 i r (j+q) r[j+q] hr (List.getElem?_eq_getElem hlt)
          exact ⟨v,by rw [Nat.add_assoc];exact h10,by rw [List.getElem?_eq_getElem hlt];exact h11⟩
        refine ⟨.agg ((List.range n).map fun q=>cur.getD (i*k+j+q) undef).toArray,?_,_,rfl,by simp;omega,?_⟩
        · have:(loadCells ⟨V.ρ id,i*k+j,none⟩ n).run P V.w=.ok ((List.range n).map fun q=>cur.getD (i*k+j+q) undef).toArray V.w:=run_loadCells V.w _ n _ fun q hq=>by
            rw [addr_add]
            obtain ⟨v,h10,_⟩:=hcell q hq
            simp [World.cell?,h4,h10]
          unfold loadCells at this
          simp [execOp,hv,Instr.loadAt,Instr.sureAddr,loadVar,(run_isAgg hl.out V.w).1,(run_isAgg hl.out V.w).2,this,go_sem]
        · intro q c v hj hv'
          rw [List.getElem?_take] at hj
          split at hj
          · rename_i hq
            rw [List.getElem?_drop] at hj
            obtain ⟨v',h10,h11⟩:=hcell q hq
            rw [hj] at h11
            have:v=v':=by simpa [hq,h10] using hv'.symm
            rw [this];exact h11
          · cases hj
theorem q_fieldP {s kf off:Nat} {x:Operand} {id k i j:Nat} [hf:HasFld P s kf off] (hx:ev f x=some (.o (.ptr id k i j))):QOp P TB Γ ⟨d,.fieldAddr s x kf,ty,pos,af,g⟩ f σ nx (.o (.ptr id k i (j+off))):=
  q_of_run fun V ρ h1 _=>by
    have h2:=h1.get (by simp [Op.operands]) hx
    generalize hv:ρ x=v at h2
    cases h2 with
    | ptr hid hnl=>
      have hh:=hf.out
      unfold fldF at hh
      split at hh
      · rename_i fs hu
        split at hh
        · rename_i fl hfl
          split at hh
          · rename_i ii hi
            cases hz:Nat.beq ii.size 0
            · rw [hz] at hh
              simp only [cond_false,Option.some.injEq] at hh
              subst hh
              have hz':ii.size≠0:=fun e=>by rw [e] at hz;cases hz
              refine ⟨.pointer (some ⟨V.ρ id,i*k+j+fl.offset,none⟩),?_,by rw [Nat.add_assoc];exact .ptr hid hnl⟩
              simp [execOp,hv,Instr.fieldAt,run_underlying hu,hfl,Instr.sureAddr,fieldPlace,sizeOf,typeInfo,hi,hz',addr_add,go_sem]
            · rw [hz] at hh;cases hh
          · cases hh
        · cases hh
      · cases hh
theorem q_indexA {t e:TypeId} {x y:Operand} {id k len b:Nat} {off:Nat} {n:Int} {ik:IntKind} [hl:HasSl P t e k b] (hx:ev f x=some (.o (.arr id k off len))) (hy:ev f y=some (eI ik n))
    (h0:0≤n) (hn:n < len):QOp P TB Γ ⟨d,.indexAddr t x y,ty,pos,af,g⟩ f σ nx (.o (.ptr id k (off+n.toNat) 0)):=
  q_of_run fun V ρ h1 _=>by
    have h2:=h1.get (by simp [Op.operands]) hx
    have h3:ρ y=.int ik n:=CRel.val (h1.get (by simp [Op.operands]) hy)
    generalize hv:ρ x=v at h2
    obtain ⟨i,hu,hi,hs,_⟩:=sl_inv hl.out
    cases h2 with
    | nil=>omega
    | arr hid hnl hle=>
      refine ⟨.pointer (some ⟨V.ρ id,(off+n.toNat)*k+0,none⟩),?_,.ptr hid hnl⟩
      simp [execOp,hv,h3,Instr.indexAt,asIntOf,run_underlying hu,h0,hn,sizeOf,typeInfo,hi,hs,addr_add,Nat.add_mul,go_sem]
theorem q_indexP {t:TypeId} {x y:Operand} {id k i j:Nat} {n:Int} {len ke:Nat} {ik:IntKind} [hl:HasAr P t len ke] (hx:ev f x=some (.o (.ptr id k i j))) (hy:ev f y=some (eI ik n))
    (h0:0≤n) (hn:n < len):QOp P TB Γ ⟨d,.indexAddr t x y,ty,pos,af,g⟩ f σ nx (.o (.ptr id k i (j+n.toNat*ke))):=
  q_of_run fun V ρ h1 _=>by
    have h2:=h1.get (by simp [Op.operands]) hx
    have h3:ρ y=.int ik n:=CRel.val (h1.get (by simp [Op.operands]) hy)
    generalize hv:ρ x=v at h2
    obtain ⟨e,ii,hu,hi,hs⟩:=ar_inv hl.out
    cases h2 with
    | ptr hid hnl=>
      refine ⟨.pointer (some ⟨V.ρ id,i*k+(j+n.toNat*ke),none⟩),?_,.ptr hid hnl⟩
      simp [execOp,hv,h3,Instr.indexAt,asIntOf,run_underlying hu,Instr.sureAddr,h0,hn,sizeOf,typeInfo,hi,hs,addr_add,Nat.add_assoc,go_sem]
theorem run_storeVar_cells {t:TypeId} {n:Nat} {w:World} {a:Addr} {v:Value} (h:(sizeOf t).run P w=.ok n w) (hs:v.cells.size=n):(storeVar t a v).run P w=(storeCells a v.cells.toList).run P w:=by
  unfold storeVar
  simp only [Sem.run_bind,h,Result.andThen_ok,hs,ne_eq,not_true,if_false]
def spliceC (r:List C) (j:Nat) (cs:List C):List C:=r.take j++cs++r.drop (j+cs.length)
theorem n_store {t:TypeId} {x y:Operand} {id k i j n:Nat} {T:TypeId} {rows:List (List C)} {r:List C} {e:E} {ag:Bool} [hl:HasLd P t ag n] (hx:ev f x=some (.o (.ptr id k i j))) (hy:ev f y=some e) (ho:eOk e=true)
    (hlk:look σ id=some (.cells T k rows)) (hr:rows[i]? = some r) (hn:(eC e).length=n) (hj:j+n≤k) (hK:K (.t []) ((id,.cells T k (rows.set i (spliceC r j (eC e))))::σ) nx):AOp P TB Γ ⟨d,.store t x y,ty,pos,af,g⟩ f σ nx K:=by
  intro V a h1 h2 h3
  have h1:=h1.evRel
  unfold Oper.wp
  generalize a.eval=ρ at h1 ⊢
  have hxr:=h1.get (by simp [Op.operands]) hx
  have hc:=eC_rel ho (h1.get (by simp [Op.operands]) hy)
  generalize hv:ρ x=v at hxr
  cases hxr with
  | ptr hid hnl=>
    rcases h2.st.obj id _ hlk with ⟨h4,_⟩|⟨_,cur,h4,h5,h6,h7,h8,h9⟩
    · exact absurd h4 hnl
    · have hrk:r.length=k:=h8 r (List.mem_of_getElem? hr)
      have hilt:=(List.getElem?_eq_some_iff.1 hr).1
      have hcs:(ρ y).cells.size=n:=by rw [hc.1,hn]
      have hspace:(i+1)*k≤cur.size:=by rw [h5];exact Nat.mul_le_mul_right _ (by omega)
      have hfit:i*k+j+n≤cur.size:=by rw [Nat.add_mul] at hspace;omega
      have hst:=run_storeCells_at P (V.ρ id) (i*k+j) T (ρ y).cells.toList 0 cur V.w h4 (by simp;omega) (fun v hv=>by
        obtain ⟨q,hq,rfl⟩:=List.getElem_of_mem hv
        have hq':q < (eC e).length:=by simpa [hc.1] using hq
        exact (hc.2 q (eC e)[q] _ (List.getElem?_eq_getElem hq') (by simp)).one)
      simp only [Nat.add_zero,Array.length_toList] at hst
      rw [hcs] at hst
      have hw:=h2.write hlk hnl (w:=V.w.setRow (V.ρ id) (cur.toList.take (i*k+j)++(ρ y).cells.toList++cur.toList.drop (i*k+j+n)).toArray) (ob':=.cells T k (rows.set i (spliceC r j (eC e)))) rfl rfl rfl rfl rfl (by simp) (fun b hb=>setRow_other _ _ _ _ hb) (by
        have ee:Ext V { V with w:=V.w.setRow (V.ρ id) (cur.toList.take (i*k+j)++(ρ y).cells.toList++cur.toList.drop (i*k+j+n)).toArray } :=
          ⟨fun _ h=>h,fun b hb=>setRow_other _ _ _ _ fun e=>h2.st.free id _ hlk hnl b e hb,by simp,fun _ _=>rfl,fun _ _=>rfl,fun _ _=>Iff.rfl,Nat.le_refl _⟩
        have hlen:(cur.toList.take (i*k+j)++(ρ y).cells.toList).length=i*k+j+n:=by simp [hcs];omega
        refine .inr ⟨hnl,_,setRow_heap _ _ _ _ _ _ h4,?_,by simpa using h6,h7,?_,?_⟩
        · simp [hcs];omega
        · intro r' hr'
          rcases List.mem_or_eq_of_mem_set hr' with h|h
          · exact h8 r' h
          · subst h;simp [spliceC,hn];omega
        · intro i' r' j' c hi' hj'
          rw [List.getElem?_set] at hi'
          have hidx:∀q,(cur.toList.take (i*k+j)++(ρ y).cells.toList++cur.toList.drop (i*k+j+n)).toArray[q]? = if q < i*k+j then cur[q]? else if q < i*k+j+n then (ρ y).cells[q - (i*k+j)]? else cur[q]?:=by
            intro q
            simp only [List.getElem?_toArray]
            by_cases hq:q < i*k+j+n
            · rw [List.getElem?_append_left (by rw [hlen];exact hq)]
              by_cases hq2:q < i*k+j
              · rw [List.getElem?_append_left (by simp;omega),if_pos hq2]
                simp [hq2]
              · rw [List.getElem?_append_right (by simp;omega),if_neg hq2,if_pos hq]
                simp
                congr 1
                omega
            · rw [List.getElem?_append_right (by rw [hlen];omega),if_neg (by omega),if_neg hq,hlen,List.getElem?_drop]
              simp
              congr 1
              omega
          rw [hidx]
          by_cases hii:i=i'
          · subst hii
            rw [if_pos rfl,if_pos hilt] at hi'
            injection hi' with hi'
            subst hi'
            unfold spliceC at hj'
            have hl1:(r.take j++eC e).length=j+n:=by simp [hn];omega
            by_cases hq:j' < j+n
            · rw [List.getElem?_append_left (by rw [hl1];exact hq)] at hj'
              by_cases hq2:j' < j
              · rw [List.getElem?_append_left (by simp;omega)] at hj'
                rw [List.getElem?_take,if_pos hq2] at hj'
                obtain ⟨v,h10,h11⟩:=h9 i r j' c hr hj'
                rw [if_pos (by omega)]
                exact ⟨v,h10,h11.ext ee⟩
              · rw [List.getElem?_append_right (by simp;omega)] at hj'
                have hmin:(r.take j).length=j:=by simp;omega
                rw [hmin] at hj'
                rw [if_neg (by omega),if_pos (by omega)]
                have hlt:j' - j < (ρ y).cells.size:=by omega
                have he:i*k+j' - (i*k+j)=j' - j:=by omega
                rw [he]
                exact ⟨(ρ y).cells[j' - j],Array.getElem?_eq_getElem hlt,(hc.2 _ c _ hj' (Array.getElem?_eq_getElem hlt)).ext ee⟩
            · rw [List.getElem?_append_right (by rw [hl1];omega),hl1,List.getElem?_drop,hn] at hj'
              have he:j+n+(j' - (j+n))=j':=by omega
              rw [he] at hj'
              obtain ⟨v,h10,h11⟩:=h9 i r j' c hr hj'
              rw [if_neg (by omega),if_neg (by omega)]
              exact ⟨v,h10,h11.ext ee⟩
          · rw [if_neg hii] at hi'
            obtain ⟨v,h10,h11⟩:=h9 i' r' j' c hi' hj'
            have hr'k:r'.length=k:=h8 r' (List.mem_of_getElem? hi')
            have hj'k:j' < k:=by rw [←hr'k];exact (List.getElem?_eq_some_iff.1 hj').1
            have:¬(i*k+j≤i'*k+j'∧i'*k+j' < i*k+j+n):=by
              rintro ⟨ha,hb⟩
              rcases Nat.lt_or_gt_of_ne hii with hlt|hlt
              · have:=Nat.mul_le_mul_right k (show i+1≤i' by omega)
                rw [Nat.add_mul] at this;omega
              · have:=Nat.mul_le_mul_right k (show i'+1≤i by omega)
                rw [Nat.add_mul] at this;omega
            by_cases hq:i'*k+j' < i*k+j
            · rw [if_pos hq];exact ⟨v,h10,h11.ext ee⟩
            · rw [if_neg hq,if_neg (by omega)];exact ⟨v,h10,h11.ext ee⟩)
      have hrun:(execOp ρ ⟨d,.store t x y,ty,pos,af,g⟩).run P V.w=.ok .skip (V.w.setRow (V.ρ id) (cur.toList.take (i*k+j)++(ρ y).cells.toList++cur.toList.drop (i*k+j+n)).toArray):=by
        show ((do Instr.storeAt t (ρ x) (ρ y);pure Next.skip:Sem Next)).run P V.w=_
        rw [hv]
        simp only [Instr.storeAt,Instr.sureAddr,pure_bind,Sem.run_bind,run_storeVar_cells (run_isAgg hl.out V.w).2 hcs,hst,Result.andThen_ok]
        rfl
      rw [hrun]
      exact ⟨_,undef,_,_,rfl,rfl,hw.2,hw.1,undef_rel _,by rw [←h3] at hK;exact hK⟩
end
end Go.Am
