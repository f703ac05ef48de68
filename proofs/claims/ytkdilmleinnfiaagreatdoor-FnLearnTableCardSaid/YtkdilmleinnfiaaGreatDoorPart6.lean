/-
  The steps of a walk, few and short: what an operation gives is reckoned.
-/
import Derived.Test.YtkdilmleinnfiaaGreatDoorPart5
import Derived.ProofKit
import Derived.OpenShut
import Derived.WideKeyArgs
import Derived.Deep.DeepHandedRow
import Derived.Lib.LaidTab
set_option linter.constructorNameAsVariable false
set_option linter.unusedSectionVars false
set_option linter.unusedSimpArgs false
set_option linter.unusedVariables false
namespace Go.Am
open Go
class MY (P:Program) (t:TypeId):Prop where
 out:P.underlying t=some .bool
theorem oA{p:Prop}[Decidable p]:(decide p=true)=p:=decide_eq_true_eq
theorem oB{p:Prop}[Decidable p]:decide p=false↔¬p:=decide_eq_false_iff_not
theorem oC{α β:Type}{l:List α}{f:α→β}:(l.map f).length=l.length:=List.length_map f
theorem oD{α:Type}{l m:List α}:(l++m).length=l.length+m.length:=List.length_append
theorem oE{α:Type}{n:Nat}{x:α}:(List.replicate n x).length=n:=List.length_replicate
theorem oF{α:Type}{x:α}{l:List α}:(x::l).length=l.length+1:=List.length_cons
theorem oG{α:Type}:([]:List α).length=0:=List.length_nil
theorem oZ:(∀(p:Prop) [Decidable p],(decide p=true)=p)∧(∀(p:Prop) [Decidable p],decide p=false↔¬p)∧(∀(α β:Type) (l:List α) (f:α→β),(l.map f).length=l.length)∧(∀(α:Type) (l m:List α),(l++m).length=l.length+m.length)∧(∀(α:Type) (n:Nat) (x:α),(List.replicate n x).length=n)∧(∀(α:Type) (x:α) (l:List α),(x::l).length=l.length+1)∧∀(α:Type),([]:List α).length=0:=
 ⟨fun _ _=>oA,fun _ _=>oB,fun _ _ _ _=>oC,fun _ _ _=>oD,fun _ _ _=>oE,fun _ _ _=>oF,fun _=>oG⟩
structure TI where
 ld:Option (Bool×Nat):=none
 ik:Option IntKind:=none
 st:Bool:=false
 sl:Option (Nat×Nat×Nat):=none
 ar:Option (Nat×Nat):=none
 fl:List (Option (Nat×Bool×Nat)):=[]
 pt:Bool:=false
 bo:Bool:=false
 ze:Option (List Value):=none
def N5(P:Program)(t:Nat):Nat→List (Option (Nat×Bool×Nat))→Prop
 | _,[]=>True
 | k,none::r=>N5 P t (k+1) r
 | k,some x::r=>(SC P t k=some x.1∧SD P t k=some x)∧N5 P t (k+1) r
structure Dj (P:Program) (t:Nat) (i:TI):Prop where
 ld:i.ld=none∨Yz P t=i.ld
 ik:i.ik=none∨P.underlying t=i.ik.map .int
 st:i.st=false∨P.underlying t=some .string
 sl:i.sl=none∨Zb P t=i.sl
 ar:i.ar=none∨ZB P t=i.ar
 fl:N5 P t 0 i.fl
 pt:i.pt=false∨∃e,P.underlying t=some (.pointer e)
 bo:i.bo=false∨P.underlying t=some .bool
 ze:i.ze=none∨TC P t=i.ze
def QM(P:Program):List (Nat×TI)→Prop
 | []=>True
 | (t,i)::r=>Dj P t i∧QM P r
def cF:Value→Value→Bool
 | .int k n,.int k' n'=>decide (k=k') && decide (n=n')
 | .bool a,.bool b=>decide (a=b)
 | .string ⟨⟨a⟩⟩,.string ⟨⟨b⟩⟩=>a.isEmpty && b.isEmpty
 | .slice none 0 0,.slice none 0 0=>true
 | .pointer none,.pointer none=>true
 | .map none,.map none=>true
 | .nilFunc,.nilFunc=>true
 | .nilIface,.nilIface=>true
 | _,_=>false
theorem Zj:∀ {a b:Value},cF a b=true→a=b:=by
 intro a b h
 unfold cF at h
 split at h<;>simp_all
def bI:List Value→List Value→Bool
 | [],[]=>true
 | a::l,b::m=>cF a b && bI l m
 | _,_=>false
theorem Wk:∀ {l m:List Value},bI l m=true→l=m
 | [],[],_=>rfl
 | a::l,b::m,h=>by
  unfold bI at h
  rw [Bool.and_eq_true] at h
  rw [Zj h.1,Wk h.2]
 | [],_::_,h=>by cases h
 | _::_,[],h=>by cases h
def ZO(P:Program)(t:Nat):Nat→List (Option (Nat×Bool×Nat))→Bool
 | _,[]=>true
 | k,none::r=>ZO P t (k+1) r
 | k,some x::r=>decide (SC P t k=some x.1) && decide (SD P t k=some x) && ZO P t (k+1) r
theorem PN{P:Program}{t:Nat}:∀ {l:List (Option (Nat×Bool×Nat))} {k:Nat},ZO P t k l=true→N5 P t k l
 | [],_,_=>trivial
 | none::r,k,h=>PN (l:=r) (k:=k+1) h
 | some x::r,k,h=>by
  unfold ZO at h
  simp only [Bool.and_eq_true,decide_eq_true_eq] at h
  exact⟨h.1,PN h.2⟩
def cR(d:Option TypeDesc)(i:TI):Bool:=match d with
 | some (.int k)=>(match i.ik with|none=>true|some k'=>decide (k=k')) && !i.st && !i.pt && !i.bo
 | some .string=>i.ik.isNone && !i.pt && !i.bo
 | some (.pointer _)=>i.ik.isNone && !i.st && !i.bo
 | some .bool=>i.ik.isNone && !i.st && !i.pt
 | _=>i.ik.isNone && !i.st && !i.pt && !i.bo
def cu(P:Program)(t:Nat)(i:TI):Bool:=
 (i.ld.isNone || decide (Yz P t=i.ld)) && (cR (P.underlying t) i && ((i.sl.isNone || decide (Zb P t=i.sl)) && ((i.ar.isNone || decide (ZB P t=i.ar)) && (ZO P t 0 i.fl && match i.ze with
  | none=>true
  | some l=>match TC P t with
   | some l'=>bI l' l
   | none=>false))))
theorem or_none{α:Type}[DecidableEq α]{a b:Option α}(h:(b.isNone || decide (a=b))=true):b=none∨a=b:=by
 rw [Bool.or_eq_true] at h
 rcases h with h|h
 ·left;cases b<;>simp_all
 ·right;exact of_decide_eq_true h
theorem Ze{P:Program}{t:Nat}{i:TI}(h:cu P t i=true):Dj P t i:=by
 unfold cu at h
 simp only [Bool.and_eq_true] at h
 obtain⟨h1,h2,h3,h4,h5,h6⟩:=h
 have hd:(i.ik=none∨P.underlying t=i.ik.map .int)∧(i.st=false∨P.underlying t=some .string)∧(i.pt=false∨∃e,P.underlying t=some (.pointer e))∧(i.bo=false∨P.underlying t=some .bool):=by
  unfold cR at h2
  split at h2
  ·rename_i k hk
   cases hik:i.ik<;>simp_all
  all_goals simp_all
 refine⟨or_none h1,hd.1,hd.2.1,or_none h3,or_none h4,PN h5,hd.2.2.1,hd.2.2.2,?_⟩
 split at h6
 ·rename_i hz;exact .inl hz
 ·rename_i l hz
  split at h6
  ·rename_i l' hz'
   right;rw [hz',hz,Wk h6]
  ·cases h6
def XT(P:Program):List (Nat×TI)→Bool
 | []=>true
 | (t,i)::r=>cu P t i && XT P r
theorem QU{P:Program}:∀ {l:List (Nat×TI)},XT P l=true→QM P l
 | [],_=>trivial
 | (t,i)::r,h=>by
  unfold XT at h
  rw [Bool.and_eq_true] at h
  exact⟨Ze h.1,QU h.2⟩
class B7 (P:Program) where
 T:List (Nat×TI)
 ok:QM P T
def Hj:List (Nat×TI)→Nat→TI
 | [],_=>{}
 | (k,x)::r,t=>bif Nat.beq k t then x else Hj r t
def nth{α:Type}:List α→Nat→Option α
 | [],_=>none
 | x::_,0=>some x
 | _::r,n+1=>nth r n
theorem Ko{α:Type}:∀(l:List α) (i:Nat),nth l i=l[i]?
 | [],_=>by simp [nth]
 | o::_,0=>by simp [nth]
 | _::r,n+1=>by simp [nth,Ko r n]
theorem CL{P:Program}(t:Nat):∀ {T:List (Nat×TI)},QM P T→Dj P t (Hj T t)
 | [],_=>⟨.inl rfl,.inl rfl,.inl rfl,.inl rfl,.inl rfl,trivial,.inl rfl,.inl rfl,.inl rfl⟩
 | (k,x)::r,h=>by
  unfold Hj
  cases hb:Nat.beq k t
  ·exact CL t h.2
  ·have:=Nat.eq_of_beq_eq_true hb
   subst this
   exact h.1
section
variable {P:Program}{t:Nat}{i:TI}
theorem Dj.JI(h:Dj P t i){ag:Bool}{n:Nat}(e:i.ld=some (ag,n)):DM P t ag n:=⟨by rcases h.ld with h|h<;>simp_all⟩
theorem Dj.Uo(h:Dj P t i){k:IntKind}(e:i.ik=some k):EK P t k:=⟨by rcases h.ik with h|h<;>simp_all⟩
theorem Dj.Uq(h:Dj P t i)(e:i.st=true):B6 P t:=⟨by rcases h.st with h|h<;>simp_all⟩
theorem Dj.Oo(h:Dj P t i){e k b:Nat}(he:i.sl=some (e,k,b)):B3 P t e k b:=⟨by rcases h.sl with h|h<;>simp_all⟩
theorem Dj.ZS(h:Dj P t i){n k:Nat}(he:i.ar=some (n,k)):QN P t n k:=⟨by rcases h.ar with h|h<;>simp_all⟩
theorem Dj.Up(h:Dj P t i)(e:i.pt=true):PA P t:=⟨h.pt.resolve_left (by simp [e])⟩
theorem Dj.WD(h:Dj P t i)(e:i.bo=true):MY P t:=⟨by rcases h.bo with h|h<;>simp_all⟩
theorem Dj.Ur(h:Dj P t i){z:List Value}(e:i.ze=some z):BR P t z:=⟨by rcases h.ze with h|h<;>simp_all⟩
theorem N5.get:∀ {l:List (Option (Nat×Bool×Nat))} {k j:Nat} {x:Nat×Bool×Nat},N5 P t k l→nth l j=some (some x)→SC P t (k+j)=some x.1∧SD P t (k+j)=some x
 | [],_,_,_,_,h=>by simp [nth] at h
 | none::r,k,0,x,_,h=>by simp [nth] at h
 | some y::r,k,0,x,hf,h=>by simp [nth] at h;subst h;exact hf.1
 | none::r,k,j+1,x,hf,h=>by
  have:=N5.get (l:=r) (k:=k+1) (j:=j) (x:=x) hf h
  rwa [show k+(j+1)=k+1+j by omega]
 | some y::r,k,j+1,x,hf,h=>by
  have:=N5.get (l:=r) (k:=k+1) (j:=j) (x:=x) hf.2 h
  rwa [show k+(j+1)=k+1+j by omega]
theorem Dj.Yv(h:Dj P t i){j off n:Nat}{ag:Bool}(e:nth i.fl j=some (some (off,ag,n))):MZ P t j off:=⟨by have:=(h.fl.get e).1;rwa [Nat.zero_add] at this⟩
theorem Dj.WE(h:Dj P t i){j off n:Nat}{ag:Bool}(e:nth i.fl j=some (some (off,ag,n))):J9 P t j off ag n:=⟨by have:=(h.fl.get e).2;rwa [Nat.zero_add] at this⟩
end
def Ef(P:Program)(TB:Bw)(Γ:Ctx)(ops:Array Oper)(o:Oper)(fl:Fl)(i n:Nat)(K:Env→Ab→Nat→Prop)(L:List (Nat×E))(σ:Ab)(nx:Nat):Prop:=
 Be ops o (look L)=some true→Br P TB Γ ops o fl i n K L σ nx
def xE:Bool×List C→Option E
 | (false,[c])=>some (.o c)
 | (true,cs)=>some (.a cs)
 | _=>none
def bS(f:Env):Op→Option E
 | .move x=>ev f x
 | .pick c x y=>match ev f c with
  | some (.o (.d (.v (.bool true))))=>ev f x
  | some (.o (.d (.v (.bool false))))=>ev f y
  | _=>none
 | .extract x k=>match ev f x with
  | some (.t xs)=>(xs[k]?).bind xE
  | _=>none
 | .nilCheck x=>match ev f x with
  | some (.o (.d (.p cs)))=>some (.o (.ip cs))
  | some (.o (.ptr id k i j))=>some (.o (.ptr id k i j))
  | some (.o (.fn gg cs))=>some (.o (.fn gg cs))
  | _=>none
 | _=>none
def Zo:IntKind→IntKind→Bool
 | .i64,.i64|.u8,.u8|.u64,.u64|.i32,.i32|.u16,.u16|.u32,.u32=>true
 | _,_=>false
theorem KS{a b:IntKind}(h:Zo a b=true):a=b:=by cases a<;>cases b<;>first|rfl|cases h
def ZJ(o:BinOp)(m n:Int):Option Bool:=match o with
 | .lss=>some (decide (m < n))
 | .leq=>some (decide (m≤n))
 | .gtr=>some (decide (m > n))
 | .geq=>some (decide (m≥n))
 | .eql=>some (decide (m=n))
 | .neq=>some (decide (m≠n))
 | _=>none
def ZI(o:BinOp)(a b:List UInt8):Option Bool:=match o with
 | .eql=>some (decide (a=b))
 | .neq=>some (decide (a≠b))
 | _=>none
def XY(o:BinOp):E→E→Option Bool
 | .o (.d (.v (.int k m))),.o (.d (.v (.int k' n)))=>match Zo k k' with
  | true=>ZJ o m n
  | false=>none
 | .o (.d (.v (.string ⟨⟨a⟩⟩))),.o (.d (.v (.string ⟨⟨b⟩⟩)))=>ZI o a b
 | _,_=>none
def Tm:IntKind→Int→Option Prop
 | .i64,m=>some (-9223372036854775808≤m∧m≤9223372036854775807)
 | .u64,m=>some (0≤m∧m≤18446744073709551615)
 | .u8,m=>some (0≤m∧m≤255)
 | .i32,m=>some (-2147483648≤m∧m≤2147483647)
 | _,_=>none
def cH(o:BinOp)(k:IntKind)(m n:Int):Option (Prop×E):=match o with
 | .add=>(Tm k (m+n)).map fun q=>(q,eI k (m+n))
 | .sub=>(Tm k (m - n)).map fun q=>(q,eI k (m - n))
 | .mul=>(Tm k (m*n)).map fun q=>(q,eI k (m*n))
 | .rem=>some (0≤m∧0 < n,eI k (m % n))
 | .and=>some (True,eI k (PQ k m n))
 | .or=>some (True,eI k (ZT k m n))
 | _=>none
def bM(o:BinOp):E→E→Option (Prop×E)
 | .o (.d (.v (.int k m))),.o (.d (.v (.int k' n)))=>match o with
  | .shr=>some (0≤n,eI k (m.fdiv (2 ^ (min n.toNat k.bits))))
  | .quo=>match Zo k .i64,Zo k' .i64 with
   | true,true=>some ((0≤m∧m≤9223372036854775807)∧0 < n,eI .i64 (m / n))
   | _,_=>none
  | o=>match Zo k k' with
   | true=>cH o k m n
   | false=>none
 | .o (.d (.v (.string ⟨⟨a⟩⟩))),.o (.d (.v (.string ⟨⟨b⟩⟩)))=>match o with
  | .add=>some (a.length+b.length≤9223372036854775807,eT (a++b))
  | _=>none
 | _,_=>none
def Yu(off:Nat):E→Option E
 | .o (.d (.p cs))=>some (.o (.ip (cs.drop off)))
 | .o (.ptr id k i j)=>some (.o (.ptr id k i (j+off)))
 | _=>none
def bX(ag:Bool)(n:Nat):E→Option E
 | .o (.d (.p cs))=>match ag,cs with
  | false,c::_=>some (.o (.d c))
  | true,cs=>match Nat.ble n cs.length with
   | true=>some (.a ((cs.take n).map .d))
   | false=>none
  | _,_=>none
 | _=>none
def ZW(ag:Bool)(n j:Nat)(r:List C):Option E:=match ag with
 | false=>(r[j]?).map .o
 | true=>match Nat.ble (j+n) r.length with
  | true=>some (.a ((r.drop j).take n))
  | false=>none
def bU(ag:Bool)(off n:Nat)(cs:List C):Option E:=match ag with
 | false=>(cs[off]?).map .o
 | true=>match Nat.ble (off+n) cs.length with
  | true=>some (.a ((cs.drop off).take n))
  | false=>none
def bW(k:Nat)(n:Int):E→Option E
 | .o (.d (.p cs))=>some (.o (.ip (cs.drop (n.toNat*k))))
 | .o (.ptr id k' i j)=>some (.o (.ptr id k' i (j+n.toNat*k)))
 | _=>none
def bY(k:Nat):E→Option E
 | .o (.d (.l rows))=>some (eI .i64 rows.length)
 | .o (.arr _ k' _ len)=>match Nat.beq k' k with
  | true=>some (eI .i64 len)
  | false=>none
 | _=>none
def tr:Option E→Option (Prop×E)
 | some e=>some (True,e)
 | none=>none
def YF:Bool→E→E→Option (Prop×E)
 | true,.o (.d (.p _)),.o (.d (.v (.pointer none)))=>some (True,eB false)
 | true,.o (.d (.v (.pointer none))),.o (.d (.v (.pointer none)))=>some (True,eB true)
 | _,_,_=>none
def ZG(pt:Bool)(o:BinOp)(a b:E):Option (Prop×E):=match o with
 | .eql=>YF pt a b
 | o=>bM o a b
def Yw(i:TI):E→E→Option (Prop×E)
 | .o (.arr id k off len),.o (.d (.v (.int _ m)))=>match i.sl with
  | some (_,k',_)=>match Nat.beq k k' with
   | true=>some (0≤m∧m < len,.o (.ptr id k (off+m.toNat) 0))
   | false=>none
  | none=>none
 | a, .o (.d (.v (.int _ m)))=>match i.ar with
  | some (len,k)=>match bW k m a with
   | some e=>some (0≤m∧m < len,e)
   | none=>none
  | none=>none
 | _,_=>none
def YB(i:TI):E→Option E
 | .o (.d (.v (.string ⟨⟨s⟩⟩)))=>match i.st with
  | true=>some (eI .i64 s.length)
  | false=>none
 | e=>match i.sl with
  | some (_,k,_)=>bY k e
  | none=>none
def X0(k k':IntKind):E→Option (Prop×E)
 | .o (.d (.v (.int k2 m)))=>match Zo k2 k,Tm k' m with
  | true,some q=>some (q,eI k' m)
  | _,_=>none
 | _=>none
def Vw(T:List (Nat×TI))(md:Bool)(f:Env):Op→Option (Prop×E)
 | .assign x=>match md,notNil x with
  | true,false=>none
  | _,_=>tr (ev f x)
 | .binOp o t x y _=>match ev f x,ev f y with
  | some a,some b=>ZG (Hj T t).pt o a b
  | _,_=>none
 | .fieldAddr s x k=>match nth (Hj T s).fl k,ev f x with
  | some (some (off,_,_)),some a=>tr (Yu off a)
  | _,_=>none
 | .field t x k=>match nth (Hj T t).fl k,ev f x with
  | some (some (off,ag,n)),some (.a cs)=>tr (bU ag off n cs)
  | _,_=>none
 | .load t x=>match (Hj T t).ld,ev f x with
  | some (ag,n),some a=>tr (bX ag n a)
  | _,_=>none
 | .indexAddr t x y=>match ev f x,ev f y with
  | some a,some b=>Yw (Hj T t) a b
  | _,_=>none
 | .call ⟨.builtin .len,⟨[x]⟩,⟨[t]⟩⟩=>match ev f x with
  | some a=>tr (YB (Hj T t) a)
  | none=>none
 | .convert s t x=>match (Hj T s).ik,(Hj T t).ik,ev f x with
  | some k,some k',some a=>X0 k k' a
  | _,_,_=>none
 | .makeFunc (.func gg) ⟨[]⟩ caps=>match Hz f caps.toList with
  | some es=>match VW es with
   | some cs=>some (True,.o (.fn gg cs))
   | none=>none
  | none=>none
 | op=>tr (bS f op)
def cI:BinOp→E→E→Option Bool
 | .eql,.o (.d (.v (.bool a))),.o (.d (.v (.bool b)))=>some (a == b)
 | .neq,.o (.d (.v (.bool a))),.o (.d (.v (.bool b)))=>some (a != b)
 | _,_,_=>none
def O7(T:List (Nat×TI))(f:Env):Op→Option Bool
 | .binOp o t x y _=>match ev f x,ev f y with
  | some a,some b=>match (Hj T t).bo with
   | true=>cI o a b
   | false=>XY o a b
  | _,_=>none
 | .unOp .not _ x=>match ev f x with
  | some (.o (.d (.v (.bool b))))=>some (!b)
  | _=>none
 | _=>none
def JP(T:List (Nat×TI))(σ:Ab)(f:Env):Op→Option E
 | .load t x=>match (Hj T t).ld,ev f x with
  | some (ag,n),some (.o (.ptr id k i j))=>match look σ id with
   | some (.cells _ k' rows)=>match Nat.beq k k',nth rows i with
    | true,some r=>ZW ag n j r
    | _,_=>none
   | _=>none
  | _,_=>none
 | _=>none
def MM(T:List (Nat×TI))(σ:Ab)(f:Env)(t:Nat)(x y:Operand):Option Ab:=
 match (Hj T t).ld,ev f x,ev f y with
 | some (_,n),some (.o (.ptr id k i j)),some e=>match look σ id with
  | some (.cells ct k' rows)=>match Nat.beq k k',nth rows i with
   | true,some r=>match Og e,Nat.beq (eC e).length n,Nat.ble (j+n) k with
    | true,true,true=>some ((id,.cells ct k (rows.set i (Ai r j (eC e))))::σ)
    | _,_,_=>none
   | _,_=>none
  | _=>none
 | _,_,_=>none
section
variable {P:Program}{TB:Bw}{Γ:Ctx}{d:Option Tmp}{ty:TypeId}{pos:String}{af:Array Edge}{g:Option (Nat×Bool)}{f:Env}{σ:Ab}{nx:Nat}
theorem RV{t:TypeId}{a b:Bool}(he:P.underlying t=some .bool)(w:World):(Op.equal t (.bool a) (.bool b)).run P w=.ok (a == b) w:=by
 unfold Op.equal Op.maxDepth
 rw [show 10000=9999+1 from rfl,Op.equalIn]
 simp [run_underlying he,go_sem]
theorem aw{t yt:TypeId}{x y:Operand}{a b:Bool}[hp:MY P t](hx:ev f x=some (eB a))(hy:ev f y=some (eB b)):AY P TB Γ ⟨d,.binOp .eql t x y yt,ty,pos,af,g⟩ f σ nx (eB (a == b)):=
 Bp hx hy rfl fun w=>by
  have h6:binOp .eql t (.bool a) (.bool b)=(do pure (.bool (←Op.equal t (.bool a) (.bool b)))):=rfl
  have h7:eqGuard .eql t x y (.bool a) (.bool b)=pure ():=rfl
  rw [h6,h7]
  simp [RV hp.out w,go_sem]
theorem aJ{t yt:TypeId}{x y:Operand}{a b:Bool}[hp:MY P t](hx:ev f x=some (eB a))(hy:ev f y=some (eB b)):AY P TB Γ ⟨d,.binOp .neq t x y yt,ty,pos,af,g⟩ f σ nx (eB (a != b)):=
 Bp hx hy rfl fun w=>by
  have h6:binOp .neq t (.bool a) (.bool b)=(do pure (.bool (!(←Op.equal t (.bool a) (.bool b))))):=rfl
  have h7:eqGuard .neq t x y (.bool a) (.bool b)=pure ():=rfl
  rw [h6,h7]
  simp [RV hp.out w,go_sem,bne]
theorem dh{op:Op}{e:E}(h:bS f op=some e):AY P TB Γ ⟨d,op,ty,pos,af,g⟩ f σ nx e:=by
 unfold bS at h
 split at h
 ·exact YW h
 ·split at h
  ·rename_i h1;exact Xg h1 h
  ·rename_i h1;exact Xf h1 h
  ·cases h
 ·split at h
  ·rename_i h1
   refine Tf h1 ?_
   rw [←h]
   congr 1
  ·cases h
 ·split at h
  ·rename_i h1;injection h with h;subst h;exact Xe h1
  ·rename_i h1;injection h with h;subst h;exact YX h1
  ·rename_i h1;injection h with h;subst h;exact Xc h1
  ·cases h
 ·cases h
theorem av{o:BinOp}{t yt:TypeId}{x y:Operand}{ex ey:E}{c:Bool}(hx:ev f x=some ex)(hy:ev f y=some ey)(hc:XY o ex ey=some c) :
 AY P TB Γ ⟨d,.binOp o t x y yt,ty,pos,af,g⟩ f σ nx (eB c):=by
 unfold XY at hc
 split at hc
 ·split at hc
  ·rename_i hk
   have hk:=KS hk
   subst hk
   unfold ZJ at hc
   split at hc<;>first|(injection hc with hc;subst hc)|cases hc
   ·exact aH hx hy
   ·exact aG hx hy
   ·exact aD hx hy
   ·exact aA hx hy
   ·exact ay hx hy
   ·exact aN hx hy
  ·cases hc
 ·unfold ZI at hc
  split at hc<;>first|(injection hc with hc;subst hc)|cases hc
  ·exact ax hx hy
  ·exact aM hx hy
 ·cases hc
theorem NJ{k:IntKind}{m:Int}{q:Prop}(h:Tm k m=some q)(hq:q):k.wrap m=m:=by
 unfold Tm at h
 split at h<;>first|(injection h with h;subst h)|cases h
 ·exact IntWalk.i64_in _ hq
 ·exact IntWalk.u64_in _ hq
 ·exact IntWalk.u8_in _ hq
 ·exact IntWalk.i32_in _ hq
theorem cf{o:BinOp}{t yt:TypeId}{x y:Operand}{ex ey e:E}{q:Prop}(hx:ev f x=some ex)(hy:ev f y=some ey)(hc:bM o ex ey=some (q,e))(hq:q) :
 AY P TB Γ ⟨d,.binOp o t x y yt,ty,pos,af,g⟩ f σ nx e:=by
 unfold bM at hc
 split at hc
 ·split at hc
  ·injection hc with hc;injection hc with h1 h2;subst h1;subst h2;exact aV hx hy hq rfl
  ·split at hc
   ·rename_i hk hk'
    have hk:=KS hk
    have hk':=KS hk'
    subst hk;subst hk'
    injection hc with hc;injection hc with h1 h2;subst h1;subst h2;exact YY hx hy hq.1.1 hq.1.2 hq.2
   ·cases hc
  ·split at hc
   ·rename_i hk
    have hk:=KS hk
    subst hk
    unfold cH at hc
    split at hc
    ·obtain⟨q',hr,he⟩:=Option.map_eq_some_iff.1 hc
     injection he with h1 h2;subst h1;subst h2;exact ao hx hy (NJ hr hq)
    ·obtain⟨q',hr,he⟩:=Option.map_eq_some_iff.1 hc
     injection he with h1 h2;subst h1;subst h2;exact aW hx hy (NJ hr hq)
    ·obtain⟨q',hr,he⟩:=Option.map_eq_some_iff.1 hc
     injection he with h1 h2;subst h1;subst h2;exact aI hx hy (NJ hr hq)
    ·injection hc with hc;injection hc with h1 h2;subst h1;subst h2;exact YZ hx hy hq.1 hq.2
    ·injection hc with hc;injection hc with h1 h2;subst h2;exact aq hx hy rfl
    ·injection hc with hc;injection hc with h1 h2;subst h2;exact cq hx hy rfl
    ·cases hc
   ·cases hc
 ·split at hc
  ·injection hc with hc;injection hc with h1 h2;subst h1;subst h2;exact XI hx hy hq
  ·cases hc
 ·cases hc
theorem az{s k off:Nat}{x:Operand}{ex e:E}[hf:MZ P s k off](hx:ev f x=some ex)(h:Yu off ex=some e):AY P TB Γ ⟨d,.fieldAddr s x k,ty,pos,af,g⟩ f σ nx e:=by
 unfold Yu at h
 split at h<;>first|(injection h with h;subst h)|cases h
 ·exact Tg hx
 ·exact Vi hx
theorem cp{t:TypeId}{x:Operand}{ex e:E}{ag:Bool}{n:Nat}[hl:DM P t ag n](hx:ev f x=some ex)(h:bX ag n ex=some e):AY P TB Γ ⟨d,.load t x,ty,pos,af,g⟩ f σ nx e:=by
 unfold bX at h
 split at h
 ·split at h
  ·injection h with h;subst h;exact O4 hx
  ·split at h
   ·rename_i hb;injection h with h;subst h;exact Ti hx (Nat.le_of_ble_eq_true hb)
   ·cases h
  ·cases h
 ·cases h
theorem Vo{t:TypeId}{x:Operand}{id k i j:Nat}{T:TypeId}{rows:List (List C)}{r:List C}{e:E}{ag:Bool}{n:Nat}[hl:DM P t ag n](hx:ev f x=some (.o (.ptr id k i j)))(ho:look σ id=some (.cells T k rows))(hr:rows[i]? = some r)
 (h:ZW ag n j r=some e):AY P TB Γ ⟨d,.load t x,ty,pos,af,g⟩ f σ nx e:=by
 unfold ZW at h
 split at h
 ·obtain⟨c,hc,he⟩:=Option.map_eq_some_iff.1 h
  subst he
  exact RH hx ho hr hc
 ·split at h
  ·rename_i hb;injection h with h;subst h;exact Vq hx ho hr (Nat.le_of_ble_eq_true hb)
  ·cases h
theorem cm{t:TypeId}{x:Operand}{k off n:Nat}{ag:Bool}{cs:List C}{e:E}[hf:J9 P t k off ag n](hx:ev f x=some (.a cs))(h:bU ag off n cs=some e):AY P TB Γ ⟨d,.field t x k,ty,pos,af,g⟩ f σ nx e:=by
 unfold bU at h
 split at h
 ·obtain⟨c,hc,he⟩:=Option.map_eq_some_iff.1 h
  subst he
  exact WZ hx hc
 ·split at h
  ·rename_i hb;injection h with h;subst h;exact U9 hx (Nat.le_of_ble_eq_true hb)
  ·cases h
theorem cn{t:TypeId}{x y:Operand}{ex e:E}{n:Int}{len k:Nat}{ik:IntKind}[hl:QN P t len k](hx:ev f x=some ex)(hy:ev f y=some (eI ik n))(h:bW k n ex=some e)(hn:0≤n∧n < len) :
 AY P TB Γ ⟨d,.indexAddr t x y,ty,pos,af,g⟩ f σ nx e:=by
 unfold bW at h
 split at h<;>first|(injection h with h;subst h)|cases h
 ·exact Th hx hy hn.1 hn.2
 ·exact Vl hx hy hn.1 hn.2
theorem aF{t e:TypeId}{x:Operand}{ex r:E}{k b:Nat}[hl:B3 P t e k b](hx:ev f x=some ex)(h:bY k ex=some r):AY P TB Γ ⟨d,.call ⟨.builtin .len,#[x],#[t]⟩,ty,pos,af,g⟩ f σ nx r:=by
 unfold bY at h
 split at h
 ·injection h with h;subst h;exact Vp hx
 ·split at h
  ·injection h with h;subst h;exact YS hx
  ·cases h
 ·cases h
theorem Jy{x:Option E}{q:Prop}{e:E}(h:tr x=some (q,e)):x=some e:=by
 cases x with
 | none=>cases h
 | some y=>injection h with h;injection h with _ h;rw [h]
theorem YC{i:TI}{t:TypeId}{x:Operand}{a e:E}(hi:Dj P t i)(hx:ev f x=some a)(h:YB i a=some e):AY P TB Γ ⟨d,.call ⟨.builtin .len,#[x],#[t]⟩,ty,pos,af,g⟩ f σ nx e:=by
 unfold YB at h
 split at h
 ·split at h
  ·rename_i hs
   injection h with h;subst h
   haveI:=hi.Uq hs
   exact YV hx
  ·cases h
 ·split at h
  ·rename_i hs
   haveI:=hi.Oo hs
   exact aF hx h
  ·cases h
theorem Yy{i:TI}{t:TypeId}{x y:Operand}{a b e:E}{q:Prop}(hi:Dj P t i)(hx:ev f x=some a)(hy:ev f y=some b)(h:Yw i a b=some (q,e))(hq:q):AY P TB Γ ⟨d,.indexAddr t x y,ty,pos,af,g⟩ f σ nx e:=by
 unfold Yw at h
 split at h
 ·split at h
  ·rename_i hs
   split at h
   ·rename_i hk
    injection h with h;injection h with h1 h2;subst h1;subst h2
    have:=Nat.eq_of_beq_eq_true hk
    subst this
    haveI:=hi.Oo hs
    exact Vj hx hy hq.1 hq.2
   ·cases h
  ·cases h
 ·split at h
  ·rename_i hs
   split at h
   ·rename_i hv
    injection h with h;injection h with h1 h2;subst h1;subst h2
    haveI:=hi.ZS hs
    exact cn hx hy hv hq
   ·cases h
  ·cases h
 ·cases h
theorem YG{i:TI}{t yt:TypeId}{x y:Operand}{a b e:E}{q:Prop}(hi:Dj P t i)(hx:ev f x=some a)(hy:ev f y=some b)(h:YF i.pt a b=some (q,e)):AY P TB Γ ⟨d,.binOp .eql t x y yt,ty,pos,af,g⟩ f σ nx e:=by
 unfold YF at h
 split at h
 ·rename_i hp
  injection h with h;injection h with h1 h2;subst h2
  haveI:=hi.Up hp
  exact Te hx hy
 ·rename_i hp
  injection h with h;injection h with h1 h2;subst h2
  haveI:=hi.Up hp
  exact Qn hx hy
 ·cases h
theorem X6{i i':TI}{s t:TypeId}{k k':IntKind}{x:Operand}{a e:E}{q:Prop}(hi:Dj P s i)(hi':Dj P t i')(hk:i.ik=some k)(hk':i'.ik=some k')(hx:ev f x=some a)(h:X0 k k' a=some (q,e))(hq:q):AY P TB Γ ⟨d,.convert s t x,ty,pos,af,g⟩ f σ nx e:=by
 unfold X0 at h
 split at h
 ·split at h
  ·rename_i h1 hr
   injection h with h;injection h with h2 h3;subst h2;subst h3
   have h1:=KS h1
   subst h1
   haveI:=hi.Uo hk
   haveI:=hi'.Uo hk'
   exact YR hx (NJ hr hq)
  ·cases h
 ·cases h
theorem RR[hT:B7 P]{md:Bool}{op:Op}{q:Prop}{e:E}(h:Vw hT.T md f op=some (q,e))(hq:q):AY P TB Γ ⟨d,op,ty,pos,af,g⟩ f σ nx e:=by
 have hty:=fun t=>CL (P:=P) t hT.ok
 unfold Vw at h
 split at h
 ·split at h
  ·cases h
  ·exact CT (Jy h)
 ·rename_i o t x y yt
  split at h
  ·rename_i hx hy
   unfold ZG at h
   split at h
   ·exact YG (hty t) hx hy h
   ·exact cf hx hy h hq
  ·cases h
 ·rename_i s x k
  split at h
  ·rename_i hf hx
   haveI:=(hty s).Yv hf
   exact az hx (Jy h)
  ·cases h
 ·rename_i t x k
  split at h
  ·rename_i hf hx
   haveI:=(hty t).WE hf
   exact cm hx (Jy h)
  ·cases h
 ·rename_i t x
  split at h
  ·rename_i hl hx
   haveI:=(hty t).JI hl
   exact cp hx (Jy h)
  ·cases h
 ·rename_i t x y
  split at h
  ·rename_i hx hy
   exact Yy (hty t) hx hy h hq
  ·cases h
 ·rename_i x t
  split at h
  ·rename_i hx
   exact YC (hty t) hx (Jy h)
  ·cases h
 ·rename_i s t x
  split at h
  ·rename_i h1 h2 hx
   exact X6 (hty s) (hty t) h1 h2 hx h hq
  ·cases h
 ·split at h
  ·rename_i h1
   split at h
   ·rename_i h2
    injection h with h;injection h with _ h;subst h
    exact cg h1 h2
   ·cases h
  ·cases h
 ·exact dh (Jy h)
theorem O8[hT:B7 P]{op:Op}{c:Bool}(h:O7 hT.T f op=some c):AY P TB Γ ⟨d,op,ty,pos,af,g⟩ f σ nx (eB c):=by
 have hty:=fun t=>CL (P:=P) t hT.ok
 unfold O7 at h
 split at h
 ·rename_i o t x y yt
  split at h
  ·rename_i hx hy
   split at h
   ·rename_i hb
    haveI:=(hty t).WD hb
    unfold cI at h
    split at h
    ·injection h with h;subst h;exact aw hx hy
    ·injection h with h;subst h;exact aJ hx hy
    ·cases h
   ·exact av hx hy h
  ·cases h
 ·split at h
  ·rename_i hx
   injection h with h;subst h
   exact aO hx
  ·cases h
 ·cases h
theorem Li[hT:B7 P]{op:Op}{e:E}(h:JP hT.T σ f op=some e):AY P TB Γ ⟨d,op,ty,pos,af,g⟩ f σ nx e:=by
 have hty:=fun t=>CL (P:=P) t hT.ok
 unfold JP at h
 split at h
 ·rename_i t x
  split at h
  ·rename_i hl hx
   split at h
   ·rename_i ho
    split at h
    ·rename_i hk hr
     have hk:=Nat.eq_of_beq_eq_true hk
     subst hk
     haveI:=(hty t).JI hl
     rw [Ko] at hr
     exact Vo hx ho hr h
    ·cases h
   ·cases h
  ·cases h
 ·cases h
theorem Lj[hT:B7 P]{t:TypeId}{x y:Operand}{σ':Ab}{K:E→Ab→Nat→Prop}(h:MM hT.T σ f t x y=some σ')(hK:K (.t []) σ' nx):B2 P TB Γ ⟨d,.store t x y,ty,pos,af,g⟩ f σ nx K:=by
 have hty:=fun t=>CL (P:=P) t hT.ok
 unfold MM at h
 split at h
 ·rename_i hl hx hy
  split at h
  ·rename_i ho
   split at h
   ·rename_i hk hr
    split at h
    ·rename_i h1 h2 h3
     have hk:=Nat.eq_of_beq_eq_true hk
     subst hk
     haveI:=(hty t).JI hl
     rw [Ko] at hr
     injection h with h
     subst h
     exact Ix hx hy h1 ho hr (Nat.eq_of_beq_eq_true h2) (Nat.le_of_ble_eq_true h3) hK
    ·cases h
   ·cases h
  ·cases h
 ·cases h
end
section
variable {P:Program}{TB:Bw}{Γ:Ctx}{ops:Array Oper}{fl:Fl}{i n:Nat}{L:List (Nat×E)}{σ:Ab}{nx:Nat}{K:Env→Ab→Nat→Prop}{d:Tmp}{ty:TypeId}{pos:String}{af:Array Edge}{g:Option (Nat×Bool)}{op:Op}
theorem gA{d:Option Tmp}(hg:Be ops ⟨d,op,ty,pos,af,g⟩ (look L)=some true)(h:Ef P TB Γ ops ⟨d,op,ty,pos,af,g⟩ fl i n K L σ nx):Br P TB Γ ops ⟨d,op,ty,pos,af,g⟩ fl i n K L σ nx:=h hg
theorem gS{x:E}(hq:∀σ nx,AY P TB Γ ⟨some d,op,ty,pos,af,g⟩ (look L) σ nx x)(h:Lex P TB Γ ops (Af fl (i+1) n) K (look ((d,x)::L)) σ nx):Ef P TB Γ ops ⟨some d,op,ty,pos,af,g⟩ fl i n K L σ nx:=fun hg=>Cq hq hg h
theorem gQ{x:E}(hq:AY P TB Γ ⟨some d,op,ty,pos,af,g⟩ (look L) σ nx x)(hf:Nd (fl i)=true)(h:Lex P TB Γ ops (Af fl (i+1) n) K (look ((d,x)::L)) σ nx):Ef P TB Γ ops ⟨some d,op,ty,pos,af,g⟩ fl i n K L σ nx:=fun hg=>WY hq hg hf h
theorem gB{c:Bool}(hq:∀σ nx,AY P TB Γ ⟨some d,op,ty,pos,af,g⟩ (look L) σ nx (eB c))(h:∀b,c=b→Lex P TB Γ ops (Af fl (i+1) n) K (look ((d,eB b)::L)) σ nx):Ef P TB Γ ops ⟨some d,op,ty,pos,af,g⟩ fl i n K L σ nx:=fun hg=>Td hq hg h
theorem cL{c:Bool}(hq:AY P TB Γ ⟨some d,op,ty,pos,af,g⟩ (look L) σ nx (eB c))(hf:Nd (fl i)=true)(h:∀b,c=b→Lex P TB Γ ops (Af fl (i+1) n) K (look ((d,eB b)::L)) σ nx):Ef P TB Γ ops ⟨some d,op,ty,pos,af,g⟩ fl i n K L σ nx:=fun hg=>WY hq hg hf (h c rfl)
theorem gW(h:B2 P TB Γ ⟨some d,op,ty,pos,af,g⟩ (look L) σ nx (fun x σ' nx'=>Lex P TB Γ ops (Af fl (i+1) n) K (look ((d,x)::L)) σ' nx'))(hf:fl i=1):Ef P TB Γ ops ⟨some d,op,ty,pos,af,g⟩ fl i n K L σ nx:=fun hg=>Mf h hg hf
theorem cM(h:B2 P TB Γ ⟨none,op,ty,pos,af,g⟩ (look L) σ nx (fun _ σ' nx'=>Lex P TB Γ ops (Af fl (i+1) n) K (look L) σ' nx'))(hf:fl i=1):Ef P TB Γ ops ⟨none,op,ty,pos,af,g⟩ fl i n K L σ nx:=fun hg=>Hq h hg hf
theorem yQ{md:Bool}[hT:B7 P]{q:Prop}{x:E}(h:Vw hT.T md (look L) op=some (q,x))(hq:q)(hk:Lex P TB Γ ops (Af fl (i+1) n) K (look ((d,x)::L)) σ nx):Ef P TB Γ ops ⟨some d,op,ty,pos,af,g⟩ fl i n K L σ nx:=gS (fun _ _=>RR h hq) hk
theorem yB[hT:B7 P]{c:Bool}(h:O7 hT.T (look L) op=some c)(hk:∀b,c=b→Lex P TB Γ ops (Af fl (i+1) n) K (look ((d,eB b)::L)) σ nx):Ef P TB Γ ops ⟨some d,op,ty,pos,af,g⟩ fl i n K L σ nx:=gB (fun _ _=>O8 h) hk
theorem yS[hT:B7 P]{x:E}(h:JP hT.T σ (look L) op=some x)(hf:Nd (fl i)=true)(hk:Lex P TB Γ ops (Af fl (i+1) n) K (look ((d,x)::L)) σ nx):Ef P TB Γ ops ⟨some d,op,ty,pos,af,g⟩ fl i n K L σ nx:=gQ (Li h) hf hk
theorem yW[hT:B7 P]{t:TypeId}{x y:Operand}{σ':Ab}(h:MM hT.T σ (look L) t x y=some σ')(hf:fl i=1)(hk:Lex P TB Γ ops (Af fl (i+1) n) K (look L) σ' nx):Ef P TB Γ ops ⟨none,.store t x y,ty,pos,af,g⟩ fl i n K L σ nx:=cM (Lj h hk) hf
theorem yO[hT:B7 P]{T:TypeId}{z:List Value}(h:(Hj hT.T T).ze=some z)(hok:z.all Ml=true)(hf:fl i=1)(hK:Lex P TB Γ ops (Af fl (i+1) n) K (look ((d,.o (.ptr nx z.length 0 0))::L)) ((nx,.cells T z.length [z.map zC])::σ) (nx+1)):Ef P TB Γ ops ⟨some d,.alloc T,ty,pos,af,g⟩ fl i n K L σ nx:=
 haveI:=(CL (P:=P) T hT.ok).Ur h
 gW (WO hok hK) hf
theorem yM[hT:B7 P]{t:TypeId}{x:Operand}{id k i' j:Nat}{T:TypeId}{rows:List (List C)}{r:List C}{e:E}{ag:Bool}{m:Nat}(hx:ev (look L) x=some (.o (.ptr id k i' j)))(ho:look σ id=some (.cells T k rows))(hr:rows[i']? = some r)(hl:(Hj hT.T t).ld=some (ag,m))
 (h:ZW ag m j r=some e) (hf:Nd (fl i)=true) (hk:Lex P TB Γ ops (Af fl (i+1) n) K (look ((d,e)::L)) σ nx):Ef P TB Γ ops ⟨some d,.load t x,ty,pos,af,g⟩ fl i n K L σ nx:=
 haveI:=(CL (P:=P) t hT.ok).JI hl
 gQ (Vo hx ho hr h) hf hk
theorem yV[hT:B7 P]{t:TypeId}{x y:Operand}{id k i' j m:Nat}{T:TypeId}{rows:List (List C)}{r:List C}{e:E}{ag:Bool}(hx:ev (look L) x=some (.o (.ptr id k i' j)))(hy:ev (look L) y=some e)(ho:Og e=true)(hlk:look σ id=some (.cells T k rows))(hr:rows[i']? = some r)
 (hl:(Hj hT.T t).ld=some (ag,m)) (hn:(eC e).length=m) (hj:Nat.ble (j+m) k=true) (hf:fl i=1) (hk:Lex P TB Γ ops (Af fl (i+1) n) K (look L) ((id,.cells T k (rows.set i' (Ai r j (eC e))))::σ) nx):Ef P TB Γ ops ⟨none,.store t x y,ty,pos,af,g⟩ fl i n K L σ nx:=
 haveI:=(CL (P:=P) t hT.ok).JI hl
 cM (Ix hx hy ho hlk hr hn (Nat.le_of_ble_eq_true hj) hk) hf
theorem dm[hT:B7 P]{α:Type}{t e:TypeId}{x:Operand}{l:List α}{g1:α→List D}{k b:Nat}(hx:ev (look L) x=some (.o (.d (.l (l.map g1)))))(hl:(Hj hT.T t).sl=some (e,k,b))(hk:Lex P TB Γ ops (Af fl (i+1) n) K (look ((d,eI .i64 l.length)::L)) σ nx):Ef P TB Γ ops ⟨some d,.call ⟨.builtin .len,#[x],#[t]⟩,ty,pos,af,g⟩ fl i n K L σ nx:=
 haveI:=(CL (P:=P) t hT.ok).Oo hl
 gS (fun _ _=>YT hx) hk
theorem yL[hT:B7 P]{t e:TypeId}{x y:Operand}{rows:List (List D)}{row:List D}{m:Int}{k b:Nat}{ik:IntKind}(hx:ev (look L) x=some (.o (.d (.l rows))))(hy:ev (look L) y=some (eI ik m))(hr:rows[m.toNat]? = some row)(hl:(Hj hT.T t).sl=some (e,k,b))(hn:row.length=k)(h0:0≤m)
 (hk:Lex P TB Γ ops (Af fl (i+1) n) K (look ((d,.o (.ip row))::L)) σ nx):Ef P TB Γ ops ⟨some d,.indexAddr t x y,ty,pos,af,g⟩ fl i n K L σ nx:=
 haveI:=(CL (P:=P) t hT.ok).Oo hl
 gS (fun _ _=>Vk hx hy h0 hr hn) hk
theorem yT[hT:B7 P]{t:TypeId}{x y:Operand}{s:List UInt8}{m:Int}{c:UInt8}{ik:IntKind}(hx:ev (look L) x=some (eT s))(hy:ev (look L) y=some (eI ik m))(hc:s[m.toNat]? = some c)(hl:(Hj hT.T t).st=true)(h0:0≤m)
 (hk:Lex P TB Γ ops (Af fl (i+1) n) K (look ((d,eI .u8 (c.toNat:Int))::L)) σ nx):Ef P TB Γ ops ⟨some d,.index t x y,ty,pos,af,g⟩ fl i n K L σ nx:=
 haveI:=(CL (P:=P) t hT.ok).Uq hl
 gS (fun _ _=>Vn hx hy h0 hc) hk
def cr(k m:Nat)(z:List Value)(es:List E):Option (List (List D)):=match es.all Og,Lz es with
 | true,some rows=>match rows.all fun r=>Nat.beq r.length k,Nat.beq z.length k,z.all Ml,Nat.ble 1 k,Nat.ble (m*k) 16777216 with
  | true,true,true,true,true=>some rows
  | _,_,_,_,_=>none
 | _,_=>none
theorem yZ[hT:B7 P]{t e:TypeId}{k b m:Nat}{z:List Value}{parts:Array (Nat×Operand)}{es:List E}{rows:List (List D)}(hl:(Hj hT.T t).sl=some (e,k,b))(hz:(Hj hT.T e).ze=some z)(hp:Cm 0 (parts.toList.map (·.2))=parts.toList)(hn:parts.toList.length=m)
 (hes:Hz (look L) (parts.toList.map (·.2))=some es) (hv:cr k m z es=some rows)
 (h:Lex P TB Γ ops (Af fl (i+1) n) K (look ((d,.o (.d (.l rows)))::L)) σ nx):Ef P TB Γ ops ⟨some d,.buildSlice t m parts,ty,pos,af,g⟩ fl i n K L σ nx:=by
 haveI:=(CL (P:=P) t hT.ok).Oo hl
 haveI:=(CL (P:=P) e hT.ok).Ur hz
 unfold cr at hv
 split at hv
 ·rename_i h1 h2
  split at hv
  ·rename_i h3 h4 h5 h6 h7
   injection hv with hv
   subst hv
   exact gS (fun _ _=>Lf hp hn hes h1 h2 h3 (Nat.eq_of_beq_eq_true h4) h5 h6 h7) h
  ·cases hv
 ·cases hv
theorem yY{T:TypeId}{x:Operand}{e:E}{ds:List D}(hx:ev (look L) x=some e)(ho:Og e=true)(hd:Mk (eC e)=some ds)(h:Lex P TB Γ ops (Af fl (i+1) n) K (look ((d,.o (.ip ds))::L)) σ nx):Ef P TB Γ ops ⟨some d,.box T x,ty,pos,af,g⟩ fl i n K L σ nx:=gS (fun _ _=>Cw hx ho hd) h
def WS:Nat→List (Nat×Operand)→Bool
 | _,[]=>true
 | k,(i,_)::r=>Nat.beq i k && WS (k+1) r
theorem RD:∀(l:List (Nat×Operand)) (k:Nat),WS k l=true→Cm k (l.map (·.2))=l
 | [],_,_=>rfl
 | (i,x)::r,k,h=>by
  unfold WS at h
  rw [Bool.and_eq_true] at h
  have h1:=Nat.eq_of_beq_eq_true h.1
  subst h1
  have:=RD r (i+1) h.2
  simp [Cm,this]
def WU(c:Nat):Option E→Bool
 | some (.o (.ptr id _ _ _))=>Nd c || (Nat.beq c (10+id) && !Nat.ble 1000 c)
 | _=>Nd c
theorem Vx{T:List (Nat×TI)}{σ σ':Ab}{f:Env}{t:TypeId}{x:Operand}{id k i j:Nat}(hx:ev f x=some (.o (.ptr id k i j)))(h:look σ' id=look σ id):JP T σ' f (.load t x)=JP T σ f (.load t x):=by
 unfold JP
 simp only [hx]
 cases (Hj T t).ld with
 | none=>rfl
 | some p=>obtain⟨ag,n⟩:=p;simp only [h]
def RQ(T:List (Nat×TI))(sl:Bool)(c nx:Nat)(σ:Ab)(L:List (Nat×E)):Option Tmp→Op→Option (List (Nat×E)×Ab×Nat)
 | some d,.alloc t=>match Nat.beq c 1,(Hj T t).ze with
  | true,some z=>match z.all Ml with
   | true=>some ((d,.o (.ptr nx z.length 0 0))::L,(nx,.cells t z.length [z.map zC])::σ,nx+1)
   | false=>none
  | _,_=>none
 | none,.store t x y=>match Nat.beq c 1,MM T σ (look L) t x y with
  | true,some σ'=>some (L,σ',nx)
  | _,_=>none
 | some d,.load t x=>match WU c (ev (look L) x),JP T σ (look L) (.load t x) with
  | true,some e=>some ((d,e)::L,σ,nx)
  | _,_=>none
 | some d,.box _ x=>match sl,ev (look L) x with
  | true,some e=>match Og e,Mk (eC e) with
   | true,some ds=>some ((d,.o (.ip ds))::L,σ,nx)
   | _,_=>none
  | _,_=>none
 | some d,.buildSlice t m parts=>match sl,(Hj T t).sl with
  | true,some (e,k,_)=>match (Hj T e).ze,Hz (look L) (parts.toList.map (·.2)) with
   | some z,some es=>match cr k m z es,WS 0 parts.toList,Nat.beq parts.toList.length m with
    | some rows,true,true=>some ((d,.o (.d (.l rows)))::L,σ,nx)
    | _,_,_=>none
   | _,_=>none
  | _,_=>none
 | _,_=>none
theorem yU[hT:B7 P]{sl:Bool}{d:Option Tmp}{L':List (Nat×E)}{σ':Ab}{nx':Nat}(h:RQ hT.T sl (fl i) nx σ L d op=some (L',σ',nx'))(hk:Lex P TB Γ ops (Af fl (i+1) n) K (look L') σ' nx'):Ef P TB Γ ops ⟨d,op,ty,pos,af,g⟩ fl i n K L σ nx:=by
 unfold RQ at h
 split at h
 ·split at h
  ·rename_i h1 h2
   split at h
   ·rename_i h3
    injection h with h;injection h with e1 h;injection h with e2 e3;subst e1;subst e2;subst e3
    exact yO h2 h3 (Nat.eq_of_beq_eq_true h1) hk
   ·cases h
  ·cases h
 ·split at h
  ·rename_i h1 h2
   injection h with h;injection h with e1 h;injection h with e2 e3;subst e1;subst e2;subst e3
   exact yW h2 (Nat.eq_of_beq_eq_true h1) hk
  ·cases h
 ·split at h
  ·rename_i h1 h2
   injection h with h;injection h with e1 h;injection h with e2 e3;subst e1;subst e2;subst e3
   unfold WU at h1
   split at h1
   ·rename_i hx
    rw [Bool.or_eq_true] at h1
    rcases h1 with h1|h1
    ·exact yS h2 h1 hk
    ·rw [Bool.and_eq_true] at h1
     have h3:=Nat.eq_of_beq_eq_true h1.1
     refine fun hg=>ah (fun σ' nx' hs=>Li (by rw [h3,Nat.add_sub_cancel_left] at hs;rw [Vx (σ:=σ) (σ':=σ') hx hs];exact h2)) hg ⟨Nat.ble_eq_true_of_le (by omega),by simpa using h1.2⟩ hk
   ·exact yS h2 h1 hk
  ·cases h
 ·split at h
  ·rename_i h1
   split at h
   ·rename_i h2 h3
    injection h with h;injection h with e1 h;injection h with e2 e3;subst e1;subst e2;subst e3
    exact yY h1 h2 h3 hk
   ·cases h
  ·cases h
 ·split at h
  ·rename_i h1
   split at h
   ·rename_i h2 h3
    split at h
    ·rename_i h4 h5 h6
     injection h with h;injection h with e1 h;injection h with e2 e3;subst e1;subst e2;subst e3
     exact yZ h1 h2 (RD _ _ h5) (Nat.eq_of_beq_eq_true h6) h3 h4 hk
    ·cases h
   ·cases h
  ·cases h
 ·cases h
theorem yP{x:Operand}{args:Array Operand}{tys:Array TypeId}{gg:FuncId}{cap:List C}{es:List E}{r:E}(hx:ev (look L) x=some (.o (.fn gg cap)))(hes:Hz (look L) args.toList=some es)(hp:(es.all E.BK && C.Cr cap)=true)
 (hs:Pure P TB gg (es++cap.map .o) r) (hr:r.BK=true) (h:Lex P TB Γ ops (Af fl (i+1) n) K (look ((d,r)::L)) σ nx):Ef P TB Γ ops ⟨some d,.call ⟨.value x,args,tys⟩,ty,pos,af,g⟩ fl i n K L σ nx:=gS (fun _ _=>BE hx hes hp hs hr) h
theorem yC{x:Operand}{args:Array Operand}{tys:Array TypeId}{gg:FuncId}{cap:List C}{es:List E}{c:Bool}(hx:ev (look L) x=some (.o (.fn gg cap)))(hes:Hz (look L) args.toList=some es)(hp:(es.all E.BK && C.Cr cap)=true)
 (hs:Pure P TB gg (es++cap.map .o) (eB c)) (h:∀b,c=b→Lex P TB Γ ops (Af fl (i+1) n) K (look ((d,eB b)::L)) σ nx):Ef P TB Γ ops ⟨some d,.call ⟨.value x,args,tys⟩,ty,pos,af,g⟩ fl i n K L σ nx:=gB (fun _ _=>BE hx hes hp hs rfl) h
theorem yG{d:Option Tmp}{j t:Nat}{w b:Bool}(_hd:(ops[j]?).bind (·.dst)=some t)(_hv:look L t=some (eB b))
 (hT:b=true→Lex P TB Γ ops (Af fl i (n+1)) K (look L) σ nx) (hF:b=false→Lex P TB Γ ops (Af fl i (n+1)) K (look L) σ nx):Br P TB Γ ops ⟨d,op,ty,pos,af,some (j,w)⟩ fl i n K L σ nx:=by
 intro _
 cases b
 ·exact hF rfl
 ·exact hT rfl
end
end Go.Am
namespace Go.Am
open Go Go.ChangeShapes Go.WideShapes Go.RowKit
def below(w:World)(b:Nat):Prop:=b < w.heap.size
def Rd{α:Type}(P:Program)(w:World)(t:TypeId)(k:Nat)(f:α→List D):Prop:=
 ∀ {H:Type} (enc:TypeId×Value→H) (fuel:Nat) (cs:List Value) (x:DataW H×List MemPlace),DataW.trod enc P w 0 (fun _=>true) true fuel t cs=some x→
  ∃y:α,cs.length=k∧(f y).length=k∧∀(j:Nat) c d,cs[j]? = some c→(f y)[j]? = some d→Cn (below w) w d c
section
variable {P:Program}{w:World}{t e:TypeId}{k:Nat}
theorem IA{c0:Value}{d0:D}(h:Cn (below w) w d0 c0):∀(j:Nat) c d,[c0][j]? = some c→[d0][j]? = some d→Cn (below w) w d c:=by
 intro j c d hc hd
 match j with
 | 0=>simp at hc hd;subst hc;subst hd;exact h
 | j+1=>simp at hc
theorem cQ(ht:P.underlying t=some (.int .u8)):Rd P w t 1 (fun n:UInt8=>[.v (.int .u8 n.toNat)]):=fun enc fuel cs x hx=>by
 obtain⟨n,rfl,_,hw⟩:=DataW.trod_int ht hx
 have hb:=bounds_u8 hw
 refine⟨UInt8.ofNat n.toNat,rfl,rfl,IA ?_⟩
 have:((UInt8.ofNat n.toNat).toNat:Int)=n:=by
  simp
  omega
 rw [this]
 exact .v rfl
theorem Mr{a:Addr}{n:Nat}{cs:List Value}(h:w.cells? 0 a n=some cs):cs.length=n∧∀(j:Nat) c,cs[j]? = some c→w.cell? (a.add j)=some c:=by
 unfold World.cells? at h
 rw [if_pos (Nat.zero_le _)] at h
 have hl:=mapM_some_length h
 simp at hl
 refine⟨hl,fun j c hc=>?_⟩
 have hlt:=(List.getElem?_eq_some_iff.1 hc).1
 have:=mapM_some_get h j j (by rw [List.getElem?_range (by omega)])
 rw [this];exact hc
theorem aZ{α:Type}{f:α→List D}(ht:P.underlying t=some (.slice e))(hk:P.cellsOf e=k)(h0:0 < k)(hf:Rd P w e k f):Rd P w t 1 (fun l:List α=>[.l (l.map f)]):=fun enc fuel cs x hx=>by
 rcases DataW.trod_slice ht hx with ⟨rfl,_⟩|⟨a,len,cap,elems,rest,n,rfl,rfl,_,_,hlc,hcm,hel,hget,_,_⟩
 ·exact⟨[],rfl,rfl,IA .nil⟩
 ·rw [hk] at hget
  rcases Nat.eq_zero_or_pos len with hl0|hl0
  ·subst hl0
   exact⟨[],rfl,rfl,IA (.e hcm)⟩
  have key:∀i,i < len→∃(y:α) (cs:List Value),w.cells? 0 (a.add (i*k)) k=some cs∧cs.length=k∧(f y).length=k∧∀(j:Nat) c d,cs[j]? = some c→(f y)[j]? = some d→Cn (below w) w d c:=by
   intro i hi
   have h1:=hget i hi
   have hie:i < elems.length:=by omega
   rw [List.getElem?_eq_getElem hie] at h1
   simp only [Option.bind_eq_some_iff] at h1
   obtain⟨cs,h2,h3⟩:=h1
   obtain⟨y,h4,h5,h6⟩:=hf enc n cs _ h3
   exact⟨y,cs,h2,h4,h5,h6⟩
  obtain⟨b,o,rfl,hb⟩:∃b o,a=⟨b,o,none⟩∧b < w.heap.size:=by
   obtain⟨y,cs,h2,h4,_,_⟩:=key 0 hl0
   have h7:=(Mr h2).2 0 (cs[0]'(by omega)) (by simp)
   rw [Nat.zero_mul] at h7
   have h8:∀a:Addr,a.add 0=a:=fun a=>by simp [Addr.add]
   rw [h8,h8] at h7
   unfold World.cell? at h7
   obtain⟨b,o,sp⟩:=a
   split at h7
   ·rename_i c _ _ hh
    split at h7
    ·cases h7
    ·rename_i hs
     cases sp with
     | none=>exact⟨b,o,rfl,(Array.getElem?_eq_some_iff.1 hh).1⟩
     | some s=>simp at hs
   ·cases h7
  have hlist:∀m,m≤len→∃l:List α,l.length=m∧∀(i:Nat) y,l[i]? = some y→(f y).length=k∧∀(j:Nat) d,(f y)[j]? = some d→∃c,w.cell? ⟨b,o+i*k+j,none⟩=some c∧Cn (below w) w d c:=by
   intro m
   induction m with
   | zero=>intro _;exact⟨[],rfl,fun i y h=>by simp at h⟩
   | succ m ih=>
    intro hm
    obtain⟨l,hl,hall⟩:=ih (by omega)
    obtain⟨y,cs,h2,h4,h5,h6⟩:=key m (by omega)
    refine⟨l++[y],by simp [hl],fun i z hz=>?_⟩
    by_cases hi:i < l.length
    ·rw [List.getElem?_append_left hi] at hz;exact hall i z hz
    ·rw [List.getElem?_append_right (by omega)] at hz
     have hi0:i=m:=by
      have:=(List.getElem?_eq_some_iff.1 hz).1
      simp at this;omega
     subst hi0
     rw [hl,Nat.sub_self] at hz
     simp at hz
     subst hz
     refine⟨h5,fun j d hj=>?_⟩
     have hjl:j < cs.length:=by rw [h4,←h5];exact(List.getElem?_eq_some_iff.1 hj).1
     have h7:=(Mr h2).2 j cs[j] (List.getElem?_eq_getElem hjl)
     rw [Bu,Bu] at h7
     exact⟨cs[j],h7,h6 j _ d (List.getElem?_eq_getElem hjl) hj⟩
  obtain⟨l,hl,hall⟩:=hlist len (Nat.le_refl _)
  refine⟨l,rfl,rfl,IA ?_⟩
  have hll:(l.map f).length=len:=by simp [hl]
  rw [←hll]
  refine .l (b:=b) (o:=o) (k:=k) (vs:=fun i j=>(w.cell? ⟨b,o+i*k+j,none⟩).getD undef) hb (by simpa [hl] using hlc) hcm (fun i r hr=>?_) (fun i r j d hr hd=>?_) (fun i r j d hr hd=>?_)
  all_goals
   rw [List.getElem?_map,Option.map_eq_some_iff] at hr
   obtain⟨y,hy,rfl⟩:=hr
  ·exact(hall i y hy).1
  ·obtain⟨c,h1,_⟩:=(hall i y hy).2 j d hd
   rw [h1];rfl
  ·obtain⟨c,h1,h2⟩:=(hall i y hy).2 j d hd
   rw [h1];exact h2
end
def QY(w:World):View:=⟨below w,id,fun _=>0,fun _=>True,0,w⟩
section
variable {P:Program}{w:World}{t:TypeId}{k:Nat}{H:Type}{enc:TypeId×Value→H}
theorem ZC{α:Type}{f:α→List D}{e:TypeId}(ht:P.underlying t=some (.slice e))(h:Rd P w t 1 (fun l:List α=>[.l (l.map f)])){v:Value}{d:DataW H}{ps:List MemPlace}{base:Nat}(hv:Value.okWide P w .any base t v)(hd:DataW.Trod enc P w 0 (fun _=>true) true t v d ps) :
 ∃l:List α,Bc (QY w) (.o (.d (.l (l.map f)))) v:=by
 obtain⟨m,hm⟩:=hd
 obtain⟨l,h1,h2,h3⟩:=h enc m _ _ hm
 refine⟨l,?_⟩
 have:v.cells.toList=[v]:=by
  unfold Value.okWide Cell.okWide Cell.ok at hv
  simp only [ht] at hv
  split at hv<;>simp_all [Value.cells]
 rw [this] at h3
 exact .d (h3 0 v _ rfl rfl)
structure Fs (W W':World):Prop where
 os:W'.os=W.os
 output:W'.output=W.output
 size:W.heap.size≤W'.heap.size
 old:∀b,b < W.heap.size→W'.heap[b]? = W.heap[b]?
theorem Fs.sameAt{W W':World}(h:Fs W W'){p:MemPlace}(hp:p.block < W.heap.size):W.sameAt W' p:=by
 cases p with
 | cell b off=>show W'.cell? _=W.cell? _;simp only [World.cell?,h.old b hp]
 | map b=>exact h.old b hp
theorem Fs.kept{W W':World}(h:Fs W W')(may:MemPlace→Prop):W.keptBut W' may:=by
 refine⟨h.os,h.output,fun i hi=>?_⟩
 rw [h.old i hi]
 split
 ·rename_i h1 h2
  rw [h1] at h2
  injection h2 with h2;injection h2 with h3 h4 h5
  exact⟨h4.symm,h5.symm,by rw [h3],fun j _=>by rw [h3]⟩
 ·rename_i h1 h2
  rw [h1] at h2
  injection h2 with h2;injection h2 with h3 h4
  exact .inr ⟨h3.symm,h4.symm⟩
 ·rfl
theorem IU{W W':World}(hl:laidOutB P=true)(h:Fs W W'){sp:Nat→Bool}:∀ {ts:List TypeId} {vs:List Value} {ds:List (DataW H)} {ps:List MemPlace},(ts.all fun t=>P.readableRec t && decide (t < P.types.size))=true→
 DataW.TrodAll enc P W 0 (fun _=>true) true ts vs ds ps→(∀p∈ps,p.block < W.heap.size)→(∀p∈ps,sp p.block=true)→DataW.TrodAll enc P W' 0 sp true ts vs ds ps
 | [],vs,ds,ps,_,h1,_,_=>by obtain⟨rfl,rfl,rfl⟩:=trodAll_nil h1;exact rfl
 | t::ts,vs,ds,ps,ha,h1,h2,h3=>by
  obtain⟨v,vs',d,ds',p,q,rfl,rfl,rfl,h4,h5⟩:=trodAll_cons h1
  simp only [List.all_cons,Bool.and_eq_true,decide_eq_true_eq] at ha
  refine⟨p,q,Go.WideElems.Trod_stays hl ha.1.1 ha.1.2 h4 (fun x hx=>h.sameAt (h2 x (List.mem_append_left _ hx))) (fun x hx=>h3 x (List.mem_append_left _ hx)),IU hl h (by simpa using ha.2) h5 (fun x hx=>h2 x (List.mem_append_right _ hx)) (fun x hx=>h3 x (List.mem_append_right _ hx)),rfl⟩
theorem Zr{f:Func}{s:ChangeSpec}{again:Bool}{W W':World}{args:Array Value}{ds gs:List (DataW H)}{before:List MemPlace}{tb:TypeId}(hl:laidOutB P=true)(hts:(f.params.toList.all fun t=>P.readableRec t && decide (t < P.types.size))=true)
 (hW:DataW.Whole enc P f.params.toList s.vars false W args.toList ds gs before) (hs:Fs W W') (hv:s.vars=[]) (hr:f.resultTypes = #[tb]) (htb:P.underlying tb=some .bool) (hone:(Value.bool true).resultList 1=[.bool true])
 (hfn:s.fn H (ds++gs) = { results:=[.lit (.bool true)],args:=ds }):s.post enc P f false true false again W args (.bool true) W':=by
 have hlt:=hW.lt
 have hW':=hW
 obtain⟨p,q,hA,hV,he,hz,hn⟩:=hW
 rw [hv] at hV
 obtain⟨rfl,rfl⟩:=trodVars_none hV
 rw [List.append_nil] at he
 subst he
 have hres:∀(b:Nat) (sp:Nat→Bool) (hd:Bool),DataW.TrodAll enc P W' b sp hd f.resultTypes.toList ((Value.bool true).resultList f.resultTypes.size) (s.fn H (ds++[])).results []:=fun b sp hd=>by
  rw [hr,hfn]
  show DataW.TrodAll enc P W' b sp hd [tb] ((Value.bool true).resultList 1) [.lit (.bool true)] []
  rw [hone]
  exact trodAll_mk1 (RowKit.shut_bool htb true)
 have hargs:∀sp:Nat→Bool,(∀x∈before,sp x.block=true)→DataW.TrodAll enc P W' 0 sp true f.params.toList args.toList (s.fn H (ds++[])).args before:=fun sp hsp=>by
  rw [hfn]
  exact IU hl hs hts hA hlt hsp
 have hvars:∀sp:Nat→Bool,DataW.TrodVars enc P W' sp s.vars (s.fn H (ds++[])).vars []:=fun sp=>by
  rw [hv,hfn];exact rfl
 refine⟨ds,[],before,[],before,[],hW',hres _ _ _,hargs _ fun x hx=>by simpa using hlt x hx,hvars _,hs.kept _,fun _=>?_⟩
 refine⟨ok_one hr hone (okWide_bool_mk htb true),_,_,([]++before)++[],⟨[]++before,[],trodAll_append (hargs _ (fun _ _=>rfl)) (hres _ _ _),hvars _,rfl,?_,fun ha=>by cases ha⟩,fun x hx _=>by simpa using hx⟩
 intro b off hp
 have hp':MemPlace.cell b off∈before:=by simpa using hp
 have h1:=hz b off hp'
 have h2:b < W.heap.size:=hlt _ hp'
 simpa [World.frozen?,hs.old b h2] using h1
end
end Go.Am
namespace Go.Am
open Go
def EM(s:Int)(n:Nat):Bool:=decide (PQ .i64 (s.fdiv (2 ^ min n 64)) 1=1)
def hasB(s n:Int):Bool:=decide (0≤n) && EM s n.toNat
def BI(n:Int):Bool:=decide (0≤n∧n≤63)
abbrev iD(n:Int):D:=.v (.int .i64 n)
abbrev bD(b:Bool):D:=.v (.bool b)
abbrev tD(s:List UInt8):D:=.v (.string ⟨s.toArray⟩)
abbrev Bq(n:Int):List D:=[iD n]
abbrev Gq(b:Bool):List D:=[bD b]
abbrev BC(s:List UInt8):List D:=[tD s]
abbrev CO(l:List Int):D:=.l (l.map Bq)
abbrev FY(l:List Bool):D:=.l (l.map Gq)
abbrev A5(l:List (List UInt8)):D:=.l (l.map BC)
abbrev AB(n:Int):List C:=[.d (iD n)]
abbrev AQ(b:Bool):List C:=[.d (bD b)]
abbrev CU(s:List UInt8):List C:=[.d (tD s)]
abbrev Dm(l:List Int):List D:=[CO l]
abbrev Ci(l:List (List Int)):D:=.l (l.map Dm)
abbrev PT(l:List Int):List C:=[.d (CO l)]
abbrev HB(l:List (List Int)):List D:=[Ci l]
abbrev WJ(l:List (List (List Int))):D:=.l (l.map HB)
structure Tw where
 f:Int
 l:Int
 t:Int
 deriving DecidableEq
structure Sys where
 al:Int
 st:Int
 es:List Tw
structure AP where
 al:Int
 nx:List (List Int)
 ac:List Bool
abbrev XC(e:Tw):List D:=[iD e.f,iD e.l,iD e.t]
abbrev PM(l:List Tw):D:=.l (l.map XC)
abbrev VR(s:Sys):List D:=[iD s.al,iD s.st,PM s.es]
abbrev VQ(l:List Sys):D:=.l (l.map VR)
abbrev Bm(a:AP):List D:=[iD a.al,Ci a.nx,FY a.ac]
abbrev A2(a:AP):E:=.a [.d (iD a.al),.d (Ci a.nx),.d (FY a.ac)]
abbrev PE(l:List AP):D:=.l (l.map Bm)
abbrev Aj(l:List Int):E:=.o (.d (CO l))
abbrev Dp(l:List (List Int)):E:=.o (.d (Ci l))
abbrev Bg(l:List (List UInt8)):E:=.o (.d (A5 l))
abbrev ZL(l:List Tw):E:=.o (.d (PM l))
def Az(s:Int)(k:Nat):List Int:=((List.range k).filter (EM s)).map Int.ofNat
theorem AL(s:Int)(k:Nat):(Az s k).length≤k:=by
 unfold Az;rw [List.length_map];exact Nat.le_trans (List.length_filter_le _ _) (by simp)
theorem B1(s:Int)(k:Nat):Az s (k+1)=Az s k++if EM s k then [(k:Int)] else []:=by
 unfold Az
 rw [List.range_succ,List.filter_append,List.map_append]
 cases h:EM s k<;>simp [h]
abbrev Ac(s:Int):List Int:=Az s 6
def KL(al st:Int)(e:Tw):Bool:=decide (0≤e.f∧e.f < st∧0≤e.t∧e.t < st∧0≤e.l∧e.l < 6) && EM al e.l.toNat
def LO(e f:Tw):Bool:=if e.f≠f.f then decide (e.f < f.f) else if e.l≠f.l then decide (e.l < f.l) else decide (e.t < f.t)
def Pm(s:Sys)(i:Nat):Bool:=match s.es[i]? with
 | none=>true
 | some e=>KL s.al s.st e && match i with
  | 0=>true
  | j+1=>match s.es[j]? with
   | none=>true
   | some p=>LO p e
def Gd(s:Sys):Bool:=BI s.al && decide (1≤s.st∧s.st≤16) && (List.range s.es.length).all (Pm s)
theorem Ej{α:Type}{l:List α}{f:α→Bool}{k:Nat}{x:α}(h:l[k]? = some x)(h1:(l.take k).all f=true)(h2:f x=true):(l.take (k+1)).all f=true:=by
 rw [List.take_add_one,h];simp [List.all_append,h1,h2]
theorem Ft{α:Type}{l:List α}{f:α→Bool}{k:Nat}{x:α}(h:l[k]? = some x)(h2:f x=false):l.all f=false:=by
 rw [List.all_eq_false];exact⟨x,List.mem_of_getElem? h,by simp [h2]⟩
theorem Ei{α:Type}{l:List α}{f:α→Bool}{k:Nat}(h:(l.take k).all f=true)(hk:l.length≤k):l.all f=true:=by
 rwa [List.take_of_length_le hk] at h
theorem get_map{α β:Type}{l:List α}{g:α→β}{k:Nat}{x:α}(h:l[k]? = some x):(l.map g)[((k:Nat):Int).toNat]? = some (g x):=by simp [h]
theorem get_some{α:Type}{l:List α}{k:Nat}(h:k < l.length):∃x,l[k]? = some x:=⟨_,List.getElem?_eq_getElem h⟩
def NO(n:Int)(q:Int):Bool:=decide (0≤q∧q < n)
def DN(ls n:Int)(row:List Int):Bool:=decide ((row.length:Int)=ls) && row.all (NO n)
def AF(a:AP):Bool:=BI a.al && decide (1≤a.nx.length∧a.nx.length≤12) && decide (a.ac.length=a.nx.length) && a.nx.all (DN (Ac a.al).length a.nx.length)
end Go.Am
