/-
  The steps of a walk, few and short: what an operation gives is reckoned.
-/
import Derived.Test.YtliafogflkcnbaaGreatDoorPart5
import Derived.ProofKit
import Derived.OpenShut
import Derived.WideKeyArgs
import Derived.Deep.DeepHandedRow
import Derived.Lib.LaidTab
set_option linter.constructorNameAsVariable false
set_option linter.unusedSectionVars false
set_option linter.unusedSimpArgs false
set_option linter.unusedVariables false
namespace Go.Am
open Go
class Nw (P:Program) (t:TypeId):Prop where
 out:P.underlying t=some .bool
theorem oA{p:Prop}[Decidable p]:(decide p=true)=p:=decide_eq_true_eq
theorem oB{p:Prop}[Decidable p]:decide p=false↔¬p:=decide_eq_false_iff_not
theorem oC{α β:Type}{l:List α}{f:α→β}:(l.map f).length=l.length:=List.length_map f
theorem oD{α:Type}{l m:List α}:(l++m).length=l.length+m.length:=List.length_append
theorem oE{α:Type}{n:Nat}{x:α}:(List.replicate n x).length=n:=List.length_replicate
theorem oF{α:Type}{x:α}{l:List α}:(x::l).length=l.length+1:=List.length_cons
theorem oG{α:Type}:([]:List α).length=0:=List.length_nil
theorem oZ:(∀(p:Prop) [Decidable p],(decide p=true)=p)∧(∀(p:Prop) [Decidable p],decide p=false↔¬p)∧(∀(α β:Type) (l:List α) (f:α→β),(l.map f).length=l.length)∧(∀(α:Type) (l m:List α),(l++m).length=l.length+m.length)∧(∀(α:Type) (n:Nat) (x:α),(List.replicate n x).length=n)∧(∀(α:Type) (x:α) (l:List α),(x::l).length=l.length+1)∧∀(α:Type),([]:List α).length=0:=
 ⟨fun _ _=>oA,fun _ _=>oB,fun _ _ _ _=>oC,fun _ _ _=>oD,fun _ _ _=>oE,fun _ _ _=>oF,fun _=>oG⟩
structure TI where
 ld:Option (Bool×Nat):=none
 ik:Option IntKind:=none
 st:Bool:=false
 sl:Option (Nat×Nat×Nat):=none
 ar:Option (Nat×Nat):=none
 fl:List (Option (Nat×Bool×Nat)):=[]
 pt:Bool:=false
 bo:Bool:=false
 ze:Option (List Value):=none
def Oy(P:Program)(t:Nat):Nat→List (Option (Nat×Bool×Nat))→Prop
 | _,[]=>True
 | k,none::r=>Oy P t (k+1) r
 | k,some x::r=>(Tq P t k=some x.1∧Tr P t k=some x)∧Oy P t (k+1) r
structure Dm (P:Program) (t:Nat) (i:TI):Prop where
 ld:i.ld=none∨Zd P t=i.ld
 ik:i.ik=none∨P.underlying t=i.ik.map .int
 st:i.st=false∨P.underlying t=some .string
 sl:i.sl=none∨ZN P t=i.sl
 ar:i.ar=none∨aH P t=i.ar
 fl:Oy P t 0 i.fl
 pt:i.pt=false∨∃e,P.underlying t=some (.pointer e)
 bo:i.bo=false∨P.underlying t=some .bool
 ze:i.ze=none∨Uh P t=i.ze
def RD(P:Program):List (Nat×TI)→Prop
 | []=>True
 | (t,i)::r=>Dm P t i∧RD P r
def dH:Value→Value→Bool
 | .int k n,.int k' n'=>decide (k=k') && decide (n=n')
 | .bool a,.bool b=>decide (a=b)
 | .string ⟨⟨a⟩⟩,.string ⟨⟨b⟩⟩=>a.isEmpty && b.isEmpty
 | .slice none 0 0,.slice none 0 0=>true
 | .pointer none,.pointer none=>true
 | .map none,.map none=>true
 | .nilFunc,.nilFunc=>true
 | .nilIface,.nilIface=>true
 | _,_=>false
theorem ZX:∀ {a b:Value},dH a b=true→a=b:=by
 intro a b h
 unfold dH at h
 split at h<;>simp_all
def cR:List Value→List Value→Bool
 | [],[]=>true
 | a::l,b::m=>dH a b && cR l m
 | _,_=>false
theorem WW:∀ {l m:List Value},cR l m=true→l=m
 | [],[],_=>rfl
 | a::l,b::m,h=>by
  unfold cR at h
  rw [Bool.and_eq_true] at h
  rw [ZX h.1,WW h.2]
 | [],_::_,h=>by cases h
 | _::_,[],h=>by cases h
def bg(P:Program)(t:Nat):Nat→List (Option (Nat×Bool×Nat))→Bool
 | _,[]=>true
 | k,none::r=>bg P t (k+1) r
 | k,some x::r=>decide (Tq P t k=some x.1) && decide (Tr P t k=some x) && bg P t (k+1) r
theorem Qm{P:Program}{t:Nat}:∀ {l:List (Option (Nat×Bool×Nat))} {k:Nat},bg P t k l=true→Oy P t k l
 | [],_,_=>trivial
 | none::r,k,h=>Qm (l:=r) (k:=k+1) h
 | some x::r,k,h=>by
  unfold bg at h
  simp only [Bool.and_eq_true,decide_eq_true_eq] at h
  exact⟨h.1,Qm h.2⟩
def dS(d:Option TypeDesc)(i:TI):Bool:=match d with
 | some (.int k)=>(match i.ik with|none=>true|some k'=>decide (k=k')) && !i.st && !i.pt && !i.bo
 | some .string=>i.ik.isNone && !i.pt && !i.bo
 | some (.pointer _)=>i.ik.isNone && !i.st && !i.bo
 | some .bool=>i.ik.isNone && !i.st && !i.pt
 | _=>i.ik.isNone && !i.st && !i.pt && !i.bo
def dA(P:Program)(t:Nat)(i:TI):Bool:=
 (i.ld.isNone || decide (Zd P t=i.ld)) && (dS (P.underlying t) i && ((i.sl.isNone || decide (ZN P t=i.sl)) && ((i.ar.isNone || decide (aH P t=i.ar)) && (bg P t 0 i.fl && match i.ze with
  | none=>true
  | some l=>match Uh P t with
   | some l'=>cR l' l
   | none=>false))))
theorem or_none{α:Type}[DecidableEq α]{a b:Option α}(h:(b.isNone || decide (a=b))=true):b=none∨a=b:=by
 rw [Bool.or_eq_true] at h
 rcases h with h|h
 ·left;cases b<;>simp_all
 ·right;exact of_decide_eq_true h
theorem ZQ{P:Program}{t:Nat}{i:TI}(h:dA P t i=true):Dm P t i:=by
 unfold dA at h
 simp only [Bool.and_eq_true] at h
 obtain⟨h1,h2,h3,h4,h5,h6⟩:=h
 have hd:(i.ik=none∨P.underlying t=i.ik.map .int)∧(i.st=false∨P.underlying t=some .string)∧(i.pt=false∨∃e,P.underlying t=some (.pointer e))∧(i.bo=false∨P.underlying t=some .bool):=by
  unfold dS at h2
  split at h2
  ·rename_i k hk
   cases hik:i.ik<;>simp_all
  all_goals simp_all
 refine⟨or_none h1,hd.1,hd.2.1,or_none h3,or_none h4,Qm h5,hd.2.2.1,hd.2.2.2,?_⟩
 split at h6
 ·rename_i hz;exact .inl hz
 ·rename_i l hz
  split at h6
  ·rename_i l' hz'
   right;rw [hz',hz,WW h6]
  ·cases h6
def YL(P:Program):List (Nat×TI)→Bool
 | []=>true
 | (t,i)::r=>dA P t i && YL P r
theorem RL{P:Program}:∀ {l:List (Nat×TI)},YL P l=true→RD P l
 | [],_=>trivial
 | (t,i)::r,h=>by
  unfold YL at h
  rw [Bool.and_eq_true] at h
  exact⟨ZQ h.1,RL h.2⟩
class B7 (P:Program) where
 T:List (Nat×TI)
 ok:RD P T
def Hn:List (Nat×TI)→Nat→TI
 | [],_=>{}
 | (k,x)::r,t=>bif Nat.beq k t then x else Hn r t
def nth{α:Type}:List α→Nat→Option α
 | [],_=>none
 | x::_,0=>some x
 | _::r,n+1=>nth r n
theorem Kz{α:Type}:∀(l:List α) (i:Nat),nth l i=l[i]?
 | [],_=>by simp [nth]
 | o::_,0=>by simp [nth]
 | _::r,n+1=>by simp [nth,Kz r n]
theorem CN{P:Program}(t:Nat):∀ {T:List (Nat×TI)},RD P T→Dm P t (Hn T t)
 | [],_=>⟨.inl rfl,.inl rfl,.inl rfl,.inl rfl,.inl rfl,trivial,.inl rfl,.inl rfl,.inl rfl⟩
 | (k,x)::r,h=>by
  unfold Hn
  cases hb:Nat.beq k t
  ·exact CN t h.2
  ·have:=Nat.eq_of_beq_eq_true hb
   subst this
   exact h.1
section
variable {P:Program}{t:Nat}{i:TI}
theorem Dm.JS(h:Dm P t i){ag:Bool}{n:Nat}(e:i.ld=some (ag,n)):DE P t ag n:=⟨by rcases h.ld with h|h<;>simp_all⟩
theorem Dm.UR(h:Dm P t i){k:IntKind}(e:i.ik=some k):Eh P t k:=⟨by rcases h.ik with h|h<;>simp_all⟩
theorem Dm.UT(h:Dm P t i)(e:i.st=true):B6 P t:=⟨by rcases h.st with h|h<;>simp_all⟩
theorem Dm.OU(h:Dm P t i){e k b:Nat}(he:i.sl=some (e,k,b)):BY P t e k b:=⟨by rcases h.sl with h|h<;>simp_all⟩
theorem Dm.bm(h:Dm P t i){n k:Nat}(he:i.ar=some (n,k)):MD P t n k:=⟨by rcases h.ar with h|h<;>simp_all⟩
theorem Dm.US(h:Dm P t i)(e:i.pt=true):P6 P t:=⟨h.pt.resolve_left (by simp [e])⟩
theorem Dm.Xq(h:Dm P t i)(e:i.bo=true):Nw P t:=⟨by rcases h.bo with h|h<;>simp_all⟩
theorem Dm.UU(h:Dm P t i){z:List Value}(e:i.ze=some z):BF P t z:=⟨by rcases h.ze with h|h<;>simp_all⟩
theorem Oy.get:∀ {l:List (Option (Nat×Bool×Nat))} {k j:Nat} {x:Nat×Bool×Nat},Oy P t k l→nth l j=some (some x)→Tq P t (k+j)=some x.1∧Tr P t (k+j)=some x
 | [],_,_,_,_,h=>by simp [nth] at h
 | none::r,k,0,x,_,h=>by simp [nth] at h
 | some y::r,k,0,x,hf,h=>by simp [nth] at h;subst h;exact hf.1
 | none::r,k,j+1,x,hf,h=>by
  have:=Oy.get (l:=r) (k:=k+1) (j:=j) (x:=x) hf h
  rwa [show k+(j+1)=k+1+j by omega]
 | some y::r,k,j+1,x,hf,h=>by
  have:=Oy.get (l:=r) (k:=k+1) (j:=j) (x:=x) hf.2 h
  rwa [show k+(j+1)=k+1+j by omega]
theorem Dm.Y8(h:Dm P t i){j off n:Nat}{ag:Bool}(e:nth i.fl j=some (some (off,ag,n))):Nx P t j off:=⟨by have:=(h.fl.get e).1;rwa [Nat.zero_add] at this⟩
theorem Dm.Xr(h:Dm P t i){j off n:Nat}{ag:Bool}(e:nth i.fl j=some (some (off,ag,n))):Km P t j off ag n:=⟨by have:=(h.fl.get e).2;rwa [Nat.zero_add] at this⟩
end
def Ei(P:Program)(TB:Bu)(Γ:Ctx)(ops:Array Oper)(o:Oper)(fl:Fl)(i n:Nat)(K:Env→Ab→Nat→Prop)(L:List (Nat×E))(σ:Ab)(nx:Nat):Prop:=
 Be ops o (look L)=some true→Bq P TB Γ ops o fl i n K L σ nx
def xE:Bool×List C→Option E
 | (false,[c])=>some (.o c)
 | (true,cs)=>some (.a cs)
 | _=>none
def c8(f:Env):Op→Option E
 | .move x=>ev f x
 | .pick c x y=>match ev f c with
  | some (.o (.d (.v (.bool true))))=>ev f x
  | some (.o (.d (.v (.bool false))))=>ev f y
  | _=>none
 | .extract x k=>match ev f x with
  | some (.t xs)=>(xs[k]?).bind xE
  | _=>none
 | .nilCheck x=>match ev f x with
  | some (.o (.d (.p cs)))=>some (.o (.ip cs))
  | some (.o (.ptr id k i j))=>some (.o (.ptr id k i j))
  | some (.o (.fn gg cs))=>some (.o (.fn gg cs))
  | _=>none
 | _=>none
def aj:IntKind→IntKind→Bool
 | .i64,.i64|.u8,.u8|.u64,.u64|.i32,.i32|.u16,.u16|.u32,.u32=>true
 | _,_=>false
theorem K8{a b:IntKind}(h:aj a b=true):a=b:=by cases a<;>cases b<;>first|rfl|cases h
def aW(o:BinOp)(m n:Int):Option Bool:=match o with
 | .lss=>some (decide (m < n))
 | .leq=>some (decide (m≤n))
 | .gtr=>some (decide (m > n))
 | .geq=>some (decide (m≥n))
 | .eql=>some (decide (m=n))
 | .neq=>some (decide (m≠n))
 | _=>none
def aV(o:BinOp)(a b:List UInt8):Option Bool:=match o with
 | .eql=>some (decide (a=b))
 | .neq=>some (decide (a≠b))
 | _=>none
def YQ(o:BinOp):E→E→Option Bool
 | .o (.d (.v (.int k m))),.o (.d (.v (.int k' n)))=>match aj k k' with
  | true=>aW o m n
  | false=>none
 | .o (.d (.v (.string ⟨⟨a⟩⟩))),.o (.d (.v (.string ⟨⟨b⟩⟩)))=>aV o a b
 | _,_=>none
def TZ:IntKind→Int→Option Prop
 | .i64,m=>some (-9223372036854775808≤m∧m≤9223372036854775807)
 | .u64,m=>some (0≤m∧m≤18446744073709551615)
 | .u8,m=>some (0≤m∧m≤255)
 | .i32,m=>some (-2147483648≤m∧m≤2147483647)
 | _,_=>none
def dJ(o:BinOp)(k:IntKind)(m n:Int):Option (Prop×E):=match o with
 | .add=>(TZ k (m+n)).map fun q=>(q,eI k (m+n))
 | .sub=>(TZ k (m - n)).map fun q=>(q,eI k (m - n))
 | .mul=>(TZ k (m*n)).map fun q=>(q,eI k (m*n))
 | .rem=>some (0≤m∧0 < n,eI k (m % n))
 | .and=>some (True,eI k (Ki k m n))
 | .or=>some (True,eI k (Y9 k m n))
 | _=>none
def cV(o:BinOp):E→E→Option (Prop×E)
 | .o (.d (.v (.int k m))),.o (.d (.v (.int k' n)))=>match o with
  | .shr=>some (0≤n,eI k (m.fdiv (2 ^ (min n.toNat k.bits))))
  | .quo=>match aj k .i64,aj k' .i64 with
   | true,true=>some ((0≤m∧m≤9223372036854775807)∧0 < n,eI .i64 (m / n))
   | _,_=>none
  | o=>match aj k k' with
   | true=>dJ o k m n
   | false=>none
 | .o (.d (.v (.string ⟨⟨a⟩⟩))),.o (.d (.v (.string ⟨⟨b⟩⟩)))=>match o with
  | .add=>some (a.length+b.length≤9223372036854775807,eT (a++b))
  | _=>none
 | _,_=>none
def Y7(off:Nat):E→Option E
 | .o (.d (.p cs))=>some (.o (.ip (cs.drop off)))
 | .o (.ptr id k i j)=>some (.o (.ptr id k i (j+off)))
 | _=>none
def df(ag:Bool)(n:Nat):E→Option E
 | .o (.d (.p cs))=>match ag,cs with
  | false,c::_=>some (.o (.d c))
  | true,cs=>match Nat.ble n cs.length with
   | true=>some (.a ((cs.take n).map .d))
   | false=>none
  | _,_=>none
 | _=>none
def bp(ag:Bool)(n j:Nat)(r:List C):Option E:=match ag with
 | false=>(r[j]?).map .o
 | true=>match Nat.ble (j+n) r.length with
  | true=>some (.a ((r.drop j).take n))
  | false=>none
def db(ag:Bool)(off n:Nat)(cs:List C):Option E:=match ag with
 | false=>(cs[off]?).map .o
 | true=>match Nat.ble (off+n) cs.length with
  | true=>some (.a ((cs.drop off).take n))
  | false=>none
def de(k:Nat)(n:Int):E→Option E
 | .o (.d (.p cs))=>some (.o (.ip (cs.drop (n.toNat*k))))
 | .o (.ptr id k' i j)=>some (.o (.ptr id k' i (j+n.toNat*k)))
 | _=>none
def dg(k:Nat):E→Option E
 | .o (.d (.l rows))=>some (eI .i64 rows.length)
 | .o (.arr _ k' _ len)=>match Nat.beq k' k with
  | true=>some (eI .i64 len)
  | false=>none
 | _=>none
def tr:Option E→Option (Prop×E)
 | some e=>some (True,e)
 | none=>none
def Zk:Bool→E→E→Option (Prop×E)
 | true,.o (.d (.p _)),.o (.d (.v (.pointer none)))=>some (True,eB false)
 | true,.o (.d (.v (.pointer none))),.o (.d (.v (.pointer none)))=>some (True,eB true)
 | _,_,_=>none
def aQ(pt:Bool)(o:BinOp)(a b:E):Option (Prop×E):=match o with
 | .eql=>Zk pt a b
 | o=>cV o a b
def Za(i:TI):E→E→Option (Prop×E)
 | .o (.arr id k off len),.o (.d (.v (.int _ m)))=>match i.sl with
  | some (_,k',_)=>match Nat.beq k k' with
   | true=>some (0≤m∧m < len,.o (.ptr id k (off+m.toNat) 0))
   | false=>none
  | none=>none
 | a, .o (.d (.v (.int _ m)))=>match i.ar with
  | some (len,k)=>match de k m a with
   | some e=>some (0≤m∧m < len,e)
   | none=>none
  | none=>none
 | _,_=>none
def Zf(i:TI):E→Option E
 | .o (.d (.v (.string ⟨⟨s⟩⟩)))=>match i.st with
  | true=>some (eI .i64 s.length)
  | false=>none
 | e=>match i.sl with
  | some (_,k,_)=>dg k e
  | none=>none
def YS(k k':IntKind):E→Option (Prop×E)
 | .o (.d (.v (.int k2 m)))=>match aj k2 k,TZ k' m with
  | true,some q=>some (q,eI k' m)
  | _,_=>none
 | _=>none
def Wo(T:List (Nat×TI))(md:Bool)(f:Env):Op→Option (Prop×E)
 | .assign x=>match md,notNil x with
  | true,false=>none
  | _,_=>tr (ev f x)
 | .binOp o t x y _=>match ev f x,ev f y with
  | some a,some b=>aQ (Hn T t).pt o a b
  | _,_=>none
 | .fieldAddr s x k=>match nth (Hn T s).fl k,ev f x with
  | some (some (off,_,_)),some a=>tr (Y7 off a)
  | _,_=>none
 | .field t x k=>match nth (Hn T t).fl k,ev f x with
  | some (some (off,ag,n)),some (.a cs)=>tr (db ag off n cs)
  | _,_=>none
 | .load t x=>match (Hn T t).ld,ev f x with
  | some (ag,n),some a=>tr (df ag n a)
  | _,_=>none
 | .indexAddr t x y=>match ev f x,ev f y with
  | some a,some b=>Za (Hn T t) a b
  | _,_=>none
 | .call ⟨.builtin .len,⟨[x]⟩,⟨[t]⟩⟩=>match ev f x with
  | some a=>tr (Zf (Hn T t) a)
  | none=>none
 | .convert s t x=>match (Hn T s).ik,(Hn T t).ik,ev f x with
  | some k,some k',some a=>YS k k' a
  | _,_,_=>none
 | .makeFunc (.func gg) ⟨[]⟩ caps=>match HE f caps.toList with
  | some es=>match WQ es with
   | some cs=>some (True,.o (.fn gg cs))
   | none=>none
  | none=>none
 | op=>tr (c8 f op)
def dK:BinOp→E→E→Option Bool
 | .eql,.o (.d (.v (.bool a))),.o (.d (.v (.bool b)))=>some (a == b)
 | .neq,.o (.d (.v (.bool a))),.o (.d (.v (.bool b)))=>some (a != b)
 | _,_,_=>none
def Pz(T:List (Nat×TI))(f:Env):Op→Option Bool
 | .binOp o t x y _=>match ev f x,ev f y with
  | some a,some b=>match (Hn T t).bo with
   | true=>dK o a b
   | false=>YQ o a b
  | _,_=>none
 | .unOp .not _ x=>match ev f x with
  | some (.o (.d (.v (.bool b))))=>some (!b)
  | _=>none
 | _=>none
def J6(T:List (Nat×TI))(σ:Ab)(f:Env):Op→Option E
 | .load t x=>match (Hn T t).ld,ev f x with
  | some (ag,n),some (.o (.ptr id k i j))=>match look σ id with
   | some (.cells _ k' rows)=>match Nat.beq k k',nth rows i with
    | true,some r=>bp ag n j r
    | _,_=>none
   | _=>none
  | _,_=>none
 | _=>none
def Nh(T:List (Nat×TI))(σ:Ab)(f:Env)(t:Nat)(x y:Operand):Option Ab:=
 match (Hn T t).ld,ev f x,ev f y with
 | some (_,n),some (.o (.ptr id k i j)),some e=>match look σ id with
  | some (.cells ct k' rows)=>match Nat.beq k k',nth rows i with
   | true,some r=>match OM e,Nat.beq (eC e).length n,Nat.ble (j+n) k with
    | true,true,true=>some ((id,.cells ct k (rows.set i (Aj r j (eC e))))::σ)
    | _,_,_=>none
   | _,_=>none
  | _=>none
 | _,_,_=>none
section
variable {P:Program}{TB:Bu}{Γ:Ctx}{d:Option Tmp}{ty:TypeId}{pos:String}{af:Array Edge}{g:Option (Nat×Bool)}{f:Env}{σ:Ab}{nx:Nat}
theorem SD{t:TypeId}{a b:Bool}(he:P.underlying t=some .bool)(w:World):(Op.equal t (.bool a) (.bool b)).run P w=.ok (a == b) w:=by
 unfold Op.equal Op.maxDepth
 rw [show 10000=9999+1 from rfl,Op.equalIn]
 simp [run_underlying he,go_sem]
theorem bJ{t yt:TypeId}{x y:Operand}{a b:Bool}[hp:Nw P t](hx:ev f x=some (eB a))(hy:ev f y=some (eB b)):AY P TB Γ ⟨d,.binOp .eql t x y yt,ty,pos,af,g⟩ f σ nx (eB (a == b)):=
 Bo hx hy rfl fun w=>by
  have h6:binOp .eql t (.bool a) (.bool b)=(do pure (.bool (←Op.equal t (.bool a) (.bool b)))):=rfl
  have h7:eqGuard .eql t x y (.bool a) (.bool b)=pure ():=rfl
  rw [h6,h7]
  simp [SD hp.out w,go_sem]
theorem bS{t yt:TypeId}{x y:Operand}{a b:Bool}[hp:Nw P t](hx:ev f x=some (eB a))(hy:ev f y=some (eB b)):AY P TB Γ ⟨d,.binOp .neq t x y yt,ty,pos,af,g⟩ f σ nx (eB (a != b)):=
 Bo hx hy rfl fun w=>by
  have h6:binOp .neq t (.bool a) (.bool b)=(do pure (.bool (!(←Op.equal t (.bool a) (.bool b))))):=rfl
  have h7:eqGuard .neq t x y (.bool a) (.bool b)=pure ():=rfl
  rw [h6,h7]
  simp [SD hp.out w,go_sem,bne]
theorem ei{op:Op}{e:E}(h:c8 f op=some e):AY P TB Γ ⟨d,op,ty,pos,af,g⟩ f σ nx e:=by
 unfold c8 at h
 split at h
 ·exact ZD h
 ·split at h
  ·rename_i h1;exact XT h1 h
  ·rename_i h1;exact XS h1 h
  ·cases h
 ·split at h
  ·rename_i h1
   refine TS h1 ?_
   rw [←h]
   congr 1
  ·cases h
 ·split at h
  ·rename_i h1;injection h with h;subst h;exact XR h1
  ·rename_i h1;injection h with h;subst h;exact ZE h1
  ·rename_i h1;injection h with h;subst h;exact XQ h1
  ·cases h
 ·cases h
theorem bI{o:BinOp}{t yt:TypeId}{x y:Operand}{ex ey:E}{c:Bool}(hx:ev f x=some ex)(hy:ev f y=some ey)(hc:YQ o ex ey=some c) :
 AY P TB Γ ⟨d,.binOp o t x y yt,ty,pos,af,g⟩ f σ nx (eB c):=by
 unfold YQ at hc
 split at hc
 ·split at hc
  ·rename_i hk
   have hk:=K8 hk
   subst hk
   unfold aW at hc
   split at hc<;>first|(injection hc with hc;subst hc)|cases hc
   ·exact bR hx hy
   ·exact bQ hx hy
   ·exact bO hx hy
   ·exact bN hx hy
   ·exact bL hx hy
   ·exact bU hx hy
  ·cases hc
 ·unfold aV at hc
  split at hc<;>first|(injection hc with hc;subst hc)|cases hc
  ·exact bK hx hy
  ·exact bT hx hy
 ·cases hc
theorem Oc{k:IntKind}{m:Int}{q:Prop}(h:TZ k m=some q)(hq:q):k.wrap m=m:=by
 unfold TZ at h
 split at h<;>first|(injection h with h;subst h)|cases h
 ·exact IntWalk.i64_in _ hq
 ·exact IntWalk.u64_in _ hq
 ·exact IntWalk.u8_in _ hq
 ·exact IntWalk.i32_in _ hq
theorem dn{o:BinOp}{t yt:TypeId}{x y:Operand}{ex ey e:E}{q:Prop}(hx:ev f x=some ex)(hy:ev f y=some ey)(hc:cV o ex ey=some (q,e))(hq:q) :
 AY P TB Γ ⟨d,.binOp o t x y yt,ty,pos,af,g⟩ f σ nx e:=by
 unfold cV at hc
 split at hc
 ·split at hc
  ·injection hc with hc;injection hc with h1 h2;subst h1;subst h2;exact bY hx hy hq rfl
  ·split at hc
   ·rename_i hk hk'
    have hk:=K8 hk
    have hk':=K8 hk'
    subst hk;subst hk'
    injection hc with hc;injection hc with h1 h2;subst h1;subst h2;exact ZF hx hy hq.1.1 hq.1.2 hq.2
   ·cases hc
  ·split at hc
   ·rename_i hk
    have hk:=K8 hk
    subst hk
    unfold dJ at hc
    split at hc
    ·obtain⟨q',hr,he⟩:=Option.map_eq_some_iff.1 hc
     injection he with h1 h2;subst h1;subst h2;exact bF hx hy (Oc hr hq)
    ·obtain⟨q',hr,he⟩:=Option.map_eq_some_iff.1 hc
     injection he with h1 h2;subst h1;subst h2;exact bZ hx hy (Oc hr hq)
    ·obtain⟨q',hr,he⟩:=Option.map_eq_some_iff.1 hc
     injection he with h1 h2;subst h1;subst h2;exact Yy hx hy (Oc hr hq)
    ·injection hc with hc;injection hc with h1 h2;subst h1;subst h2;exact ZG hx hy hq.1 hq.2
    ·injection hc with hc;injection hc with h1 h2;subst h2;exact bG hx hy rfl
    ·injection hc with hc;injection hc with h1 h2;subst h2;exact dw hx hy rfl
    ·cases hc
   ·cases hc
 ·split at hc
  ·injection hc with hc;injection hc with h1 h2;subst h1;subst h2;exact Yx hx hy hq
  ·cases hc
 ·cases hc
theorem bM{s k off:Nat}{x:Operand}{ex e:E}[hf:Nx P s k off](hx:ev f x=some ex)(h:Y7 off ex=some e):AY P TB Γ ⟨d,.fieldAddr s x k,ty,pos,af,g⟩ f σ nx e:=by
 unfold Y7 at h
 split at h<;>first|(injection h with h;subst h)|cases h
 ·exact TT hx
 ·exact VM hx
theorem dv{t:TypeId}{x:Operand}{ex e:E}{ag:Bool}{n:Nat}[hl:DE P t ag n](hx:ev f x=some ex)(h:df ag n ex=some e):AY P TB Γ ⟨d,.load t x,ty,pos,af,g⟩ f σ nx e:=by
 unfold df at h
 split at h
 ·split at h
  ·injection h with h;subst h;exact Pv hx
  ·split at h
   ·rename_i hb;injection h with h;subst h;exact TV hx (Nat.le_of_ble_eq_true hb)
   ·cases h
  ·cases h
 ·cases h
theorem VT{t:TypeId}{x:Operand}{id k i j:Nat}{T:TypeId}{rows:List (List C)}{r:List C}{e:E}{ag:Bool}{n:Nat}[hl:DE P t ag n](hx:ev f x=some (.o (.ptr id k i j)))(ho:look σ id=some (.cells T k rows))(hr:rows[i]? = some r)
 (h:bp ag n j r=some e):AY P TB Γ ⟨d,.load t x,ty,pos,af,g⟩ f σ nx e:=by
 unfold bp at h
 split at h
 ·obtain⟨c,hc,he⟩:=Option.map_eq_some_iff.1 h
  subst he
  exact N8 hx ho hr hc
 ·split at h
  ·rename_i hb;injection h with h;subst h;exact VV hx ho hr (Nat.le_of_ble_eq_true hb)
  ·cases h
theorem dq{t:TypeId}{x:Operand}{k off n:Nat}{ag:Bool}{cs:List C}{e:E}[hf:Km P t k off ag n](hx:ev f x=some (.a cs))(h:db ag off n cs=some e):AY P TB Γ ⟨d,.field t x k,ty,pos,af,g⟩ f σ nx e:=by
 unfold db at h
 split at h
 ·obtain⟨c,hc,he⟩:=Option.map_eq_some_iff.1 h
  subst he
  exact XN hx hc
 ·split at h
  ·rename_i hb;injection h with h;subst h;exact VL hx (Nat.le_of_ble_eq_true hb)
  ·cases h
theorem dr{t:TypeId}{x y:Operand}{ex e:E}{n:Int}{len k:Nat}{ik:IntKind}[hl:MD P t len k](hx:ev f x=some ex)(hy:ev f y=some (eI ik n))(h:de k n ex=some e)(hn:0≤n∧n < len) :
 AY P TB Γ ⟨d,.indexAddr t x y,ty,pos,af,g⟩ f σ nx e:=by
 unfold de at h
 split at h<;>first|(injection h with h;subst h)|cases h
 ·exact TU hx hy hn.1 hn.2
 ·exact VQ hx hy hn.1 hn.2
theorem bP{t e:TypeId}{x:Operand}{ex r:E}{k b:Nat}[hl:BY P t e k b](hx:ev f x=some ex)(h:dg k ex=some r):AY P TB Γ ⟨d,.call ⟨.builtin .len,#[x],#[t]⟩,ty,pos,af,g⟩ f σ nx r:=by
 unfold dg at h
 split at h
 ·injection h with h;subst h;exact VU hx
 ·split at h
  ·injection h with h;subst h;exact Zz hx
  ·cases h
 ·cases h
theorem JA{x:Option E}{q:Prop}{e:E}(h:tr x=some (q,e)):x=some e:=by
 cases x with
 | none=>cases h
 | some y=>injection h with h;injection h with _ h;rw [h]
theorem Zg{i:TI}{t:TypeId}{x:Operand}{a e:E}(hi:Dm P t i)(hx:ev f x=some a)(h:Zf i a=some e):AY P TB Γ ⟨d,.call ⟨.builtin .len,#[x],#[t]⟩,ty,pos,af,g⟩ f σ nx e:=by
 unfold Zf at h
 split at h
 ·split at h
  ·rename_i hs
   injection h with h;subst h
   haveI:=hi.UT hs
   exact ZC hx
  ·cases h
 ·split at h
  ·rename_i hs
   haveI:=hi.OU hs
   exact bP hx h
  ·cases h
theorem Zc{i:TI}{t:TypeId}{x y:Operand}{a b e:E}{q:Prop}(hi:Dm P t i)(hx:ev f x=some a)(hy:ev f y=some b)(h:Za i a b=some (q,e))(hq:q):AY P TB Γ ⟨d,.indexAddr t x y,ty,pos,af,g⟩ f σ nx e:=by
 unfold Za at h
 split at h
 ·split at h
  ·rename_i hs
   split at h
   ·rename_i hk
    injection h with h;injection h with h1 h2;subst h1;subst h2
    have:=Nat.eq_of_beq_eq_true hk
    subst this
    haveI:=hi.OU hs
    exact VN hx hy hq.1 hq.2
   ·cases h
  ·cases h
 ·split at h
  ·rename_i hs
   split at h
   ·rename_i hv
    injection h with h;injection h with h1 h2;subst h1;subst h2
    haveI:=hi.bm hs
    exact dr hx hy hv hq
   ·cases h
  ·cases h
 ·cases h
theorem Zl{i:TI}{t yt:TypeId}{x y:Operand}{a b e:E}{q:Prop}(hi:Dm P t i)(hx:ev f x=some a)(hy:ev f y=some b)(h:Zk i.pt a b=some (q,e)):AY P TB Γ ⟨d,.binOp .eql t x y yt,ty,pos,af,g⟩ f σ nx e:=by
 unfold Zk at h
 split at h
 ·rename_i hp
  injection h with h;injection h with h1 h2;subst h2
  haveI:=hi.US hp
  exact TR hx hy
 ·rename_i hp
  injection h with h;injection h with h1 h2;subst h2
  haveI:=hi.US hp
  exact QR hx hy
 ·cases h
theorem YT{i i':TI}{s t:TypeId}{k k':IntKind}{x:Operand}{a e:E}{q:Prop}(hi:Dm P s i)(hi':Dm P t i')(hk:i.ik=some k)(hk':i'.ik=some k')(hx:ev f x=some a)(h:YS k k' a=some (q,e))(hq:q):AY P TB Γ ⟨d,.convert s t x,ty,pos,af,g⟩ f σ nx e:=by
 unfold YS at h
 split at h
 ·split at h
  ·rename_i h1 hr
   injection h with h;injection h with h2 h3;subst h2;subst h3
   have h1:=K8 h1
   subst h1
   haveI:=hi.UR hk
   haveI:=hi'.UR hk'
   exact Zy hx (Oc hr hq)
  ·cases h
 ·cases h
theorem Sz[hT:B7 P]{md:Bool}{op:Op}{q:Prop}{e:E}(h:Wo hT.T md f op=some (q,e))(hq:q):AY P TB Γ ⟨d,op,ty,pos,af,g⟩ f σ nx e:=by
 have hty:=fun t=>CN (P:=P) t hT.ok
 unfold Wo at h
 split at h
 ·split at h
  ·cases h
  ·exact CT (JA h)
 ·rename_i o t x y yt
  split at h
  ·rename_i hx hy
   unfold aQ at h
   split at h
   ·exact Zl (hty t) hx hy h
   ·exact dn hx hy h hq
  ·cases h
 ·rename_i s x k
  split at h
  ·rename_i hf hx
   haveI:=(hty s).Y8 hf
   exact bM hx (JA h)
  ·cases h
 ·rename_i t x k
  split at h
  ·rename_i hf hx
   haveI:=(hty t).Xr hf
   exact dq hx (JA h)
  ·cases h
 ·rename_i t x
  split at h
  ·rename_i hl hx
   haveI:=(hty t).JS hl
   exact dv hx (JA h)
  ·cases h
 ·rename_i t x y
  split at h
  ·rename_i hx hy
   exact Zc (hty t) hx hy h hq
  ·cases h
 ·rename_i x t
  split at h
  ·rename_i hx
   exact Zg (hty t) hx (JA h)
  ·cases h
 ·rename_i s t x
  split at h
  ·rename_i h1 h2 hx
   exact YT (hty s) (hty t) h1 h2 hx h hq
  ·cases h
 ·split at h
  ·rename_i h1
   split at h
   ·rename_i h2
    injection h with h;injection h with _ h;subst h
    exact dp h1 h2
   ·cases h
  ·cases h
 ·exact ei (JA h)
theorem PA[hT:B7 P]{op:Op}{c:Bool}(h:Pz hT.T f op=some c):AY P TB Γ ⟨d,op,ty,pos,af,g⟩ f σ nx (eB c):=by
 have hty:=fun t=>CN (P:=P) t hT.ok
 unfold Pz at h
 split at h
 ·rename_i o t x y yt
  split at h
  ·rename_i hx hy
   split at h
   ·rename_i hb
    haveI:=(hty t).Xq hb
    unfold dK at h
    split at h
    ·injection h with h;subst h;exact bJ hx hy
    ·injection h with h;subst h;exact bS hx hy
    ·cases h
   ·exact bI hx hy h
  ·cases h
 ·split at h
  ·rename_i hx
   injection h with h;subst h
   exact bV hx
  ·cases h
 ·cases h
theorem LC[hT:B7 P]{op:Op}{e:E}(h:J6 hT.T σ f op=some e):AY P TB Γ ⟨d,op,ty,pos,af,g⟩ f σ nx e:=by
 have hty:=fun t=>CN (P:=P) t hT.ok
 unfold J6 at h
 split at h
 ·rename_i t x
  split at h
  ·rename_i hl hx
   split at h
   ·rename_i ho
    split at h
    ·rename_i hk hr
     have hk:=Nat.eq_of_beq_eq_true hk
     subst hk
     haveI:=(hty t).JS hl
     rw [Kz] at hr
     exact VT hx ho hr h
    ·cases h
   ·cases h
  ·cases h
 ·cases h
theorem LF[hT:B7 P]{t:TypeId}{x y:Operand}{σ':Ab}{K:E→Ab→Nat→Prop}(h:Nh hT.T σ f t x y=some σ')(hK:K (.t []) σ' nx):B2 P TB Γ ⟨d,.store t x y,ty,pos,af,g⟩ f σ nx K:=by
 have hty:=fun t=>CN (P:=P) t hT.ok
 unfold Nh at h
 split at h
 ·rename_i hl hx hy
  split at h
  ·rename_i ho
   split at h
   ·rename_i hk hr
    split at h
    ·rename_i h1 h2 h3
     have hk:=Nat.eq_of_beq_eq_true hk
     subst hk
     haveI:=(hty t).JS hl
     rw [Kz] at hr
     injection h with h
     subst h
     exact Hc hx hy h1 ho hr (Nat.eq_of_beq_eq_true h2) (Nat.le_of_ble_eq_true h3) hK
    ·cases h
   ·cases h
  ·cases h
 ·cases h
end
section
variable {P:Program}{TB:Bu}{Γ:Ctx}{ops:Array Oper}{fl:Fl}{i n:Nat}{L:List (Nat×E)}{σ:Ab}{nx:Nat}{K:Env→Ab→Nat→Prop}{d:Tmp}{ty:TypeId}{pos:String}{af:Array Edge}{g:Option (Nat×Bool)}{op:Op}
theorem gA{d:Option Tmp}(hg:Be ops ⟨d,op,ty,pos,af,g⟩ (look L)=some true)(h:Ei P TB Γ ops ⟨d,op,ty,pos,af,g⟩ fl i n K L σ nx):Bq P TB Γ ops ⟨d,op,ty,pos,af,g⟩ fl i n K L σ nx:=h hg
theorem gS{x:E}(hq:∀σ nx,AY P TB Γ ⟨some d,op,ty,pos,af,g⟩ (look L) σ nx x)(h:Lex P TB Γ ops (Af fl (i+1) n) K (look ((d,x)::L)) σ nx):Ei P TB Γ ops ⟨some d,op,ty,pos,af,g⟩ fl i n K L σ nx:=fun hg=>CK hq hg h
theorem gQ{x:E}(hq:AY P TB Γ ⟨some d,op,ty,pos,af,g⟩ (look L) σ nx x)(hf:NC (fl i)=true)(h:Lex P TB Γ ops (Af fl (i+1) n) K (look ((d,x)::L)) σ nx):Ei P TB Γ ops ⟨some d,op,ty,pos,af,g⟩ fl i n K L σ nx:=fun hg=>XM hq hg hf h
theorem gB{c:Bool}(hq:∀σ nx,AY P TB Γ ⟨some d,op,ty,pos,af,g⟩ (look L) σ nx (eB c))(h:∀b,c=b→Lex P TB Γ ops (Af fl (i+1) n) K (look ((d,eB b)::L)) σ nx):Ei P TB Γ ops ⟨some d,op,ty,pos,af,g⟩ fl i n K L σ nx:=fun hg=>TQ hq hg h
theorem dN{c:Bool}(hq:AY P TB Γ ⟨some d,op,ty,pos,af,g⟩ (look L) σ nx (eB c))(hf:NC (fl i)=true)(h:∀b,c=b→Lex P TB Γ ops (Af fl (i+1) n) K (look ((d,eB b)::L)) σ nx):Ei P TB Γ ops ⟨some d,op,ty,pos,af,g⟩ fl i n K L σ nx:=fun hg=>XM hq hg hf (h c rfl)
theorem gW(h:B2 P TB Γ ⟨some d,op,ty,pos,af,g⟩ (look L) σ nx (fun x σ' nx'=>Lex P TB Γ ops (Af fl (i+1) n) K (look ((d,x)::L)) σ' nx'))(hf:fl i=1):Ei P TB Γ ops ⟨some d,op,ty,pos,af,g⟩ fl i n K L σ nx:=fun hg=>Mw h hg hf
theorem dO(h:B2 P TB Γ ⟨none,op,ty,pos,af,g⟩ (look L) σ nx (fun _ σ' nx'=>Lex P TB Γ ops (Af fl (i+1) n) K (look L) σ' nx'))(hf:fl i=1):Ei P TB Γ ops ⟨none,op,ty,pos,af,g⟩ fl i n K L σ nx:=fun hg=>GN h hg hf
theorem yQ{md:Bool}[hT:B7 P]{q:Prop}{x:E}(h:Wo hT.T md (look L) op=some (q,x))(hq:q)(hk:Lex P TB Γ ops (Af fl (i+1) n) K (look ((d,x)::L)) σ nx):Ei P TB Γ ops ⟨some d,op,ty,pos,af,g⟩ fl i n K L σ nx:=gS (fun _ _=>Sz h hq) hk
theorem yB[hT:B7 P]{c:Bool}(h:Pz hT.T (look L) op=some c)(hk:∀b,c=b→Lex P TB Γ ops (Af fl (i+1) n) K (look ((d,eB b)::L)) σ nx):Ei P TB Γ ops ⟨some d,op,ty,pos,af,g⟩ fl i n K L σ nx:=gB (fun _ _=>PA h) hk
theorem yS[hT:B7 P]{x:E}(h:J6 hT.T σ (look L) op=some x)(hf:NC (fl i)=true)(hk:Lex P TB Γ ops (Af fl (i+1) n) K (look ((d,x)::L)) σ nx):Ei P TB Γ ops ⟨some d,op,ty,pos,af,g⟩ fl i n K L σ nx:=gQ (LC h) hf hk
theorem yW[hT:B7 P]{t:TypeId}{x y:Operand}{σ':Ab}(h:Nh hT.T σ (look L) t x y=some σ')(hf:fl i=1)(hk:Lex P TB Γ ops (Af fl (i+1) n) K (look L) σ' nx):Ei P TB Γ ops ⟨none,.store t x y,ty,pos,af,g⟩ fl i n K L σ nx:=dO (LF h hk) hf
theorem yO[hT:B7 P]{T:TypeId}{z:List Value}(h:(Hn hT.T T).ze=some z)(hok:z.all MC=true)(hf:fl i=1)(hK:Lex P TB Γ ops (Af fl (i+1) n) K (look ((d,.o (.ptr nx z.length 0 0))::L)) ((nx,.cells T z.length [z.map zC])::σ) (nx+1)):Ei P TB Γ ops ⟨some d,.alloc T,ty,pos,af,g⟩ fl i n K L σ nx:=
 haveI:=(CN (P:=P) T hT.ok).UU h
 gW (XD hok hK) hf
theorem yM[hT:B7 P]{t:TypeId}{x:Operand}{id k i' j:Nat}{T:TypeId}{rows:List (List C)}{r:List C}{e:E}{ag:Bool}{m:Nat}(hx:ev (look L) x=some (.o (.ptr id k i' j)))(ho:look σ id=some (.cells T k rows))(hr:rows[i']? = some r)(hl:(Hn hT.T t).ld=some (ag,m))
 (h:bp ag m j r=some e) (hf:NC (fl i)=true) (hk:Lex P TB Γ ops (Af fl (i+1) n) K (look ((d,e)::L)) σ nx):Ei P TB Γ ops ⟨some d,.load t x,ty,pos,af,g⟩ fl i n K L σ nx:=
 haveI:=(CN (P:=P) t hT.ok).JS hl
 gQ (VT hx ho hr h) hf hk
theorem yV[hT:B7 P]{t:TypeId}{x y:Operand}{id k i' j m:Nat}{T:TypeId}{rows:List (List C)}{r:List C}{e:E}{ag:Bool}(hx:ev (look L) x=some (.o (.ptr id k i' j)))(hy:ev (look L) y=some e)(ho:OM e=true)(hlk:look σ id=some (.cells T k rows))(hr:rows[i']? = some r)
 (hl:(Hn hT.T t).ld=some (ag,m)) (hn:(eC e).length=m) (hj:Nat.ble (j+m) k=true) (hf:fl i=1) (hk:Lex P TB Γ ops (Af fl (i+1) n) K (look L) ((id,.cells T k (rows.set i' (Aj r j (eC e))))::σ) nx):Ei P TB Γ ops ⟨none,.store t x y,ty,pos,af,g⟩ fl i n K L σ nx:=
 haveI:=(CN (P:=P) t hT.ok).JS hl
 dO (Hc hx hy ho hlk hr hn (Nat.le_of_ble_eq_true hj) hk) hf
theorem ep[hT:B7 P]{α:Type}{t e:TypeId}{x:Operand}{l:List α}{g1:α→List D}{k b:Nat}(hx:ev (look L) x=some (.o (.d (.l (l.map g1)))))(hl:(Hn hT.T t).sl=some (e,k,b))(hk:Lex P TB Γ ops (Af fl (i+1) n) K (look ((d,eI .i64 l.length)::L)) σ nx):Ei P TB Γ ops ⟨some d,.call ⟨.builtin .len,#[x],#[t]⟩,ty,pos,af,g⟩ fl i n K L σ nx:=
 haveI:=(CN (P:=P) t hT.ok).OU hl
 gS (fun _ _=>ZA hx) hk
theorem yL[hT:B7 P]{t e:TypeId}{x y:Operand}{rows:List (List D)}{row:List D}{m:Int}{k b:Nat}{ik:IntKind}(hx:ev (look L) x=some (.o (.d (.l rows))))(hy:ev (look L) y=some (eI ik m))(hr:rows[m.toNat]? = some row)(hl:(Hn hT.T t).sl=some (e,k,b))(hn:row.length=k)(h0:0≤m)
 (hk:Lex P TB Γ ops (Af fl (i+1) n) K (look ((d,.o (.ip row))::L)) σ nx):Ei P TB Γ ops ⟨some d,.indexAddr t x y,ty,pos,af,g⟩ fl i n K L σ nx:=
 haveI:=(CN (P:=P) t hT.ok).OU hl
 gS (fun _ _=>VP hx hy h0 hr hn) hk
theorem yT[hT:B7 P]{t:TypeId}{x y:Operand}{s:List UInt8}{m:Int}{c:UInt8}{ik:IntKind}(hx:ev (look L) x=some (eT s))(hy:ev (look L) y=some (eI ik m))(hc:s[m.toNat]? = some c)(hl:(Hn hT.T t).st=true)(h0:0≤m)
 (hk:Lex P TB Γ ops (Af fl (i+1) n) K (look ((d,eI .u8 (c.toNat:Int))::L)) σ nx):Ei P TB Γ ops ⟨some d,.index t x y,ty,pos,af,g⟩ fl i n K L σ nx:=
 haveI:=(CN (P:=P) t hT.ok).UT hl
 gS (fun _ _=>VS hx hy h0 hc) hk
def dy(k m:Nat)(z:List Value)(es:List E):Option (List (List D)):=match es.all OM,LZ es with
 | true,some rows=>match rows.all fun r=>Nat.beq r.length k,Nat.beq z.length k,z.all MC,Nat.ble 1 k,Nat.ble (m*k) 16777216 with
  | true,true,true,true,true=>some rows
  | _,_,_,_,_=>none
 | _,_=>none
theorem yZ[hT:B7 P]{t e:TypeId}{k b m:Nat}{z:List Value}{parts:Array (Nat×Operand)}{es:List E}{rows:List (List D)}(hl:(Hn hT.T t).sl=some (e,k,b))(hz:(Hn hT.T e).ze=some z)(hp:Cr 0 (parts.toList.map (·.2))=parts.toList)(hn:parts.toList.length=m)
 (hes:HE (look L) (parts.toList.map (·.2))=some es) (hv:dy k m z es=some rows)
 (h:Lex P TB Γ ops (Af fl (i+1) n) K (look ((d,.o (.d (.l rows)))::L)) σ nx):Ei P TB Γ ops ⟨some d,.buildSlice t m parts,ty,pos,af,g⟩ fl i n K L σ nx:=by
 haveI:=(CN (P:=P) t hT.ok).OU hl
 haveI:=(CN (P:=P) e hT.ok).UU hz
 unfold dy at hv
 split at hv
 ·rename_i h1 h2
  split at hv
  ·rename_i h3 h4 h5 h6 h7
   injection hv with hv
   subst hv
   exact gS (fun _ _=>Lx hp hn hes h1 h2 h3 (Nat.eq_of_beq_eq_true h4) h5 h6 h7) h
  ·cases hv
 ·cases hv
theorem yY{T:TypeId}{x:Operand}{e:E}{ds:List D}(hx:ev (look L) x=some e)(ho:OM e=true)(hd:MB (eC e)=some ds)(h:Lex P TB Γ ops (Af fl (i+1) n) K (look ((d,.o (.ip ds))::L)) σ nx):Ei P TB Γ ops ⟨some d,.box T x,ty,pos,af,g⟩ fl i n K L σ nx:=gS (fun _ _=>Dc hx ho hd) h
def XH:Nat→List (Nat×Operand)→Bool
 | _,[]=>true
 | k,(i,_)::r=>Nat.beq i k && XH (k+1) r
theorem So:∀(l:List (Nat×Operand)) (k:Nat),XH k l=true→Cr k (l.map (·.2))=l
 | [],_,_=>rfl
 | (i,x)::r,k,h=>by
  unfold XH at h
  rw [Bool.and_eq_true] at h
  have h1:=Nat.eq_of_beq_eq_true h.1
  subst h1
  have:=So r (i+1) h.2
  simp [Cr,this]
def XI(c:Nat):Option E→Bool
 | some (.o (.ptr id _ _ _))=>NC c || (Nat.beq c (10+id) && !Nat.ble 1000 c)
 | _=>NC c
theorem Wp{T:List (Nat×TI)}{σ σ':Ab}{f:Env}{t:TypeId}{x:Operand}{id k i j:Nat}(hx:ev f x=some (.o (.ptr id k i j)))(h:look σ' id=look σ id):J6 T σ' f (.load t x)=J6 T σ f (.load t x):=by
 unfold J6
 simp only [hx]
 cases (Hn T t).ld with
 | none=>rfl
 | some p=>obtain⟨ag,n⟩:=p;simp only [h]
def Sy(T:List (Nat×TI))(sl:Bool)(c nx:Nat)(σ:Ab)(L:List (Nat×E)):Option Tmp→Op→Option (List (Nat×E)×Ab×Nat)
 | some d,.alloc t=>match Nat.beq c 1,(Hn T t).ze with
  | true,some z=>match z.all MC with
   | true=>some ((d,.o (.ptr nx z.length 0 0))::L,(nx,.cells t z.length [z.map zC])::σ,nx+1)
   | false=>none
  | _,_=>none
 | none,.store t x y=>match Nat.beq c 1,Nh T σ (look L) t x y with
  | true,some σ'=>some (L,σ',nx)
  | _,_=>none
 | some d,.load t x=>match XI c (ev (look L) x),J6 T σ (look L) (.load t x) with
  | true,some e=>some ((d,e)::L,σ,nx)
  | _,_=>none
 | some d,.box _ x=>match sl,ev (look L) x with
  | true,some e=>match OM e,MB (eC e) with
   | true,some ds=>some ((d,.o (.ip ds))::L,σ,nx)
   | _,_=>none
  | _,_=>none
 | some d,.buildSlice t m parts=>match sl,(Hn T t).sl with
  | true,some (e,k,_)=>match (Hn T e).ze,HE (look L) (parts.toList.map (·.2)) with
   | some z,some es=>match dy k m z es,XH 0 parts.toList,Nat.beq parts.toList.length m with
    | some rows,true,true=>some ((d,.o (.d (.l rows)))::L,σ,nx)
    | _,_,_=>none
   | _,_=>none
  | _,_=>none
 | _,_=>none
theorem yU[hT:B7 P]{sl:Bool}{d:Option Tmp}{L':List (Nat×E)}{σ':Ab}{nx':Nat}(h:Sy hT.T sl (fl i) nx σ L d op=some (L',σ',nx'))(hk:Lex P TB Γ ops (Af fl (i+1) n) K (look L') σ' nx'):Ei P TB Γ ops ⟨d,op,ty,pos,af,g⟩ fl i n K L σ nx:=by
 unfold Sy at h
 split at h
 ·split at h
  ·rename_i h1 h2
   split at h
   ·rename_i h3
    injection h with h;injection h with e1 h;injection h with e2 e3;subst e1;subst e2;subst e3
    exact yO h2 h3 (Nat.eq_of_beq_eq_true h1) hk
   ·cases h
  ·cases h
 ·split at h
  ·rename_i h1 h2
   injection h with h;injection h with e1 h;injection h with e2 e3;subst e1;subst e2;subst e3
   exact yW h2 (Nat.eq_of_beq_eq_true h1) hk
  ·cases h
 ·split at h
  ·rename_i h1 h2
   injection h with h;injection h with e1 h;injection h with e2 e3;subst e1;subst e2;subst e3
   unfold XI at h1
   split at h1
   ·rename_i hx
    rw [Bool.or_eq_true] at h1
    rcases h1 with h1|h1
    ·exact yS h2 h1 hk
    ·rw [Bool.and_eq_true] at h1
     have h3:=Nat.eq_of_beq_eq_true h1.1
     refine fun hg=>bB (fun σ' nx' hs=>LC (by rw [h3,Nat.add_sub_cancel_left] at hs;rw [Wp (σ:=σ) (σ':=σ') hx hs];exact h2)) hg ⟨Nat.ble_eq_true_of_le (by omega),by simpa using h1.2⟩ hk
   ·exact yS h2 h1 hk
  ·cases h
 ·split at h
  ·rename_i h1
   split at h
   ·rename_i h2 h3
    injection h with h;injection h with e1 h;injection h with e2 e3;subst e1;subst e2;subst e3
    exact yY h1 h2 h3 hk
   ·cases h
  ·cases h
 ·split at h
  ·rename_i h1
   split at h
   ·rename_i h2 h3
    split at h
    ·rename_i h4 h5 h6
     injection h with h;injection h with e1 h;injection h with e2 e3;subst e1;subst e2;subst e3
     exact yZ h1 h2 (So _ _ h5) (Nat.eq_of_beq_eq_true h6) h3 h4 hk
    ·cases h
   ·cases h
  ·cases h
 ·cases h
theorem yP{x:Operand}{args:Array Operand}{tys:Array TypeId}{gg:FuncId}{cap:List C}{es:List E}{r:E}(hx:ev (look L) x=some (.o (.fn gg cap)))(hes:HE (look L) args.toList=some es)(hp:(es.all E.BU && C.CE cap)=true)
 (hs:Pure P TB gg (es++cap.map .o) r) (hr:r.BU=true) (h:Lex P TB Γ ops (Af fl (i+1) n) K (look ((d,r)::L)) σ nx):Ei P TB Γ ops ⟨some d,.call ⟨.value x,args,tys⟩,ty,pos,af,g⟩ fl i n K L σ nx:=gS (fun _ _=>BL hx hes hp hs hr) h
theorem yC{x:Operand}{args:Array Operand}{tys:Array TypeId}{gg:FuncId}{cap:List C}{es:List E}{c:Bool}(hx:ev (look L) x=some (.o (.fn gg cap)))(hes:HE (look L) args.toList=some es)(hp:(es.all E.BU && C.CE cap)=true)
 (hs:Pure P TB gg (es++cap.map .o) (eB c)) (h:∀b,c=b→Lex P TB Γ ops (Af fl (i+1) n) K (look ((d,eB b)::L)) σ nx):Ei P TB Γ ops ⟨some d,.call ⟨.value x,args,tys⟩,ty,pos,af,g⟩ fl i n K L σ nx:=gB (fun _ _=>BL hx hes hp hs rfl) h
theorem yG{d:Option Tmp}{j t:Nat}{w b:Bool}(_hd:(ops[j]?).bind (·.dst)=some t)(_hv:look L t=some (eB b))
 (hT:b=true→Lex P TB Γ ops (Af fl i (n+1)) K (look L) σ nx) (hF:b=false→Lex P TB Γ ops (Af fl i (n+1)) K (look L) σ nx):Bq P TB Γ ops ⟨d,op,ty,pos,af,some (j,w)⟩ fl i n K L σ nx:=by
 intro _
 cases b
 ·exact hF rfl
 ·exact hT rfl
end
end Go.Am
namespace Go.Am
open Go Go.ChangeShapes Go.WideShapes Go.RowKit
def below(w:World)(b:Nat):Prop:=b < w.heap.size
def Rd{α:Type}(P:Program)(w:World)(t:TypeId)(k:Nat)(f:α→List D):Prop:=
 ∀ {H:Type} (enc:TypeId×Value→H) (fuel:Nat) (cs:List Value) (x:DataW H×List MemPlace),DataW.trod enc P w 0 (fun _=>true) true fuel t cs=some x→
  ∃y:α,cs.length=k∧(f y).length=k∧∀(j:Nat) c d,cs[j]? = some c→(f y)[j]? = some d→Cs (below w) w d c
section
variable {P:Program}{w:World}{t e:TypeId}{k:Nat}
theorem IF{c0:Value}{d0:D}(h:Cs (below w) w d0 c0):∀(j:Nat) c d,[c0][j]? = some c→[d0][j]? = some d→Cs (below w) w d c:=by
 intro j c d hc hd
 match j with
 | 0=>simp at hc hd;subst hc;subst hd;exact h
 | j+1=>simp at hc
theorem dR(ht:P.underlying t=some (.int .u8)):Rd P w t 1 (fun n:UInt8=>[.v (.int .u8 n.toNat)]):=fun enc fuel cs x hx=>by
 obtain⟨n,rfl,_,hw⟩:=DataW.trod_int ht hx
 have hb:=bounds_u8 hw
 refine⟨UInt8.ofNat n.toNat,rfl,rfl,IF ?_⟩
 have:((UInt8.ofNat n.toNat).toNat:Int)=n:=by
  simp
  omega
 rw [this]
 exact .v rfl
theorem MJ{a:Addr}{n:Nat}{cs:List Value}(h:w.cells? 0 a n=some cs):cs.length=n∧∀(j:Nat) c,cs[j]? = some c→w.cell? (a.add j)=some c:=by
 unfold World.cells? at h
 rw [if_pos (Nat.zero_le _)] at h
 have hl:=mapM_some_length h
 simp at hl
 refine⟨hl,fun j c hc=>?_⟩
 have hlt:=(List.getElem?_eq_some_iff.1 hc).1
 have:=mapM_some_get h j j (by rw [List.getElem?_range (by omega)])
 rw [this];exact hc
theorem cd{α:Type}{f:α→List D}(ht:P.underlying t=some (.slice e))(hk:P.cellsOf e=k)(h0:0 < k)(hf:Rd P w e k f):Rd P w t 1 (fun l:List α=>[.l (l.map f)]):=fun enc fuel cs x hx=>by
 rcases DataW.trod_slice ht hx with ⟨rfl,_⟩|⟨a,len,cap,elems,rest,n,rfl,rfl,_,_,hlc,hcm,hel,hget,_,_⟩
 ·exact⟨[],rfl,rfl,IF .nil⟩
 ·rw [hk] at hget
  rcases Nat.eq_zero_or_pos len with hl0|hl0
  ·subst hl0
   exact⟨[],rfl,rfl,IF (.e hcm)⟩
  have key:∀i,i < len→∃(y:α) (cs:List Value),w.cells? 0 (a.add (i*k)) k=some cs∧cs.length=k∧(f y).length=k∧∀(j:Nat) c d,cs[j]? = some c→(f y)[j]? = some d→Cs (below w) w d c:=by
   intro i hi
   have h1:=hget i hi
   have hie:i < elems.length:=by omega
   rw [List.getElem?_eq_getElem hie] at h1
   simp only [Option.bind_eq_some_iff] at h1
   obtain⟨cs,h2,h3⟩:=h1
   obtain⟨y,h4,h5,h6⟩:=hf enc n cs _ h3
   exact⟨y,cs,h2,h4,h5,h6⟩
  obtain⟨b,o,rfl,hb⟩:∃b o,a=⟨b,o,none⟩∧b < w.heap.size:=by
   obtain⟨y,cs,h2,h4,_,_⟩:=key 0 hl0
   have h7:=(MJ h2).2 0 (cs[0]'(by omega)) (by simp)
   rw [Nat.zero_mul] at h7
   have h8:∀a:Addr,a.add 0=a:=fun a=>by simp [Addr.add]
   rw [h8,h8] at h7
   unfold World.cell? at h7
   obtain⟨b,o,sp⟩:=a
   split at h7
   ·rename_i c _ _ hh
    split at h7
    ·cases h7
    ·rename_i hs
     cases sp with
     | none=>exact⟨b,o,rfl,(Array.getElem?_eq_some_iff.1 hh).1⟩
     | some s=>simp at hs
   ·cases h7
  have hlist:∀m,m≤len→∃l:List α,l.length=m∧∀(i:Nat) y,l[i]? = some y→(f y).length=k∧∀(j:Nat) d,(f y)[j]? = some d→∃c,w.cell? ⟨b,o+i*k+j,none⟩=some c∧Cs (below w) w d c:=by
   intro m
   induction m with
   | zero=>intro _;exact⟨[],rfl,fun i y h=>by simp at h⟩
   | succ m ih=>
    intro hm
    obtain⟨l,hl,hall⟩:=ih (by omega)
    obtain⟨y,cs,h2,h4,h5,h6⟩:=key m (by omega)
    refine⟨l++[y],by simp [hl],fun i z hz=>?_⟩
    by_cases hi:i < l.length
    ·rw [List.getElem?_append_left hi] at hz;exact hall i z hz
    ·rw [List.getElem?_append_right (by omega)] at hz
     have hi0:i=m:=by
      have:=(List.getElem?_eq_some_iff.1 hz).1
      simp at this;omega
     subst hi0
     rw [hl,Nat.sub_self] at hz
     simp at hz
     subst hz
     refine⟨h5,fun j d hj=>?_⟩
     have hjl:j < cs.length:=by rw [h4,←h5];exact(List.getElem?_eq_some_iff.1 hj).1
     have h7:=(MJ h2).2 j cs[j] (List.getElem?_eq_getElem hjl)
     rw [Bp,Bp] at h7
     exact⟨cs[j],h7,h6 j _ d (List.getElem?_eq_getElem hjl) hj⟩
  obtain⟨l,hl,hall⟩:=hlist len (Nat.le_refl _)
  refine⟨l,rfl,rfl,IF ?_⟩
  have hll:(l.map f).length=len:=by simp [hl]
  rw [←hll]
  refine .l (b:=b) (o:=o) (k:=k) (vs:=fun i j=>(w.cell? ⟨b,o+i*k+j,none⟩).getD undef) hb (by simpa [hl] using hlc) hcm (fun i r hr=>?_) (fun i r j d hr hd=>?_) (fun i r j d hr hd=>?_)
  all_goals
   rw [List.getElem?_map,Option.map_eq_some_iff] at hr
   obtain⟨y,hy,rfl⟩:=hr
  ·exact(hall i y hy).1
  ·obtain⟨c,h1,_⟩:=(hall i y hy).2 j d hd
   rw [h1];rfl
  ·obtain⟨c,h1,h2⟩:=(hall i y hy).2 j d hd
   rw [h1];exact h2
end
def RP(w:World):View:=⟨below w,id,fun _=>0,fun _=>True,0,w⟩
section
variable {P:Program}{w:World}{t:TypeId}{k:Nat}{H:Type}{enc:TypeId×Value→H}
theorem aI{α:Type}{f:α→List D}{e:TypeId}(ht:P.underlying t=some (.slice e))(h:Rd P w t 1 (fun l:List α=>[.l (l.map f)])){v:Value}{d:DataW H}{ps:List MemPlace}{base:Nat}(hv:Value.okWide P w .any base t v)(hd:DataW.Trod enc P w 0 (fun _=>true) true t v d ps) :
 ∃l:List α,Bc (RP w) (.o (.d (.l (l.map f)))) v:=by
 obtain⟨m,hm⟩:=hd
 obtain⟨l,h1,h2,h3⟩:=h enc m _ _ hm
 refine⟨l,?_⟩
 have:v.cells.toList=[v]:=by
  unfold Value.okWide Cell.okWide Cell.ok at hv
  simp only [ht] at hv
  split at hv<;>simp_all [Value.cells]
 rw [this] at h3
 exact .d (h3 0 v _ rfl rfl)
structure Fy (W W':World):Prop where
 os:W'.os=W.os
 output:W'.output=W.output
 size:W.heap.size≤W'.heap.size
 old:∀b,b < W.heap.size→W'.heap[b]? = W.heap[b]?
theorem Fy.sameAt{W W':World}(h:Fy W W'){p:MemPlace}(hp:p.block < W.heap.size):W.sameAt W' p:=by
 cases p with
 | cell b off=>show W'.cell? _=W.cell? _;simp only [World.cell?,h.old b hp]
 | map b=>exact h.old b hp
theorem Fy.kept{W W':World}(h:Fy W W')(may:MemPlace→Prop):W.keptBut W' may:=by
 refine⟨h.os,h.output,fun i hi=>?_⟩
 rw [h.old i hi]
 split
 ·rename_i h1 h2
  rw [h1] at h2
  injection h2 with h2;injection h2 with h3 h4 h5
  exact⟨h4.symm,h5.symm,by rw [h3],fun j _=>by rw [h3]⟩
 ·rename_i h1 h2
  rw [h1] at h2
  injection h2 with h2;injection h2 with h3 h4
  exact .inr ⟨h3.symm,h4.symm⟩
 ·rfl
theorem IZ{W W':World}(hl:laidOutB P=true)(h:Fy W W'){sp:Nat→Bool}:∀ {ts:List TypeId} {vs:List Value} {ds:List (DataW H)} {ps:List MemPlace},(ts.all fun t=>P.readableRec t && decide (t < P.types.size))=true→
 DataW.TrodAll enc P W 0 (fun _=>true) true ts vs ds ps→(∀p∈ps,p.block < W.heap.size)→(∀p∈ps,sp p.block=true)→DataW.TrodAll enc P W' 0 sp true ts vs ds ps
 | [],vs,ds,ps,_,h1,_,_=>by obtain⟨rfl,rfl,rfl⟩:=trodAll_nil h1;exact rfl
 | t::ts,vs,ds,ps,ha,h1,h2,h3=>by
  obtain⟨v,vs',d,ds',p,q,rfl,rfl,rfl,h4,h5⟩:=trodAll_cons h1
  simp only [List.all_cons,Bool.and_eq_true,decide_eq_true_eq] at ha
  refine⟨p,q,Go.WideElems.Trod_stays hl ha.1.1 ha.1.2 h4 (fun x hx=>h.sameAt (h2 x (List.mem_append_left _ hx))) (fun x hx=>h3 x (List.mem_append_left _ hx)),IZ hl h (by simpa using ha.2) h5 (fun x hx=>h2 x (List.mem_append_right _ hx)) (fun x hx=>h3 x (List.mem_append_right _ hx)),rfl⟩
theorem aq{f:Func}{s:ChangeSpec}{again:Bool}{W W':World}{args:Array Value}{ds gs:List (DataW H)}{before:List MemPlace}{tb:TypeId}(hl:laidOutB P=true)(hts:(f.params.toList.all fun t=>P.readableRec t && decide (t < P.types.size))=true)
 (hW:DataW.Whole enc P f.params.toList s.vars false W args.toList ds gs before) (hs:Fy W W') (hv:s.vars=[]) (hr:f.resultTypes = #[tb]) (htb:P.underlying tb=some .bool) (hone:(Value.bool true).resultList 1=[.bool true])
 (hfn:s.fn H (ds++gs) = { results:=[.lit (.bool true)],args:=ds }):s.post enc P f false true false again W args (.bool true) W':=by
 have hlt:=hW.lt
 have hW':=hW
 obtain⟨p,q,hA,hV,he,hz,hn⟩:=hW
 rw [hv] at hV
 obtain⟨rfl,rfl⟩:=trodVars_none hV
 rw [List.append_nil] at he
 subst he
 have hres:∀(b:Nat) (sp:Nat→Bool) (hd:Bool),DataW.TrodAll enc P W' b sp hd f.resultTypes.toList ((Value.bool true).resultList f.resultTypes.size) (s.fn H (ds++[])).results []:=fun b sp hd=>by
  rw [hr,hfn]
  show DataW.TrodAll enc P W' b sp hd [tb] ((Value.bool true).resultList 1) [.lit (.bool true)] []
  rw [hone]
  exact trodAll_mk1 (RowKit.shut_bool htb true)
 have hargs:∀sp:Nat→Bool,(∀x∈before,sp x.block=true)→DataW.TrodAll enc P W' 0 sp true f.params.toList args.toList (s.fn H (ds++[])).args before:=fun sp hsp=>by
  rw [hfn]
  exact IZ hl hs hts hA hlt hsp
 have hvars:∀sp:Nat→Bool,DataW.TrodVars enc P W' sp s.vars (s.fn H (ds++[])).vars []:=fun sp=>by
  rw [hv,hfn];exact rfl
 refine⟨ds,[],before,[],before,[],hW',hres _ _ _,hargs _ fun x hx=>by simpa using hlt x hx,hvars _,hs.kept _,fun _=>?_⟩
 refine⟨ok_one hr hone (okWide_bool_mk htb true),_,_,([]++before)++[],⟨[]++before,[],trodAll_append (hargs _ (fun _ _=>rfl)) (hres _ _ _),hvars _,rfl,?_,fun ha=>by cases ha⟩,fun x hx _=>by simpa using hx⟩
 intro b off hp
 have hp':MemPlace.cell b off∈before:=by simpa using hp
 have h1:=hz b off hp'
 have h2:b < W.heap.size:=hlt _ hp'
 simpa [World.frozen?,hs.old b h2] using h1
end
end Go.Am
namespace Go.Am
open Go
def ET(s:Int)(n:Nat):Bool:=decide (Ki .i64 (s.fdiv (2 ^ min n 64)) 1=1)
def hasB(s n:Int):Bool:=decide (0≤n) && ET s n.toNat
def BW(n:Int):Bool:=decide (0≤n∧n≤63)
abbrev iD(n:Int):D:=.v (.int .i64 n)
abbrev bD(b:Bool):D:=.v (.bool b)
abbrev tD(s:List UInt8):D:=.v (.string ⟨s.toArray⟩)
abbrev Bk(n:Int):List D:=[iD n]
abbrev Fb(b:Bool):List D:=[bD b]
abbrev Cm(s:List UInt8):List D:=[tD s]
abbrev CO(l:List Int):D:=.l (l.map Bk)
abbrev EK(l:List Bool):D:=.l (l.map Fb)
abbrev A7(l:List (List UInt8)):D:=.l (l.map Cm)
abbrev AB(n:Int):List C:=[.d (iD n)]
abbrev AQ(b:Bool):List C:=[.d (bD b)]
abbrev CW(s:List UInt8):List C:=[.d (tD s)]
abbrev C1(l:List Int):List D:=[CO l]
abbrev Cf(l:List (List Int)):D:=.l (l.map C1)
abbrev Qq(l:List Int):List C:=[.d (CO l)]
abbrev HH(l:List (List Int)):List D:=[Cf l]
abbrev Xw(l:List (List (List Int))):D:=.l (l.map HH)
structure JH where
 f:Int
 l:Int
 t:Int
 deriving DecidableEq
structure Sys where
 al:Int
 st:Int
 es:List JH
structure AN where
 al:Int
 nx:List (List Int)
 ac:List Bool
abbrev JP(e:JH):List D:=[iD e.f,iD e.l,iD e.t]
abbrev aY(e:JH):E:=.a [.d (iD e.f),.d (iD e.l),.d (iD e.t)]
abbrev KZ(l:List JH):D:=.l (l.map JP)
abbrev SL(s:Sys):List D:=[iD s.al,iD s.st,KZ s.es]
abbrev YZ(s:Sys):E:=.a [.d (iD s.al),.d (iD s.st),.d (KZ s.es)]
abbrev WK(l:List Sys):D:=.l (l.map SL)
abbrev Bn(a:AN):List D:=[iD a.al,Cf a.nx,EK a.ac]
abbrev AT(a:AN):E:=.a [.d (iD a.al),.d (Cf a.nx),.d (EK a.ac)]
abbrev Qd(l:List AN):D:=.l (l.map Bn)
abbrev Ai(l:List Int):E:=.o (.d (CO l))
abbrev NK(l:List Bool):E:=.o (.d (EK l))
abbrev Ds(l:List (List Int)):E:=.o (.d (Cf l))
abbrev Bf(l:List (List UInt8)):E:=.o (.d (A7 l))
abbrev Yq(l:List JH):E:=.o (.d (KZ l))
def Az(s:Int)(k:Nat):List Int:=((List.range k).filter (ET s)).map Int.ofNat
theorem AM(s:Int)(k:Nat):(Az s k).length≤k:=by
 unfold Az;rw [List.length_map];exact Nat.le_trans (List.length_filter_le _ _) (by simp)
theorem B0(s:Int)(k:Nat):Az s (k+1)=Az s k++if ET s k then [(k:Int)] else []:=by
 unfold Az
 rw [List.range_succ,List.filter_append,List.map_append]
 cases h:ET s k<;>simp [h]
abbrev Ac(s:Int):List Int:=Az s 6
def FB(al st:Int)(e:JH):Bool:=decide (0≤e.f∧e.f < st∧0≤e.t∧e.t < st∧0≤e.l∧e.l < 6) && ET al e.l.toNat
def Jb(e f:JH):Bool:=if e.f≠f.f then decide (e.f < f.f) else if e.l≠f.l then decide (e.l < f.l) else decide (e.t < f.t)
def Hw(s:Sys)(i:Nat):Bool:=match s.es[i]? with
 | none=>true
 | some e=>FB s.al s.st e && match i with
  | 0=>true
  | j+1=>match s.es[j]? with
   | none=>true
   | some p=>Jb p e
def CU(s:Sys):Bool:=BW s.al && decide (1≤s.st∧s.st≤16) && (List.range s.es.length).all (Hw s)
theorem E9{α:Type}{l:List α}{f:α→Bool}{k:Nat}{x:α}(h:l[k]? = some x)(h1:(l.take k).all f=true)(h2:f x=true):(l.take (k+1)).all f=true:=by
 rw [List.take_add_one,h];simp [List.all_append,h1,h2]
theorem GX{α:Type}{l:List α}{f:α→Bool}{k:Nat}{x:α}(h:l[k]? = some x)(h2:f x=false):l.all f=false:=by
 rw [List.all_eq_false];exact⟨x,List.mem_of_getElem? h,by simp [h2]⟩
theorem E8{α:Type}{l:List α}{f:α→Bool}{k:Nat}(h:(l.take k).all f=true)(hk:l.length≤k):l.all f=true:=by
 rwa [List.take_of_length_le hk] at h
theorem get_map{α β:Type}{l:List α}{g:α→β}{k:Nat}{x:α}(h:l[k]? = some x):(l.map g)[((k:Nat):Int).toNat]? = some (g x):=by simp [h]
theorem get_some{α:Type}{l:List α}{k:Nat}(h:k < l.length):∃x,l[k]? = some x:=⟨_,List.getElem?_eq_getElem h⟩
def Og(n:Int)(q:Int):Bool:=decide (0≤q∧q < n)
def DU(ls n:Int)(row:List Int):Bool:=decide ((row.length:Int)=ls) && row.all (Og n)
def Ay(a:AN):Bool:=BW a.al && decide (1≤a.nx.length∧a.nx.length≤12) && decide (a.ac.length=a.nx.length) && a.nx.all (DU (Ac a.al).length a.nx.length)
end Go.Am
