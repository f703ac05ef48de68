/-
  The steps of a walk, few and short: what an operation gives is reckoned.
-/
import Derived.Test.YtbfgijpfhgmepaaGreatDoorPart5
import Derived.ProofKit
import Derived.OpenShut
import Derived.WideKeyArgs
import Derived.Deep.DeepHandedRow
import Derived.Lib.LaidTab
set_option linter.constructorNameAsVariable false
set_option linter.unusedSectionVars false
set_option linter.unusedSimpArgs false
set_option linter.unusedVariables false
namespace Go.Am
open Go
class RK (P:Program) (t:TypeId):Prop where
 out:P.underlying t=some .bool
theorem oA{p:Prop}[Decidable p]:(decide p=true)=p:=decide_eq_true_eq
theorem oB{p:Prop}[Decidable p]:decide p=false↔¬p:=decide_eq_false_iff_not
theorem oC{α β:Type}{l:List α}{f:α→β}:(l.map f).length=l.length:=List.length_map f
theorem oD{α:Type}{l m:List α}:(l++m).length=l.length+m.length:=List.length_append
theorem oE{α:Type}{n:Nat}{x:α}:(List.replicate n x).length=n:=List.length_replicate
theorem oF{α:Type}{x:α}{l:List α}:(x::l).length=l.length+1:=List.length_cons
theorem oG{α:Type}:([]:List α).length=0:=List.length_nil
theorem oZ:(∀(p:Prop) [Decidable p],(decide p=true)=p)∧(∀(p:Prop) [Decidable p],decide p=false↔¬p)∧(∀(α β:Type) (l:List α) (f:α→β),(l.map f).length=l.length)∧(∀(α:Type) (l m:List α),(l++m).length=l.length+m.length)∧(∀(α:Type) (n:Nat) (x:α),(List.replicate n x).length=n)∧(∀(α:Type) (x:α) (l:List α),(x::l).length=l.length+1)∧∀(α:Type),([]:List α).length=0:=
 ⟨fun _ _=>oA,fun _ _=>oB,fun _ _ _ _=>oC,fun _ _ _=>oD,fun _ _ _=>oE,fun _ _ _=>oF,fun _=>oG⟩
structure TI where
 ld:Option (Bool×Nat):=none
 ik:Option IntKind:=none
 st:Bool:=false
 sl:Option (Nat×Nat×Nat):=none
 ar:Option (Nat×Nat):=none
 fl:List (Option (Nat×Bool×Nat)):=[]
 pt:Bool:=false
 bo:Bool:=false
 ze:Option (List Value):=none
def Ts(P:Program)(t:Nat):Nat→List (Option (Nat×Bool×Nat))→Prop
 | _,[]=>True
 | k,none::r=>Ts P t (k+1) r
 | k,some x::r=>(Zv P t k=some x.1∧Zw P t k=some x)∧Ts P t (k+1) r
structure EP (P:Program) (t:Nat) (i:TI):Prop where
 ld:i.ld=none∨iw P t=i.ld
 ik:i.ik=none∨P.underlying t=i.ik.map .int
 st:i.st=false∨P.underlying t=some .string
 sl:i.sl=none∨gy P t=i.sl
 ar:i.ar=none∨jJ P t=i.ar
 fl:Ts P t 0 i.fl
 pt:i.pt=false∨∃e,P.underlying t=some (.pointer e)
 bo:i.bo=false∨P.underlying t=some .bool
 ze:i.ze=none∨az P t=i.ze
def Xt(P:Program):List (Nat×TI)→Prop
 | []=>True
 | (t,i)::r=>EP P t i∧Xt P r
def me:Value→Value→Bool
 | .int k n,.int k' n'=>decide (k=k') && decide (n=n')
 | .bool a,.bool b=>decide (a=b)
 | .string ⟨⟨a⟩⟩,.string ⟨⟨b⟩⟩=>a.isEmpty && b.isEmpty
 | .slice none 0 0,.slice none 0 0=>true
 | .pointer none,.pointer none=>true
 | .map none,.map none=>true
 | .nilFunc,.nilFunc=>true
 | .nilIface,.nilIface=>true
 | _,_=>false
theorem jr:∀ {a b:Value},me a b=true→a=b:=by
 intro a b h
 unfold me at h
 split at h<;>simp_all
def lA:List Value→List Value→Bool
 | [],[]=>true
 | a::l,b::m=>me a b && lA l m
 | _,_=>false
theorem dQ:∀ {l m:List Value},lA l m=true→l=m
 | [],[],_=>rfl
 | a::l,b::m,h=>by
  unfold lA at h
  rw [Bool.and_eq_true] at h
  rw [jr h.1,dQ h.2]
 | [],_::_,h=>by cases h
 | _::_,[],h=>by cases h
def jV(P:Program)(t:Nat):Nat→List (Option (Nat×Bool×Nat))→Bool
 | _,[]=>true
 | k,none::r=>jV P t (k+1) r
 | k,some x::r=>decide (Zv P t k=some x.1) && decide (Zw P t k=some x) && jV P t (k+1) r
theorem VZ{P:Program}{t:Nat}:∀ {l:List (Option (Nat×Bool×Nat))} {k:Nat},jV P t k l=true→Ts P t k l
 | [],_,_=>trivial
 | none::r,k,h=>VZ (l:=r) (k:=k+1) h
 | some x::r,k,h=>by
  unfold jV at h
  simp only [Bool.and_eq_true,decide_eq_true_eq] at h
  exact⟨h.1,VZ h.2⟩
def mE(d:Option TypeDesc)(i:TI):Bool:=match d with
 | some (.int k)=>(match i.ik with|none=>true|some k'=>decide (k=k')) && !i.st && !i.pt && !i.bo
 | some .string=>i.ik.isNone && !i.pt && !i.bo
 | some (.pointer _)=>i.ik.isNone && !i.st && !i.bo
 | some .bool=>i.ik.isNone && !i.st && !i.pt
 | _=>i.ik.isNone && !i.st && !i.pt && !i.bo
def l6(P:Program)(t:Nat)(i:TI):Bool:=
 (i.ld.isNone || decide (iw P t=i.ld)) && (mE (P.underlying t) i && ((i.sl.isNone || decide (gy P t=i.sl)) && ((i.ar.isNone || decide (jJ P t=i.ar)) && (jV P t 0 i.fl && match i.ze with
  | none=>true
  | some l=>match az P t with
   | some l'=>lA l' l
   | none=>false))))
theorem or_none{α:Type}[DecidableEq α]{a b:Option α}(h:(b.isNone || decide (a=b))=true):b=none∨a=b:=by
 rw [Bool.or_eq_true] at h
 rcases h with h|h
 ·left;cases b<;>simp_all
 ·right;exact of_decide_eq_true h
theorem jk{P:Program}{t:Nat}{i:TI}(h:l6 P t i=true):EP P t i:=by
 unfold l6 at h
 simp only [Bool.and_eq_true] at h
 obtain⟨h1,h2,h3,h4,h5,h6⟩:=h
 have hd:(i.ik=none∨P.underlying t=i.ik.map .int)∧(i.st=false∨P.underlying t=some .string)∧(i.pt=false∨∃e,P.underlying t=some (.pointer e))∧(i.bo=false∨P.underlying t=some .bool):=by
  unfold mE at h2
  split at h2
  ·rename_i k hk
   cases hik:i.ik<;>simp_all
  all_goals simp_all
 refine⟨or_none h1,hd.1,hd.2.1,or_none h3,or_none h4,VZ h5,hd.2.2.1,hd.2.2.2,?_⟩
 split at h6
 ·rename_i hz;exact .inl hz
 ·rename_i l hz
  split at h6
  ·rename_i l' hz'
   right;rw [hz',hz,dQ h6]
  ·cases h6
def gP(P:Program):List (Nat×TI)→Bool
 | []=>true
 | (t,i)::r=>l6 P t i && gP P r
theorem XA{P:Program}:∀ {l:List (Nat×TI)},gP P l=true→Xt P l
 | [],_=>trivial
 | (t,i)::r,h=>by
  unfold gP at h
  rw [Bool.and_eq_true] at h
  exact⟨jk h.1,XA h.2⟩
class CZ (P:Program) where
 T:List (Nat×TI)
 ok:Xt P T
def JM:List (Nat×TI)→Nat→TI
 | [],_=>{}
 | (k,x)::r,t=>bif Nat.beq k t then x else JM r t
def nth{α:Type}:List α→Nat→Option α
 | [],_=>none
 | x::_,0=>some x
 | _::r,n+1=>nth r n
theorem NX{α:Type}:∀(l:List α) (i:Nat),nth l i=l[i]?
 | [],_=>by simp [nth]
 | o::_,0=>by simp [nth]
 | _::r,n+1=>by simp [nth,NX r n]
theorem DM{P:Program}(t:Nat):∀ {T:List (Nat×TI)},Xt P T→EP P t (JM T t)
 | [],_=>⟨.inl rfl,.inl rfl,.inl rfl,.inl rfl,.inl rfl,trivial,.inl rfl,.inl rfl,.inl rfl⟩
 | (k,x)::r,h=>by
  unfold JM
  cases hb:Nat.beq k t
  ·exact DM t h.2
  ·have:=Nat.eq_of_beq_eq_true hb
   subst this
   exact h.1
section
variable {P:Program}{t:Nat}{i:TI}
theorem EP.MT(h:EP P t i){ag:Bool}{n:Nat}(e:i.ld=some (ag,n)):Dp P t ag n:=⟨by rcases h.ld with h|h<;>simp_all⟩
theorem EP.bC(h:EP P t i){k:IntKind}(e:i.ik=some k):JV P t k:=⟨by rcases h.ik with h|h<;>simp_all⟩
theorem EP.bF(h:EP P t i)(e:i.st=true):DJ P t:=⟨by rcases h.st with h|h<;>simp_all⟩
theorem EP.T8(h:EP P t i){e k b:Nat}(he:i.sl=some (e,k,b)):CG P t e k b:=⟨by rcases h.sl with h|h<;>simp_all⟩
theorem EP.jX(h:EP P t i){n k:Nat}(he:i.ar=some (n,k)):Qs P t n k:=⟨by rcases h.ar with h|h<;>simp_all⟩
theorem EP.bE(h:EP P t i)(e:i.pt=true):VF P t:=⟨h.pt.resolve_left (by simp [e])⟩
theorem EP.eD(h:EP P t i)(e:i.bo=true):RK P t:=⟨by rcases h.bo with h|h<;>simp_all⟩
theorem EP.bG(h:EP P t i){z:List Value}(e:i.ze=some z):BI P t z:=⟨by rcases h.ze with h|h<;>simp_all⟩
theorem Ts.get:∀ {l:List (Option (Nat×Bool×Nat))} {k j:Nat} {x:Nat×Bool×Nat},Ts P t k l→nth l j=some (some x)→Zv P t (k+j)=some x.1∧Zw P t (k+j)=some x
 | [],_,_,_,_,h=>by simp [nth] at h
 | none::r,k,0,x,_,h=>by simp [nth] at h
 | some y::r,k,0,x,hf,h=>by simp [nth] at h;subst h;exact hf.1
 | none::r,k,j+1,x,hf,h=>by
  have:=Ts.get (l:=r) (k:=k+1) (j:=j) (x:=x) hf h
  rwa [show k+(j+1)=k+1+j by omega]
 | some y::r,k,j+1,x,hf,h=>by
  have:=Ts.get (l:=r) (k:=k+1) (j:=j) (x:=x) hf.2 h
  rwa [show k+(j+1)=k+1+j by omega]
theorem EP.ij(h:EP P t i){j off n:Nat}{ag:Bool}(e:nth i.fl j=some (some (off,ag,n))):RL P t j off:=⟨by have:=(h.fl.get e).1;rwa [Nat.zero_add] at this⟩
theorem EP.eE(h:EP P t i){j off n:Nat}{ag:Bool}(e:nth i.fl j=some (some (off,ag,n))):NJ P t j off ag n:=⟨by have:=(h.fl.get e).2;rwa [Nat.zero_add] at this⟩
end
def Gi(P:Program)(TB:Bs)(Γ:Ctx)(ops:Array Oper)(o:Oper)(fl:Fl)(i n:Nat)(K:Env→Ab→Nat→Prop)(L:List (Nat×E))(σ:Ab)(nx:Nat):Prop:=
 Bu ops o (look L)=some true→Bc P TB Γ ops o fl i n K L σ nx
def xE:Bool×List C→Option E
 | (false,[c])=>some (.o c)
 | (true,cs)=>some (.a cs)
 | _=>none
def lL(f:Env):Op→Option E
 | .move x=>ev f x
 | .pick c x y=>match ev f c with
  | some (.o (.d (.v (.bool true))))=>ev f x
  | some (.o (.d (.v (.bool false))))=>ev f y
  | _=>none
 | .extract x k=>match ev f x with
  | some (.t xs)=>(xs[k]?).bind xE
  | _=>none
 | .nilCheck x=>match ev f x with
  | some (.o (.d (.p cs)))=>some (.o (.ip cs))
  | some (.o (.ptr id k i j))=>some (.o (.ptr id k i j))
  | some (.o (.fn gg cs))=>some (.o (.fn gg cs))
  | _=>none
 | _=>none
def ju:IntKind→IntKind→Bool
 | .i64,.i64|.u8,.u8|.u64,.u64|.i32,.i32|.u16,.u16|.u32,.u32=>true
 | _,_=>false
theorem OJ{a b:IntKind}(h:ju a b=true):a=b:=by cases a<;>cases b<;>first|rfl|cases h
def jR(o:BinOp)(m n:Int):Option Bool:=match o with
 | .lss=>some (decide (m < n))
 | .leq=>some (decide (m≤n))
 | .gtr=>some (decide (m > n))
 | .geq=>some (decide (m≥n))
 | .eql=>some (decide (m=n))
 | .neq=>some (decide (m≠n))
 | _=>none
def jQ(o:BinOp)(a b:List UInt8):Option Bool:=match o with
 | .eql=>some (decide (a=b))
 | .neq=>some (decide (a≠b))
 | _=>none
def g9(o:BinOp):E→E→Option Bool
 | .o (.d (.v (.int k m))),.o (.d (.v (.int k' n)))=>match ju k k' with
  | true=>jR o m n
  | false=>none
 | .o (.d (.v (.string ⟨⟨a⟩⟩))),.o (.d (.v (.string ⟨⟨b⟩⟩)))=>jQ o a b
 | _,_=>none
def ZV:IntKind→Int→Option Prop
 | .i64,m=>some (-9223372036854775808≤m∧m≤9223372036854775807)
 | .u64,m=>some (0≤m∧m≤18446744073709551615)
 | .u8,m=>some (0≤m∧m≤255)
 | .i32,m=>some (-2147483648≤m∧m≤2147483647)
 | _,_=>none
def mn(o:BinOp)(k:IntKind)(m n:Int):Option (Prop×E):=match o with
 | .add=>(ZV k (m+n)).map fun q=>(q,eI k (m+n))
 | .sub=>(ZV k (m - n)).map fun q=>(q,eI k (m - n))
 | .mul=>(ZV k (m*n)).map fun q=>(q,eI k (m*n))
 | .rem=>some (0≤m∧0 < n,eI k (m % n))
 | .and=>some (True,eI k (GS k m n))
 | .or=>some (True,eI k (GO k m n))
 | _=>none
def lF(o:BinOp):E→E→Option (Prop×E)
 | .o (.d (.v (.int k m))),.o (.d (.v (.int k' n)))=>match o with
  | .shr=>some (0≤n,eI k (m.fdiv (2 ^ (min n.toNat k.bits))))
  | .quo=>match ju k .i64,ju k' .i64 with
   | true,true=>some ((0≤m∧m≤9223372036854775807)∧0 < n,eI .i64 (m / n))
   | _,_=>none
  | o=>match ju k k' with
   | true=>mn o k m n
   | false=>none
 | .o (.d (.v (.string ⟨⟨a⟩⟩))),.o (.d (.v (.string ⟨⟨b⟩⟩)))=>match o with
  | .add=>some (a.length+b.length≤9223372036854775807,eT (a++b))
  | _=>none
 | _,_=>none
def ie(off:Nat):E→Option E
 | .o (.d (.p cs))=>some (.o (.ip (cs.drop off)))
 | .o (.ptr id k i j)=>some (.o (.ptr id k i (j+off)))
 | _=>none
def lQ(ag:Bool)(n:Nat):E→Option E
 | .o (.d (.p cs))=>match ag,cs with
  | false,c::_=>some (.o (.d c))
  | true,cs=>match Nat.ble n cs.length with
   | true=>some (.a ((cs.take n).map .d))
   | false=>none
  | _,_=>none
 | _=>none
def ix(ag:Bool)(n j:Nat)(r:List C):Option E:=match ag with
 | false=>(r[j]?).map .o
 | true=>match Nat.ble (j+n) r.length with
  | true=>some (.a ((r.drop j).take n))
  | false=>none
def lM(ag:Bool)(off n:Nat)(cs:List C):Option E:=match ag with
 | false=>(cs[off]?).map .o
 | true=>match Nat.ble (off+n) cs.length with
  | true=>some (.a ((cs.drop off).take n))
  | false=>none
def lP(k:Nat)(n:Int):E→Option E
 | .o (.d (.p cs))=>some (.o (.ip (cs.drop (n.toNat*k))))
 | .o (.ptr id k' i j)=>some (.o (.ptr id k' i (j+n.toNat*k)))
 | _=>none
def lR(k:Nat):E→Option E
 | .o (.d (.l rows))=>some (eI .i64 rows.length)
 | .o (.arr _ k' _ len)=>match Nat.beq k' k with
  | true=>some (eI .i64 len)
  | false=>none
 | _=>none
def tr:Option E→Option (Prop×E)
 | some e=>some (True,e)
 | none=>none
def iH:Bool→E→E→Option (Prop×E)
 | true,.o (.d (.p _)),.o (.d (.v (.pointer none)))=>some (True,eB false)
 | true,.o (.d (.v (.pointer none))),.o (.d (.v (.pointer none)))=>some (True,eB true)
 | _,_,_=>none
def jN(pt:Bool)(o:BinOp)(a b:E):Option (Prop×E):=match o with
 | .eql=>iH pt a b
 | o=>lF o a b
def im(i:TI):E→E→Option (Prop×E)
 | .o (.arr id k off len),.o (.d (.v (.int _ m)))=>match i.sl with
  | some (_,k',_)=>match Nat.beq k k' with
   | true=>some (0≤m∧m < len,.o (.ptr id k (off+m.toNat) 0))
   | false=>none
  | none=>none
 | a, .o (.d (.v (.int _ m)))=>match i.ar with
  | some (len,k)=>match lP k m a with
   | some e=>some (0≤m∧m < len,e)
   | none=>none
  | none=>none
 | _,_=>none
def iz(i:TI):E→Option E
 | .o (.d (.v (.string ⟨⟨s⟩⟩)))=>match i.st with
  | true=>some (eI .i64 s.length)
  | false=>none
 | e=>match i.sl with
  | some (_,k,_)=>lR k e
  | none=>none
def hO(k k':IntKind):E→Option (Prop×E)
 | .o (.d (.v (.int k2 m)))=>match ju k2 k,ZV k' m with
  | true,some q=>some (q,eI k' m)
  | _,_=>none
 | _=>none
def da(T:List (Nat×TI))(md:Bool)(f:Env):Op→Option (Prop×E)
 | .assign x=>match md,notNil x with
  | true,false=>none
  | _,_=>tr (ev f x)
 | .binOp o t x y _=>match ev f x,ev f y with
  | some a,some b=>jN (JM T t).pt o a b
  | _,_=>none
 | .fieldAddr s x k=>match nth (JM T s).fl k,ev f x with
  | some (some (off,_,_)),some a=>tr (ie off a)
  | _,_=>none
 | .field t x k=>match nth (JM T t).fl k,ev f x with
  | some (some (off,ag,n)),some (.a cs)=>tr (lM ag off n cs)
  | _,_=>none
 | .load t x=>match (JM T t).ld,ev f x with
  | some (ag,n),some a=>tr (lQ ag n a)
  | _,_=>none
 | .indexAddr t x y=>match ev f x,ev f y with
  | some a,some b=>im (JM T t) a b
  | _,_=>none
 | .call ⟨.builtin .len,⟨[x]⟩,⟨[t]⟩⟩=>match ev f x with
  | some a=>tr (iz (JM T t) a)
  | none=>none
 | .convert s t x=>match (JM T s).ik,(JM T t).ik,ev f x with
  | some k,some k',some a=>hO k k' a
  | _,_,_=>none
 | .makeFunc (.func gg) ⟨[]⟩ caps=>match JL f caps.toList with
  | some es=>match dN es with
   | some cs=>some (True,.o (.fn gg cs))
   | none=>none
  | none=>none
 | op=>tr (lL f op)
def mo:BinOp→E→E→Option Bool
 | .eql,.o (.d (.v (.bool a))),.o (.d (.v (.bool b)))=>some (a == b)
 | .neq,.o (.d (.v (.bool a))),.o (.d (.v (.bool b)))=>some (a != b)
 | _,_,_=>none
def UH(T:List (Nat×TI))(f:Env):Op→Option Bool
 | .binOp o t x y _=>match ev f x,ev f y with
  | some a,some b=>match (JM T t).bo with
   | true=>mo o a b
   | false=>g9 o a b
  | _,_=>none
 | .unOp .not _ x=>match ev f x with
  | some (.o (.d (.v (.bool b))))=>some (!b)
  | _=>none
 | _=>none
def Nb(T:List (Nat×TI))(σ:Ab)(f:Env):Op→Option E
 | .load t x=>match (JM T t).ld,ev f x with
  | some (ag,n),some (.o (.ptr id k i j))=>match look σ id with
   | some (.cells _ k' rows)=>match Nat.beq k k',nth rows i with
    | true,some r=>ix ag n j r
    | _,_=>none
   | _=>none
  | _,_=>none
 | _=>none
def Rt(T:List (Nat×TI))(σ:Ab)(f:Env)(t:Nat)(x y:Operand):Option Ab:=
 match (JM T t).ld,ev f x,ev f y with
 | some (_,n),some (.o (.ptr id k i j)),some e=>match look σ id with
  | some (.cells ct k' rows)=>match Nat.beq k k',nth rows i with
   | true,some r=>match TQ e,Nat.beq (eC e).length n,Nat.ble (j+n) k with
    | true,true,true=>some ((id,.cells ct k (rows.set i (Af r j (eC e))))::σ)
    | _,_,_=>none
   | _,_=>none
  | _=>none
 | _,_,_=>none
section
variable {P:Program}{TB:Bs}{Γ:Ctx}{d:Option Tmp}{ty:TypeId}{pos:String}{af:Array Edge}{g:Option (Nat×Bool)}{f:Env}{σ:Ab}{nx:Nat}
theorem YJ{t:TypeId}{a b:Bool}(he:P.underlying t=some .bool)(w:World):(Op.equal t (.bool a) (.bool b)).run P w=.ok (a == b) w:=by
 unfold Op.equal Op.maxDepth
 rw [show 10000=9999+1 from rfl,Op.equalIn]
 simp [run_underlying he,go_sem]
theorem ky{t yt:TypeId}{x y:Operand}{a b:Bool}[hp:RK P t](hx:ev f x=some (eB a))(hy:ev f y=some (eB b)):AQ P TB Γ ⟨d,.binOp .eql t x y yt,ty,pos,af,g⟩ f σ nx (eB (a == b)):=
 BJ hx hy rfl fun w=>by
  have h6:binOp .eql t (.bool a) (.bool b)=(do pure (.bool (←Op.equal t (.bool a) (.bool b)))):=rfl
  have h7:eqGuard .eql t x y (.bool a) (.bool b)=pure ():=rfl
  rw [h6,h7]
  simp [YJ hp.out w,go_sem]
theorem kJ{t yt:TypeId}{x y:Operand}{a b:Bool}[hp:RK P t](hx:ev f x=some (eB a))(hy:ev f y=some (eB b)):AQ P TB Γ ⟨d,.binOp .neq t x y yt,ty,pos,af,g⟩ f σ nx (eB (a != b)):=
 BJ hx hy rfl fun w=>by
  have h6:binOp .neq t (.bool a) (.bool b)=(do pure (.bool (!(←Op.equal t (.bool a) (.bool b))))):=rfl
  have h7:eqGuard .neq t x y (.bool a) (.bool b)=pure ():=rfl
  rw [h6,h7]
  simp [YJ hp.out w,go_sem,bne]
theorem m8{op:Op}{e:E}(h:lL f op=some e):AQ P TB Γ ⟨d,op,ty,pos,af,g⟩ f σ nx e:=by
 unfold lL at h
 split at h
 ·exact iW h
 ·split at h
  ·rename_i h1;exact fD h1 h
  ·rename_i h1;exact fC h1 h
  ·cases h
 ·split at h
  ·rename_i h1
   refine ZP h1 ?_
   rw [←h]
   congr 1
  ·cases h
 ·split at h
  ·rename_i h1;injection h with h;subst h;exact fz h1
  ·rename_i h1;injection h with h;subst h;exact iX h1
  ·rename_i h1;injection h with h;subst h;exact fy h1
  ·cases h
 ·cases h
theorem kx{o:BinOp}{t yt:TypeId}{x y:Operand}{ex ey:E}{c:Bool}(hx:ev f x=some ex)(hy:ev f y=some ey)(hc:g9 o ex ey=some c) :
 AQ P TB Γ ⟨d,.binOp o t x y yt,ty,pos,af,g⟩ f σ nx (eB c):=by
 unfold g9 at hc
 split at hc
 ·split at hc
  ·rename_i hk
   have hk:=OJ hk
   subst hk
   unfold jR at hc
   split at hc<;>first|(injection hc with hc;subst hc)|cases hc
   ·exact kI hx hy
   ·exact kH hx hy
   ·exact kF hx hy
   ·exact kE hx hy
   ·exact kC hx hy
   ·exact kM hx hy
  ·cases hc
 ·unfold jQ at hc
  split at hc<;>first|(injection hc with hc;subst hc)|cases hc
  ·exact kz hx hy
  ·exact kK hx hy
 ·cases hc
theorem SV{k:IntKind}{m:Int}{q:Prop}(h:ZV k m=some q)(hq:q):k.wrap m=m:=by
 unfold ZV at h
 split at h<;>first|(injection h with h;subst h)|cases h
 ·exact IntWalk.i64_in _ hq
 ·exact IntWalk.u64_in _ hq
 ·exact IntWalk.u8_in _ hq
 ·exact IntWalk.i32_in _ hq
theorem lV{o:BinOp}{t yt:TypeId}{x y:Operand}{ex ey e:E}{q:Prop}(hx:ev f x=some ex)(hy:ev f y=some ey)(hc:lF o ex ey=some (q,e))(hq:q) :
 AQ P TB Γ ⟨d,.binOp o t x y yt,ty,pos,af,g⟩ f σ nx e:=by
 unfold lF at hc
 split at hc
 ·split at hc
  ·injection hc with hc;injection hc with h1 h2;subst h1;subst h2;exact kQ hx hy hq rfl
  ·split at hc
   ·rename_i hk hk'
    have hk:=OJ hk
    have hk':=OJ hk'
    subst hk;subst hk'
    injection hc with hc;injection hc with h1 h2;subst h1;subst h2;exact iZ hx hy hq.1.1 hq.1.2 hq.2
   ·cases hc
  ·split at hc
   ·rename_i hk
    have hk:=OJ hk
    subst hk
    unfold mn at hc
    split at hc
    ·obtain⟨q',hr,he⟩:=Option.map_eq_some_iff.1 hc
     injection he with h1 h2;subst h1;subst h2;exact ku hx hy (SV hr hq)
    ·obtain⟨q',hr,he⟩:=Option.map_eq_some_iff.1 hc
     injection he with h1 h2;subst h1;subst h2;exact kR hx hy (SV hr hq)
    ·obtain⟨q',hr,he⟩:=Option.map_eq_some_iff.1 hc
     injection he with h1 h2;subst h1;subst h2;exact gx hx hy (SV hr hq)
    ·injection hc with hc;injection hc with h1 h2;subst h1;subst h2;exact ja hx hy hq.1 hq.2
    ·injection hc with hc;injection hc with h1 h2;subst h2;exact gv hx hy rfl
    ·injection hc with hc;injection hc with h1 h2;subst h2;exact iY hx hy rfl
    ·cases hc
   ·cases hc
 ·split at hc
  ·injection hc with hc;injection hc with h1 h2;subst h1;subst h2;exact kv hx hy hq
  ·cases hc
 ·cases hc
theorem kD{s k off:Nat}{x:Operand}{ex e:E}[hf:RL P s k off](hx:ev f x=some ex)(h:ie off ex=some e):AQ P TB Γ ⟨d,.fieldAddr s x k,ty,pos,af,g⟩ f σ nx e:=by
 unfold ie at h
 split at h<;>first|(injection h with h;subst h)|cases h
 ·exact ZQ hx
 ·exact cM hx
theorem lZ{t:TypeId}{x:Operand}{ex e:E}{ag:Bool}{n:Nat}[hl:Dp P t ag n](hx:ev f x=some ex)(h:lQ ag n ex=some e):AQ P TB Γ ⟨d,.load t x,ty,pos,af,g⟩ f σ nx e:=by
 unfold lQ at h
 split at h
 ·split at h
  ·injection h with h;subst h;exact UG hx
  ·split at h
   ·rename_i hb;injection h with h;subst h;exact ZS hx (Nat.le_of_ble_eq_true hb)
   ·cases h
  ·cases h
 ·cases h
theorem Yz{t:TypeId}{x:Operand}{id k i j:Nat}{T:TypeId}{rows:List (List C)}{r:List C}{e:E}{ag:Bool}{n:Nat}[hl:Dp P t ag n](hx:ev f x=some (.o (.ptr id k i j)))(ho:look σ id=some (.cells T k rows))(hr:rows[i]? = some r)
 (h:ix ag n j r=some e):AQ P TB Γ ⟨d,.load t x,ty,pos,af,g⟩ f σ nx e:=by
 unfold ix at h
 split at h
 ·obtain⟨c,hc,he⟩:=Option.map_eq_some_iff.1 h
  subst he
  exact SO hx ho hr hc
 ·split at h
  ·rename_i hb;injection h with h;subst h;exact cV hx ho hr (Nat.le_of_ble_eq_true hb)
  ·cases h
theorem lX{t:TypeId}{x:Operand}{k off n:Nat}{ag:Bool}{cs:List C}{e:E}[hf:NJ P t k off ag n](hx:ev f x=some (.a cs))(h:lM ag off n cs=some e):AQ P TB Γ ⟨d,.field t x k,ty,pos,af,g⟩ f σ nx e:=by
 unfold lM at h
 split at h
 ·obtain⟨c,hc,he⟩:=Option.map_eq_some_iff.1 h
  subst he
  exact fw hx hc
 ·split at h
  ·rename_i hb;injection h with h;subst h;exact cL hx (Nat.le_of_ble_eq_true hb)
  ·cases h
theorem lY{t:TypeId}{x y:Operand}{ex e:E}{n:Int}{len k:Nat}{ik:IntKind}[hl:Qs P t len k](hx:ev f x=some ex)(hy:ev f y=some (eI ik n))(h:lP k n ex=some e)(hn:0≤n∧n < len) :
 AQ P TB Γ ⟨d,.indexAddr t x y,ty,pos,af,g⟩ f σ nx e:=by
 unfold lP at h
 split at h<;>first|(injection h with h;subst h)|cases h
 ·exact ZR hx hy hn.1 hn.2
 ·exact cR hx hy hn.1 hn.2
theorem kG{t e:TypeId}{x:Operand}{ex r:E}{k b:Nat}[hl:CG P t e k b](hx:ev f x=some ex)(h:lR k ex=some r):AQ P TB Γ ⟨d,.call ⟨.builtin .len,#[x],#[t]⟩,ty,pos,af,g⟩ f σ nx r:=by
 unfold lR at h
 split at h
 ·injection h with h;subst h;exact cU hx
 ·split at h
  ·injection h with h;subst h;exact iS hx
  ·cases h
 ·cases h
theorem MG{x:Option E}{q:Prop}{e:E}(h:tr x=some (q,e)):x=some e:=by
 cases x with
 | none=>cases h
 | some y=>injection h with h;injection h with _ h;rw [h]
theorem iA{i:TI}{t:TypeId}{x:Operand}{a e:E}(hi:EP P t i)(hx:ev f x=some a)(h:iz i a=some e):AQ P TB Γ ⟨d,.call ⟨.builtin .len,#[x],#[t]⟩,ty,pos,af,g⟩ f σ nx e:=by
 unfold iz at h
 split at h
 ·split at h
  ·rename_i hs
   injection h with h;subst h
   haveI:=hi.bF hs
   exact iV hx
  ·cases h
 ·split at h
  ·rename_i hs
   haveI:=hi.T8 hs
   exact kG hx h
  ·cases h
theorem ir{i:TI}{t:TypeId}{x y:Operand}{a b e:E}{q:Prop}(hi:EP P t i)(hx:ev f x=some a)(hy:ev f y=some b)(h:im i a b=some (q,e))(hq:q):AQ P TB Γ ⟨d,.indexAddr t x y,ty,pos,af,g⟩ f σ nx e:=by
 unfold im at h
 split at h
 ·split at h
  ·rename_i hs
   split at h
   ·rename_i hk
    injection h with h;injection h with h1 h2;subst h1;subst h2
    have:=Nat.eq_of_beq_eq_true hk
    subst this
    haveI:=hi.T8 hs
    exact cO hx hy hq.1 hq.2
   ·cases h
  ·cases h
 ·split at h
  ·rename_i hs
   split at h
   ·rename_i hv
    injection h with h;injection h with h1 h2;subst h1;subst h2
    haveI:=hi.jX hs
    exact lY hx hy hv hq
   ·cases h
  ·cases h
 ·cases h
theorem iI{i:TI}{t yt:TypeId}{x y:Operand}{a b e:E}{q:Prop}(hi:EP P t i)(hx:ev f x=some a)(hy:ev f y=some b)(h:iH i.pt a b=some (q,e)):AQ P TB Γ ⟨d,.binOp .eql t x y yt,ty,pos,af,g⟩ f σ nx e:=by
 unfold iH at h
 split at h
 ·rename_i hp
  injection h with h;injection h with h1 h2;subst h2
  haveI:=hi.bE hp
  exact ZO hx hy
 ·rename_i hp
  injection h with h;injection h with h1 h2;subst h2
  haveI:=hi.bE hp
  exact WL hx hy
 ·cases h
theorem hX{i i':TI}{s t:TypeId}{k k':IntKind}{x:Operand}{a e:E}{q:Prop}(hi:EP P s i)(hi':EP P t i')(hk:i.ik=some k)(hk':i'.ik=some k')(hx:ev f x=some a)(h:hO k k' a=some (q,e))(hq:q):AQ P TB Γ ⟨d,.convert s t x,ty,pos,af,g⟩ f σ nx e:=by
 unfold hO at h
 split at h
 ·split at h
  ·rename_i h1 hr
   injection h with h;injection h with h2 h3;subst h2;subst h3
   have h1:=OJ h1
   subst h1
   haveI:=hi.bC hk
   haveI:=hi'.bC hk'
   exact SJ hx (SV hr hq)
  ·cases h
 ·cases h
theorem YG[hT:CZ P]{md:Bool}{op:Op}{q:Prop}{e:E}(h:da hT.T md f op=some (q,e))(hq:q):AQ P TB Γ ⟨d,op,ty,pos,af,g⟩ f σ nx e:=by
 have hty:=fun t=>DM (P:=P) t hT.ok
 unfold da at h
 split at h
 ·split at h
  ·cases h
  ·exact Bn (MG h)
 ·rename_i o t x y yt
  split at h
  ·rename_i hx hy
   unfold jN at h
   split at h
   ·exact iI (hty t) hx hy h
   ·exact lV hx hy h hq
  ·cases h
 ·rename_i s x k
  split at h
  ·rename_i hf hx
   haveI:=(hty s).ij hf
   exact kD hx (MG h)
  ·cases h
 ·rename_i t x k
  split at h
  ·rename_i hf hx
   haveI:=(hty t).eE hf
   exact lX hx (MG h)
  ·cases h
 ·rename_i t x
  split at h
  ·rename_i hl hx
   haveI:=(hty t).MT hl
   exact lZ hx (MG h)
  ·cases h
 ·rename_i t x y
  split at h
  ·rename_i hx hy
   exact ir (hty t) hx hy h hq
  ·cases h
 ·rename_i x t
  split at h
  ·rename_i hx
   exact iA (hty t) hx (MG h)
  ·cases h
 ·rename_i s t x
  split at h
  ·rename_i h1 h2 hx
   exact hX (hty s) (hty t) h1 h2 hx h hq
  ·cases h
 ·split at h
  ·rename_i h1
   split at h
   ·rename_i h2
    injection h with h;injection h with _ h;subst h
    exact lW h1 h2
   ·cases h
  ·cases h
 ·exact m8 (MG h)
theorem UI[hT:CZ P]{op:Op}{c:Bool}(h:UH hT.T f op=some c):AQ P TB Γ ⟨d,op,ty,pos,af,g⟩ f σ nx (eB c):=by
 have hty:=fun t=>DM (P:=P) t hT.ok
 unfold UH at h
 split at h
 ·rename_i o t x y yt
  split at h
  ·rename_i hx hy
   split at h
   ·rename_i hb
    haveI:=(hty t).eD hb
    unfold mo at h
    split at h
    ·injection h with h;subst h;exact ky hx hy
    ·injection h with h;subst h;exact kJ hx hy
    ·cases h
   ·exact kx hx hy h
  ·cases h
 ·split at h
  ·rename_i hx
   injection h with h;subst h
   exact kN hx
  ·cases h
 ·cases h
theorem Pd[hT:CZ P]{op:Op}{e:E}(h:Nb hT.T σ f op=some e):AQ P TB Γ ⟨d,op,ty,pos,af,g⟩ f σ nx e:=by
 have hty:=fun t=>DM (P:=P) t hT.ok
 unfold Nb at h
 split at h
 ·rename_i t x
  split at h
  ·rename_i hl hx
   split at h
   ·rename_i ho
    split at h
    ·rename_i hk hr
     have hk:=Nat.eq_of_beq_eq_true hk
     subst hk
     haveI:=(hty t).MT hl
     rw [NX] at hr
     exact Yz hx ho hr h
    ·cases h
   ·cases h
  ·cases h
 ·cases h
theorem Pe[hT:CZ P]{t:TypeId}{x y:Operand}{σ':Ab}{K:E→Ab→Nat→Prop}(h:Rt hT.T σ f t x y=some σ')(hK:K (.t []) σ' nx):BS P TB Γ ⟨d,.store t x y,ty,pos,af,g⟩ f σ nx K:=by
 have hty:=fun t=>DM (P:=P) t hT.ok
 unfold Rt at h
 split at h
 ·rename_i hl hx hy
  split at h
  ·rename_i ho
   split at h
   ·rename_i hk hr
    split at h
    ·rename_i h1 h2 h3
     have hk:=Nat.eq_of_beq_eq_true hk
     subst hk
     haveI:=(hty t).MT hl
     rw [NX] at hr
     injection h with h
     subst h
     exact Fk hx hy h1 ho hr (Nat.eq_of_beq_eq_true h2) (Nat.le_of_ble_eq_true h3) hK
    ·cases h
   ·cases h
  ·cases h
 ·cases h
end
section
variable {P:Program}{TB:Bs}{Γ:Ctx}{ops:Array Oper}{fl:Fl}{i n:Nat}{L:List (Nat×E)}{σ:Ab}{nx:Nat}{K:Env→Ab→Nat→Prop}{d:Tmp}{ty:TypeId}{pos:String}{af:Array Edge}{g:Option (Nat×Bool)}{op:Op}
theorem gA{d:Option Tmp}(hg:Bu ops ⟨d,op,ty,pos,af,g⟩ (look L)=some true)(h:Gi P TB Γ ops ⟨d,op,ty,pos,af,g⟩ fl i n K L σ nx):Bc P TB Γ ops ⟨d,op,ty,pos,af,g⟩ fl i n K L σ nx:=h hg
theorem gS{x:E}(hq:∀σ nx,AQ P TB Γ ⟨some d,op,ty,pos,af,g⟩ (look L) σ nx x)(h:Lex P TB Γ ops (Aj fl (i+1) n) K (look ((d,x)::L)) σ nx):Gi P TB Γ ops ⟨some d,op,ty,pos,af,g⟩ fl i n K L σ nx:=fun hg=>Bx hq hg h
theorem gQ{x:E}(hq:AQ P TB Γ ⟨some d,op,ty,pos,af,g⟩ (look L) σ nx x)(hf:RT (fl i)=true)(h:Lex P TB Γ ops (Aj fl (i+1) n) K (look ((d,x)::L)) σ nx):Gi P TB Γ ops ⟨some d,op,ty,pos,af,g⟩ fl i n K L σ nx:=fun hg=>ft hq hg hf h
theorem gB{c:Bool}(hq:∀σ nx,AQ P TB Γ ⟨some d,op,ty,pos,af,g⟩ (look L) σ nx (eB c))(h:∀b,c=b→Lex P TB Γ ops (Aj fl (i+1) n) K (look ((d,eB b)::L)) σ nx):Gi P TB Γ ops ⟨some d,op,ty,pos,af,g⟩ fl i n K L σ nx:=fun hg=>ZN hq hg h
theorem mw{c:Bool}(hq:AQ P TB Γ ⟨some d,op,ty,pos,af,g⟩ (look L) σ nx (eB c))(hf:RT (fl i)=true)(h:∀b,c=b→Lex P TB Γ ops (Aj fl (i+1) n) K (look ((d,eB b)::L)) σ nx):Gi P TB Γ ops ⟨some d,op,ty,pos,af,g⟩ fl i n K L σ nx:=fun hg=>ft hq hg hf (h c rfl)
theorem gW(h:BS P TB Γ ⟨some d,op,ty,pos,af,g⟩ (look L) σ nx (fun x σ' nx'=>Lex P TB Γ ops (Aj fl (i+1) n) K (look ((d,x)::L)) σ' nx'))(hf:fl i=1):Gi P TB Γ ops ⟨some d,op,ty,pos,af,g⟩ fl i n K L σ nx:=fun hg=>NC h hg hf
theorem mx(h:BS P TB Γ ⟨none,op,ty,pos,af,g⟩ (look L) σ nx (fun _ σ' nx'=>Lex P TB Γ ops (Aj fl (i+1) n) K (look L) σ' nx'))(hf:fl i=1):Gi P TB Γ ops ⟨none,op,ty,pos,af,g⟩ fl i n K L σ nx:=fun hg=>HJ h hg hf
theorem yQ{md:Bool}[hT:CZ P]{q:Prop}{x:E}(h:da hT.T md (look L) op=some (q,x))(hq:q)(hk:Lex P TB Γ ops (Aj fl (i+1) n) K (look ((d,x)::L)) σ nx):Gi P TB Γ ops ⟨some d,op,ty,pos,af,g⟩ fl i n K L σ nx:=gS (fun _ _=>YG h hq) hk
theorem yB[hT:CZ P]{c:Bool}(h:UH hT.T (look L) op=some c)(hk:∀b,c=b→Lex P TB Γ ops (Aj fl (i+1) n) K (look ((d,eB b)::L)) σ nx):Gi P TB Γ ops ⟨some d,op,ty,pos,af,g⟩ fl i n K L σ nx:=gB (fun _ _=>UI h) hk
theorem yS[hT:CZ P]{x:E}(h:Nb hT.T σ (look L) op=some x)(hf:RT (fl i)=true)(hk:Lex P TB Γ ops (Aj fl (i+1) n) K (look ((d,x)::L)) σ nx):Gi P TB Γ ops ⟨some d,op,ty,pos,af,g⟩ fl i n K L σ nx:=gQ (Pd h) hf hk
theorem yW[hT:CZ P]{t:TypeId}{x y:Operand}{σ':Ab}(h:Rt hT.T σ (look L) t x y=some σ')(hf:fl i=1)(hk:Lex P TB Γ ops (Aj fl (i+1) n) K (look L) σ' nx):Gi P TB Γ ops ⟨none,.store t x y,ty,pos,af,g⟩ fl i n K L σ nx:=mx (Pe h hk) hf
theorem yO[hT:CZ P]{T:TypeId}{z:List Value}(h:(JM hT.T T).ze=some z)(hok:z.all PO=true)(hf:fl i=1)(hK:Lex P TB Γ ops (Aj fl (i+1) n) K (look ((d,.o (.ptr nx z.length 0 0))::L)) ((nx,.cells T z.length [z.map zC])::σ) (nx+1)):Gi P TB Γ ops ⟨some d,.alloc T,ty,pos,af,g⟩ fl i n K L σ nx:=
 haveI:=(DM (P:=P) T hT.ok).bG h
 gW (eZ hok hK) hf
theorem yM[hT:CZ P]{t:TypeId}{x:Operand}{id k i' j:Nat}{T:TypeId}{rows:List (List C)}{r:List C}{e:E}{ag:Bool}{m:Nat}(hx:ev (look L) x=some (.o (.ptr id k i' j)))(ho:look σ id=some (.cells T k rows))(hr:rows[i']? = some r)(hl:(JM hT.T t).ld=some (ag,m))
 (h:ix ag m j r=some e) (hf:RT (fl i)=true) (hk:Lex P TB Γ ops (Aj fl (i+1) n) K (look ((d,e)::L)) σ nx):Gi P TB Γ ops ⟨some d,.load t x,ty,pos,af,g⟩ fl i n K L σ nx:=
 haveI:=(DM (P:=P) t hT.ok).MT hl
 gQ (Yz hx ho hr h) hf hk
theorem yV[hT:CZ P]{t:TypeId}{x y:Operand}{id k i' j m:Nat}{T:TypeId}{rows:List (List C)}{r:List C}{e:E}{ag:Bool}(hx:ev (look L) x=some (.o (.ptr id k i' j)))(hy:ev (look L) y=some e)(ho:TQ e=true)(hlk:look σ id=some (.cells T k rows))(hr:rows[i']? = some r)
 (hl:(JM hT.T t).ld=some (ag,m)) (hn:(eC e).length=m) (hj:Nat.ble (j+m) k=true) (hf:fl i=1) (hk:Lex P TB Γ ops (Aj fl (i+1) n) K (look L) ((id,.cells T k (rows.set i' (Af r j (eC e))))::σ) nx):Gi P TB Γ ops ⟨none,.store t x y,ty,pos,af,g⟩ fl i n K L σ nx:=
 haveI:=(DM (P:=P) t hT.ok).MT hl
 mx (Fk hx hy ho hlk hr hn (Nat.le_of_ble_eq_true hj) hk) hf
theorem ng[hT:CZ P]{α:Type}{t e:TypeId}{x:Operand}{l:List α}{g1:α→List D}{k b:Nat}(hx:ev (look L) x=some (.o (.d (.l (l.map g1)))))(hl:(JM hT.T t).sl=some (e,k,b))(hk:Lex P TB Γ ops (Aj fl (i+1) n) K (look ((d,eI .i64 l.length)::L)) σ nx):Gi P TB Γ ops ⟨some d,.call ⟨.builtin .len,#[x],#[t]⟩,ty,pos,af,g⟩ fl i n K L σ nx:=
 haveI:=(DM (P:=P) t hT.ok).T8 hl
 gS (fun _ _=>iT hx) hk
theorem yL[hT:CZ P]{t e:TypeId}{x y:Operand}{rows:List (List D)}{row:List D}{m:Int}{k b:Nat}{ik:IntKind}(hx:ev (look L) x=some (.o (.d (.l rows))))(hy:ev (look L) y=some (eI ik m))(hr:rows[m.toNat]? = some row)(hl:(JM hT.T t).sl=some (e,k,b))(hn:row.length=k)(h0:0≤m)
 (hk:Lex P TB Γ ops (Aj fl (i+1) n) K (look ((d,.o (.ip row))::L)) σ nx):Gi P TB Γ ops ⟨some d,.indexAddr t x y,ty,pos,af,g⟩ fl i n K L σ nx:=
 haveI:=(DM (P:=P) t hT.ok).T8 hl
 gS (fun _ _=>cQ hx hy h0 hr hn) hk
theorem yT[hT:CZ P]{t:TypeId}{x y:Operand}{s:List UInt8}{m:Int}{c:UInt8}{ik:IntKind}(hx:ev (look L) x=some (eT s))(hy:ev (look L) y=some (eI ik m))(hc:s[m.toNat]? = some c)(hl:(JM hT.T t).st=true)(h0:0≤m)
 (hk:Lex P TB Γ ops (Aj fl (i+1) n) K (look ((d,eI .u8 (c.toNat:Int))::L)) σ nx):Gi P TB Γ ops ⟨some d,.index t x y,ty,pos,af,g⟩ fl i n K L σ nx:=
 haveI:=(DM (P:=P) t hT.ok).bF hl
 gS (fun _ _=>cT hx hy h0 hc) hk
def l5(k m:Nat)(z:List Value)(es:List E):Option (List (List D)):=match es.all TQ,PH es with
 | true,some rows=>match rows.all fun r=>Nat.beq r.length k,Nat.beq z.length k,z.all PO,Nat.ble 1 k,Nat.ble (m*k) 16777216 with
  | true,true,true,true,true=>some rows
  | _,_,_,_,_=>none
 | _,_=>none
theorem yZ[hT:CZ P]{t e:TypeId}{k b m:Nat}{z:List Value}{parts:Array (Nat×Operand)}{es:List E}{rows:List (List D)}(hl:(JM hT.T t).sl=some (e,k,b))(hz:(JM hT.T e).ze=some z)(hp:Dj 0 (parts.toList.map (·.2))=parts.toList)(hn:parts.toList.length=m)
 (hes:JL (look L) (parts.toList.map (·.2))=some es) (hv:l5 k m z es=some rows)
 (h:Lex P TB Γ ops (Aj fl (i+1) n) K (look ((d,.o (.d (.l rows)))::L)) σ nx):Gi P TB Γ ops ⟨some d,.buildSlice t m parts,ty,pos,af,g⟩ fl i n K L σ nx:=by
 haveI:=(DM (P:=P) t hT.ok).T8 hl
 haveI:=(DM (P:=P) e hT.ok).bG hz
 unfold l5 at hv
 split at hv
 ·rename_i h1 h2
  split at hv
  ·rename_i h3 h4 h5 h6 h7
   injection hv with hv
   subst hv
   exact gS (fun _ _=>O9 hp hn hes h1 h2 h3 (Nat.eq_of_beq_eq_true h4) h5 h6 h7) h
  ·cases hv
 ·cases hv
theorem yY{T:TypeId}{x:Operand}{e:E}{ds:List D}(hx:ev (look L) x=some e)(ho:TQ e=true)(hd:Qr (eC e)=some ds)(h:Lex P TB Γ ops (Aj fl (i+1) n) K (look ((d,.o (.ip ds))::L)) σ nx):Gi P TB Γ ops ⟨some d,.box T x,ty,pos,af,g⟩ fl i n K L σ nx:=gS (fun _ _=>CW hx ho hd) h
def fc:Nat→List (Nat×Operand)→Bool
 | _,[]=>true
 | k,(i,_)::r=>Nat.beq i k && fc (k+1) r
theorem Yt:∀(l:List (Nat×Operand)) (k:Nat),fc k l=true→Dj k (l.map (·.2))=l
 | [],_,_=>rfl
 | (i,x)::r,k,h=>by
  unfold fc at h
  rw [Bool.and_eq_true] at h
  have h1:=Nat.eq_of_beq_eq_true h.1
  subst h1
  have:=Yt r (i+1) h.2
  simp [Dj,this]
def fg(c:Nat):Option E→Bool
 | some (.o (.ptr id _ _ _))=>RT c || (Nat.beq c (10+id) && !Nat.ble 1000 c)
 | _=>RT c
theorem db{T:List (Nat×TI)}{σ σ':Ab}{f:Env}{t:TypeId}{x:Operand}{id k i j:Nat}(hx:ev f x=some (.o (.ptr id k i j)))(h:look σ' id=look σ id):Nb T σ' f (.load t x)=Nb T σ f (.load t x):=by
 unfold Nb
 simp only [hx]
 cases (JM T t).ld with
 | none=>rfl
 | some p=>obtain⟨ag,n⟩:=p;simp only [h]
def YF(T:List (Nat×TI))(sl:Bool)(c nx:Nat)(σ:Ab)(L:List (Nat×E)):Option Tmp→Op→Option (List (Nat×E)×Ab×Nat)
 | some d,.alloc t=>match Nat.beq c 1,(JM T t).ze with
  | true,some z=>match z.all PO with
   | true=>some ((d,.o (.ptr nx z.length 0 0))::L,(nx,.cells t z.length [z.map zC])::σ,nx+1)
   | false=>none
  | _,_=>none
 | none,.store t x y=>match Nat.beq c 1,Rt T σ (look L) t x y with
  | true,some σ'=>some (L,σ',nx)
  | _,_=>none
 | some d,.load t x=>match fg c (ev (look L) x),Nb T σ (look L) (.load t x) with
  | true,some e=>some ((d,e)::L,σ,nx)
  | _,_=>none
 | some d,.box _ x=>match sl,ev (look L) x with
  | true,some e=>match TQ e,Qr (eC e) with
   | true,some ds=>some ((d,.o (.ip ds))::L,σ,nx)
   | _,_=>none
  | _,_=>none
 | some d,.buildSlice t m parts=>match sl,(JM T t).sl with
  | true,some (e,k,_)=>match (JM T e).ze,JL (look L) (parts.toList.map (·.2)) with
   | some z,some es=>match l5 k m z es,fc 0 parts.toList,Nat.beq parts.toList.length m with
    | some rows,true,true=>some ((d,.o (.d (.l rows)))::L,σ,nx)
    | _,_,_=>none
   | _,_=>none
  | _,_=>none
 | _,_=>none
theorem yU[hT:CZ P]{sl:Bool}{d:Option Tmp}{L':List (Nat×E)}{σ':Ab}{nx':Nat}(h:YF hT.T sl (fl i) nx σ L d op=some (L',σ',nx'))(hk:Lex P TB Γ ops (Aj fl (i+1) n) K (look L') σ' nx'):Gi P TB Γ ops ⟨d,op,ty,pos,af,g⟩ fl i n K L σ nx:=by
 unfold YF at h
 split at h
 ·split at h
  ·rename_i h1 h2
   split at h
   ·rename_i h3
    injection h with h;injection h with e1 h;injection h with e2 e3;subst e1;subst e2;subst e3
    exact yO h2 h3 (Nat.eq_of_beq_eq_true h1) hk
   ·cases h
  ·cases h
 ·split at h
  ·rename_i h1 h2
   injection h with h;injection h with e1 h;injection h with e2 e3;subst e1;subst e2;subst e3
   exact yW h2 (Nat.eq_of_beq_eq_true h1) hk
  ·cases h
 ·split at h
  ·rename_i h1 h2
   injection h with h;injection h with e1 h;injection h with e2 e3;subst e1;subst e2;subst e3
   unfold fg at h1
   split at h1
   ·rename_i hx
    rw [Bool.or_eq_true] at h1
    rcases h1 with h1|h1
    ·exact yS h2 h1 hk
    ·rw [Bool.and_eq_true] at h1
     have h3:=Nat.eq_of_beq_eq_true h1.1
     refine fun hg=>kr (fun σ' nx' hs=>Pd (by rw [h3,Nat.add_sub_cancel_left] at hs;rw [db (σ:=σ) (σ':=σ') hx hs];exact h2)) hg ⟨Nat.ble_eq_true_of_le (by omega),by simpa using h1.2⟩ hk
   ·exact yS h2 h1 hk
  ·cases h
 ·split at h
  ·rename_i h1
   split at h
   ·rename_i h2 h3
    injection h with h;injection h with e1 h;injection h with e2 e3;subst e1;subst e2;subst e3
    exact yY h1 h2 h3 hk
   ·cases h
  ·cases h
 ·split at h
  ·rename_i h1
   split at h
   ·rename_i h2 h3
    split at h
    ·rename_i h4 h5 h6
     injection h with h;injection h with e1 h;injection h with e2 e3;subst e1;subst e2;subst e3
     exact yZ h1 h2 (Yt _ _ h5) (Nat.eq_of_beq_eq_true h6) h3 h4 hk
    ·cases h
   ·cases h
  ·cases h
 ·cases h
theorem yP{x:Operand}{args:Array Operand}{tys:Array TypeId}{gg:FuncId}{cap:List C}{es:List E}{r:E}(hx:ev (look L) x=some (.o (.fn gg cap)))(hes:JL (look L) args.toList=some es)(hp:(es.all E.BW && C.C6 cap)=true)
 (hs:Pure P TB gg (es++cap.map .o) r) (hr:r.BW=true) (h:Lex P TB Γ ops (Aj fl (i+1) n) K (look ((d,r)::L)) σ nx):Gi P TB Γ ops ⟨some d,.call ⟨.value x,args,tys⟩,ty,pos,af,g⟩ fl i n K L σ nx:=gS (fun _ _=>AN hx hes hp hs hr) h
theorem yC{x:Operand}{args:Array Operand}{tys:Array TypeId}{gg:FuncId}{cap:List C}{es:List E}{c:Bool}(hx:ev (look L) x=some (.o (.fn gg cap)))(hes:JL (look L) args.toList=some es)(hp:(es.all E.BW && C.C6 cap)=true)
 (hs:Pure P TB gg (es++cap.map .o) (eB c)) (h:∀b,c=b→Lex P TB Γ ops (Aj fl (i+1) n) K (look ((d,eB b)::L)) σ nx):Gi P TB Γ ops ⟨some d,.call ⟨.value x,args,tys⟩,ty,pos,af,g⟩ fl i n K L σ nx:=gB (fun _ _=>AN hx hes hp hs rfl) h
theorem yG{d:Option Tmp}{j t:Nat}{w b:Bool}(_hd:(ops[j]?).bind (·.dst)=some t)(_hv:look L t=some (eB b))
 (hT:b=true→Lex P TB Γ ops (Aj fl i (n+1)) K (look L) σ nx) (hF:b=false→Lex P TB Γ ops (Aj fl i (n+1)) K (look L) σ nx):Bc P TB Γ ops ⟨d,op,ty,pos,af,some (j,w)⟩ fl i n K L σ nx:=by
 intro _
 cases b
 ·exact hF rfl
 ·exact hT rfl
end
end Go.Am
namespace Go.Am
open Go Go.ChangeShapes Go.WideShapes Go.RowKit
def below(w:World)(b:Nat):Prop:=b < w.heap.size
def Rd{α:Type}(P:Program)(w:World)(t:TypeId)(k:Nat)(f:α→List D):Prop:=
 ∀ {H:Type} (enc:TypeId×Value→H) (fuel:Nat) (cs:List Value) (x:DataW H×List MemPlace),DataW.trod enc P w 0 (fun _=>true) true fuel t cs=some x→
  ∃y:α,cs.length=k∧(f y).length=k∧∀(j:Nat) c d,cs[j]? = some c→(f y)[j]? = some d→CR (below w) w d c
section
variable {P:Program}{w:World}{t e:TypeId}{k:Nat}
theorem Rd.map{α β:Type}{f:α→List D}{f':β→List D}(g:α→β)(hg:∀y,f y=f' (g y))(h:Rd P w t k f):Rd P w t k f':=fun enc fuel cs x hx=>by
 obtain⟨y,h1,h2,h3⟩:=h enc fuel cs x hx
 exact⟨g y,h1,by rw [←hg];exact h2,by rw [←hg];exact h3⟩
theorem I8{c0:Value}{d0:D}(h:CR (below w) w d0 c0):∀(j:Nat) c d,[c0][j]? = some c→[d0][j]? = some d→CR (below w) w d c:=by
 intro j c d hc hd
 match j with
 | 0=>simp at hc hd;subst hc;subst hd;exact h
 | j+1=>simp at hc
theorem Kk(ht:P.underlying t=some (.int .i64)):Rd P w t 1 (fun n:Int=>[.v (.int .i64 n)]):=fun enc fuel cs x hx=>by
 obtain⟨n,rfl,_,_⟩:=DataW.trod_int ht hx
 exact⟨n,rfl,rfl,I8 (.v rfl)⟩
theorem fG(ht:P.underlying t=some .bool):Rd P w t 1 (fun b:Bool=>[.v (.bool b)]):=fun enc fuel cs x hx=>by
 obtain⟨b,rfl,_⟩:=DataW.trod_bool ht hx
 exact⟨b,rfl,rfl,I8 (.v rfl)⟩
theorem Qz{a:Addr}{n:Nat}{cs:List Value}(h:w.cells? 0 a n=some cs):cs.length=n∧∀(j:Nat) c,cs[j]? = some c→w.cell? (a.add j)=some c:=by
 unfold World.cells? at h
 rw [if_pos (Nat.zero_le _)] at h
 have hl:=mapM_some_length h
 simp at hl
 refine⟨hl,fun j c hc=>?_⟩
 have hlt:=(List.getElem?_eq_some_iff.1 hc).1
 have:=mapM_some_get h j j (by rw [List.getElem?_range (by omega)])
 rw [this];exact hc
theorem Lg{α:Type}{f:α→List D}(ht:P.underlying t=some (.slice e))(hk:P.cellsOf e=k)(h0:0 < k)(hf:Rd P w e k f):Rd P w t 1 (fun l:List α=>[.l (l.map f)]):=fun enc fuel cs x hx=>by
 rcases DataW.trod_slice ht hx with ⟨rfl,_⟩|⟨a,len,cap,elems,rest,n,rfl,rfl,_,_,hlc,hcm,hel,hget,_,_⟩
 ·exact⟨[],rfl,rfl,I8 .nil⟩
 ·rw [hk] at hget
  rcases Nat.eq_zero_or_pos len with hl0|hl0
  ·subst hl0
   exact⟨[],rfl,rfl,I8 (.e hcm)⟩
  have key:∀i,i < len→∃(y:α) (cs:List Value),w.cells? 0 (a.add (i*k)) k=some cs∧cs.length=k∧(f y).length=k∧∀(j:Nat) c d,cs[j]? = some c→(f y)[j]? = some d→CR (below w) w d c:=by
   intro i hi
   have h1:=hget i hi
   have hie:i < elems.length:=by omega
   rw [List.getElem?_eq_getElem hie] at h1
   simp only [Option.bind_eq_some_iff] at h1
   obtain⟨cs,h2,h3⟩:=h1
   obtain⟨y,h4,h5,h6⟩:=hf enc n cs _ h3
   exact⟨y,cs,h2,h4,h5,h6⟩
  obtain⟨b,o,rfl,hb⟩:∃b o,a=⟨b,o,none⟩∧b < w.heap.size:=by
   obtain⟨y,cs,h2,h4,_,_⟩:=key 0 hl0
   have h7:=(Qz h2).2 0 (cs[0]'(by omega)) (by simp)
   rw [Nat.zero_mul] at h7
   have h8:∀a:Addr,a.add 0=a:=fun a=>by simp [Addr.add]
   rw [h8,h8] at h7
   unfold World.cell? at h7
   obtain⟨b,o,sp⟩:=a
   split at h7
   ·rename_i c _ _ hh
    split at h7
    ·cases h7
    ·rename_i hs
     cases sp with
     | none=>exact⟨b,o,rfl,(Array.getElem?_eq_some_iff.1 hh).1⟩
     | some s=>simp at hs
   ·cases h7
  have hlist:∀m,m≤len→∃l:List α,l.length=m∧∀(i:Nat) y,l[i]? = some y→(f y).length=k∧∀(j:Nat) d,(f y)[j]? = some d→∃c,w.cell? ⟨b,o+i*k+j,none⟩=some c∧CR (below w) w d c:=by
   intro m
   induction m with
   | zero=>intro _;exact⟨[],rfl,fun i y h=>by simp at h⟩
   | succ m ih=>
    intro hm
    obtain⟨l,hl,hall⟩:=ih (by omega)
    obtain⟨y,cs,h2,h4,h5,h6⟩:=key m (by omega)
    refine⟨l++[y],by simp [hl],fun i z hz=>?_⟩
    by_cases hi:i < l.length
    ·rw [List.getElem?_append_left hi] at hz;exact hall i z hz
    ·rw [List.getElem?_append_right (by omega)] at hz
     have hi0:i=m:=by
      have:=(List.getElem?_eq_some_iff.1 hz).1
      simp at this;omega
     subst hi0
     rw [hl,Nat.sub_self] at hz
     simp at hz
     subst hz
     refine⟨h5,fun j d hj=>?_⟩
     have hjl:j < cs.length:=by rw [h4,←h5];exact(List.getElem?_eq_some_iff.1 hj).1
     have h7:=(Qz h2).2 j cs[j] (List.getElem?_eq_getElem hjl)
     rw [BB,BB] at h7
     exact⟨cs[j],h7,h6 j _ d (List.getElem?_eq_getElem hjl) hj⟩
  obtain⟨l,hl,hall⟩:=hlist len (Nat.le_refl _)
  refine⟨l,rfl,rfl,I8 ?_⟩
  have hll:(l.map f).length=len:=by simp [hl]
  rw [←hll]
  refine .l (b:=b) (o:=o) (k:=k) (vs:=fun i j=>(w.cell? ⟨b,o+i*k+j,none⟩).getD undef) hb (by simpa [hl] using hlc) hcm (fun i r hr=>?_) (fun i r j d hr hd=>?_) (fun i r j d hr hd=>?_)
  all_goals
   rw [List.getElem?_map,Option.map_eq_some_iff] at hr
   obtain⟨y,hy,rfl⟩:=hr
  ·exact(hall i y hy).1
  ·obtain⟨c,h1,_⟩:=(hall i y hy).2 j d hd
   rw [h1];rfl
  ·obtain⟨c,h1,h2⟩:=(hall i y hy).2 j d hd
   rw [h1];exact h2
theorem XD{cs:List Value}{l m:List D}{k:Nat}(hl:l.length=k)(h1:∀(j:Nat) c d,(cs.take k)[j]? = some c→l[j]? = some d→CR (below w) w d c)(h2:∀(j:Nat) c d,(cs.drop k)[j]? = some c→m[j]? = some d→CR (below w) w d c) :
 ∀(j:Nat) c d,cs[j]? = some c→(l++m)[j]? = some d→CR (below w) w d c:=by
 intro j c d hc hd
 by_cases hj:j < k
 ·rw [List.getElem?_append_left (by omega)] at hd
  exact h1 j c d (by rw [List.getElem?_take,if_pos hj];exact hc) hd
 ·rw [List.getElem?_append_right (by omega),hl] at hd
  refine h2 (j - k) c d ?_ hd
  rw [List.getElem?_drop]
  have:k+(j - k)=j:=by omega
  rw [this];exact hc
theorem Kl{α0 α1 α2:Type}{f0:α0→List D}{f1:α1→List D}{f2:α2→List D}{k0 k1 k2:Nat}{a0 a1 a2:Field}(ht:P.underlying t=some (.struct #[a0,a1,a2]))(ho:a0.offset=0∧a1.offset=k0∧a2.offset=k0+k1)
 (hc:P.cellsOf a0.type=k0∧P.cellsOf a1.type=k1∧P.cellsOf a2.type=k2∧P.cellsOf t=k0+k1+k2) (h0:Rd P w a0.type k0 f0) (h1:Rd P w a1.type k1 f1) (h2:Rd P w a2.type k2 f2) :
 Rd P w t (k0+k1+k2) (fun y:α0×α1×α2=>f0 y.1++(f1 y.2.1++f2 y.2.2)):=fun enc fuel cs x hx=>by
 obtain⟨xs,n,_,_,hl,hxl,hget⟩:=DataW.trod_struct ht hx
 have hs:xs.length=3:=hxl
 have e0:=hget 0 a0 rfl
 have e1:=hget 1 a1 rfl
 have e2:=hget 2 a2 rfl
 rw [List.getElem?_eq_getElem (by omega)] at e0 e1 e2
 rw [ho.1,hc.1] at e0
 rw [ho.2.1,hc.2.1] at e1
 rw [ho.2.2,hc.2.2.1] at e2
 obtain⟨y0,p1,p2,p3⟩:=h0 enc n _ _ e0
 obtain⟨y1,q1,q2,q3⟩:=h1 enc n _ _ e1
 obtain⟨y2,r1,r2,r3⟩:=h2 enc n _ _ e2
 rw [List.drop_zero] at p3
 rw [List.take_of_length_le (by simp;omega)] at r3
 refine⟨(y0,y1,y2),by rw [hl,hc.2.2.2],by simp [p2,q2,r2];omega,XD p2 p3 (XD q2 q3 ?_)⟩
 rw [List.drop_drop];exact r3
end
def XI(w:World):View:=⟨below w,id,fun _=>0,fun _=>True,0,w⟩
section
variable {P:Program}{w:World}{t:TypeId}{k:Nat}{H:Type}{enc:TypeId×Value→H}
theorem iM{fs:Array Field}{base:Nat}{v:Value}(ht:P.underlying t=some (.struct fs))(h:Value.okWide P w .any base t v):∃cs,v=.agg cs:=by
 unfold Value.okWide at h
 rw [ht] at h
 obtain⟨cs,h,_⟩:=h
 exact⟨cs,h⟩
theorem lk{α:Type}{f:α→List D}(h:Rd P w t k f){v:Value}{d:DataW H}{ps:List MemPlace}(hv:∃cs,v=.agg cs)(hd:DataW.Trod enc P w 0 (fun _=>true) true t v d ps):∃y,Bb (XI w) (.a ((f y).map .d)) v:=by
 obtain⟨cs,rfl⟩:=hv
 obtain⟨n,hn⟩:=hd
 obtain⟨y,h1,h2,h3⟩:=h enc n _ _ hn
 refine⟨y,cs,rfl,by simp only [List.length_map,h2,←h1];exact(Array.length_toList).symm,fun j c v hj hv=>?_⟩
 rw [List.getElem?_map,Option.map_eq_some_iff] at hj
 obtain⟨d,hd,rfl⟩:=hj
 exact .d (h3 j v d (by simpa [Value.cells] using hv) hd)
structure HW (W W':World):Prop where
 os:W'.os=W.os
 output:W'.output=W.output
 size:W.heap.size≤W'.heap.size
 old:∀b,b < W.heap.size→W'.heap[b]? = W.heap[b]?
theorem HW.sameAt{W W':World}(h:HW W W'){p:MemPlace}(hp:p.block < W.heap.size):W.sameAt W' p:=by
 cases p with
 | cell b off=>show W'.cell? _=W.cell? _;simp only [World.cell?,h.old b hp]
 | map b=>exact h.old b hp
theorem HW.kept{W W':World}(h:HW W W')(may:MemPlace→Prop):W.keptBut W' may:=by
 refine⟨h.os,h.output,fun i hi=>?_⟩
 rw [h.old i hi]
 split
 ·rename_i h1 h2
  rw [h1] at h2
  injection h2 with h2;injection h2 with h3 h4 h5
  exact⟨h4.symm,h5.symm,by rw [h3],fun j _=>by rw [h3]⟩
 ·rename_i h1 h2
  rw [h1] at h2
  injection h2 with h2;injection h2 with h3 h4
  exact .inr ⟨h3.symm,h4.symm⟩
 ·rfl
theorem Ly{W W':World}(hl:laidOutB P=true)(h:HW W W'){sp:Nat→Bool}:∀ {ts:List TypeId} {vs:List Value} {ds:List (DataW H)} {ps:List MemPlace},(ts.all fun t=>P.readableRec t && decide (t < P.types.size))=true→
 DataW.TrodAll enc P W 0 (fun _=>true) true ts vs ds ps→(∀p∈ps,p.block < W.heap.size)→(∀p∈ps,sp p.block=true)→DataW.TrodAll enc P W' 0 sp true ts vs ds ps
 | [],vs,ds,ps,_,h1,_,_=>by obtain⟨rfl,rfl,rfl⟩:=trodAll_nil h1;exact rfl
 | t::ts,vs,ds,ps,ha,h1,h2,h3=>by
  obtain⟨v,vs',d,ds',p,q,rfl,rfl,rfl,h4,h5⟩:=trodAll_cons h1
  simp only [List.all_cons,Bool.and_eq_true,decide_eq_true_eq] at ha
  refine⟨p,q,Go.WideElems.Trod_stays hl ha.1.1 ha.1.2 h4 (fun x hx=>h.sameAt (h2 x (List.mem_append_left _ hx))) (fun x hx=>h3 x (List.mem_append_left _ hx)),Ly hl h (by simpa using ha.2) h5 (fun x hx=>h2 x (List.mem_append_right _ hx)) (fun x hx=>h3 x (List.mem_append_right _ hx)),rfl⟩
theorem jz{f:Func}{s:ChangeSpec}{again:Bool}{W W':World}{args:Array Value}{ds gs:List (DataW H)}{before:List MemPlace}{tb:TypeId}(hl:laidOutB P=true)(hts:(f.params.toList.all fun t=>P.readableRec t && decide (t < P.types.size))=true)
 (hW:DataW.Whole enc P f.params.toList s.vars false W args.toList ds gs before) (hs:HW W W') (hv:s.vars=[]) (hr:f.resultTypes = #[tb]) (htb:P.underlying tb=some .bool) (hone:(Value.bool true).resultList 1=[.bool true])
 (hfn:s.fn H (ds++gs) = { results:=[.lit (.bool true)],args:=ds }):s.post enc P f false true false again W args (.bool true) W':=by
 have hlt:=hW.lt
 have hW':=hW
 obtain⟨p,q,hA,hV,he,hz,hn⟩:=hW
 rw [hv] at hV
 obtain⟨rfl,rfl⟩:=trodVars_none hV
 rw [List.append_nil] at he
 subst he
 have hres:∀(b:Nat) (sp:Nat→Bool) (hd:Bool),DataW.TrodAll enc P W' b sp hd f.resultTypes.toList ((Value.bool true).resultList f.resultTypes.size) (s.fn H (ds++[])).results []:=fun b sp hd=>by
  rw [hr,hfn]
  show DataW.TrodAll enc P W' b sp hd [tb] ((Value.bool true).resultList 1) [.lit (.bool true)] []
  rw [hone]
  exact trodAll_mk1 (RowKit.shut_bool htb true)
 have hargs:∀sp:Nat→Bool,(∀x∈before,sp x.block=true)→DataW.TrodAll enc P W' 0 sp true f.params.toList args.toList (s.fn H (ds++[])).args before:=fun sp hsp=>by
  rw [hfn]
  exact Ly hl hs hts hA hlt hsp
 have hvars:∀sp:Nat→Bool,DataW.TrodVars enc P W' sp s.vars (s.fn H (ds++[])).vars []:=fun sp=>by
  rw [hv,hfn];exact rfl
 refine⟨ds,[],before,[],before,[],hW',hres _ _ _,hargs _ fun x hx=>by simpa using hlt x hx,hvars _,hs.kept _,fun _=>?_⟩
 refine⟨ok_one hr hone (okWide_bool_mk htb true),_,_,([]++before)++[],⟨[]++before,[],trodAll_append (hargs _ (fun _ _=>rfl)) (hres _ _ _),hvars _,rfl,?_,fun ha=>by cases ha⟩,fun x hx _=>by simpa using hx⟩
 intro b off hp
 have hp':MemPlace.cell b off∈before:=by simpa using hp
 have h1:=hz b off hp'
 have h2:b < W.heap.size:=hlt _ hp'
 simpa [World.frozen?,hs.old b h2] using h1
end
end Go.Am
namespace Go.Am
open Go
def AV(s:Int)(n:Nat):Bool:=decide (GS .i64 (s.fdiv (2 ^ min n 64)) 1=1)
def hasB(s n:Int):Bool:=decide (0≤n) && AV s n.toNat
def A2(n:Int):Bool:=decide (0≤n∧n≤63)
abbrev iD(n:Int):D:=.v (.int .i64 n)
abbrev bD(b:Bool):D:=.v (.bool b)
abbrev tD(s:List UInt8):D:=.v (.string ⟨s.toArray⟩)
abbrev Bk(n:Int):List D:=[iD n]
abbrev HY(b:Bool):List D:=[bD b]
abbrev DZ(s:List UInt8):List D:=[tD s]
abbrev FQ(l:List Int):D:=.l (l.map Bk)
abbrev Ez(l:List Bool):D:=.l (l.map HY)
abbrev Cf(l:List (List UInt8)):D:=.l (l.map DZ)
abbrev Al(n:Int):List C:=[.d (iD n)]
abbrev AB(b:Bool):List C:=[.d (bD b)]
abbrev Et(s:List UInt8):List C:=[.d (tD s)]
abbrev Ds(l:List Int):List D:=[FQ l]
abbrev CD(l:List (List Int)):D:=.l (l.map Ds)
abbrev FJ(l:List Int):List C:=[.d (FQ l)]
abbrev J8(l:List (List Int)):List D:=[CD l]
abbrev eJ(l:List (List (List Int))):D:=.l (l.map J8)
structure EO where
 f:Int
 l:Int
 t:Int
 deriving DecidableEq
structure Sys where
 al:Int
 st:Int
 es:List EO
structure AZ where
 al:Int
 nx:List (List Int)
 ac:List Bool
abbrev C5(e:EO):List D:=[iD e.f,iD e.l,iD e.t]
abbrev Az(e:EO):List C:=[.d (iD e.f),.d (iD e.l),.d (iD e.t)]
abbrev Ow(e:EO):E:=.a [.d (iD e.f),.d (iD e.l),.d (iD e.t)]
abbrev Ef(l:List EO):D:=.l (l.map C5)
abbrev CQ(s:Sys):List D:=[iD s.al,iD s.st,Ef s.es]
abbrev Bt(s:Sys):E:=.a [.d (iD s.al),.d (iD s.st),.d (Ef s.es)]
abbrev Ji(l:List Sys):D:=.l (l.map CQ)
abbrev Bv(a:AZ):List D:=[iD a.al,CD a.nx,Ez a.ac]
abbrev Bo(a:AZ):E:=.a [.d (iD a.al),.d (CD a.nx),.d (Ez a.ac)]
abbrev VN(l:List AZ):D:=.l (l.map Bv)
abbrev Ag(l:List Int):E:=.o (.d (FQ l))
abbrev EC(l:List Bool):E:=.o (.d (Ez l))
abbrev Cj(l:List (List Int)):E:=.o (.d (CD l))
abbrev CN(l:List (List UInt8)):E:=.o (.d (Cf l))
abbrev Hx(l:List EO):E:=.o (.d (Ef l))
abbrev Gp(l:List Sys):E:=.o (.d (Ji l))
def AI(s:Int)(k:Nat):List Int:=((List.range k).filter (AV s)).map Int.ofNat
theorem AS(s:Int)(k:Nat):(AI s k).length≤k:=by
 unfold AI;rw [List.length_map];exact Nat.le_trans (List.length_filter_le _ _) (by simp)
theorem CU(s:Int)(k:Nat):AI s (k+1)=AI s k++if AV s k then [(k:Int)] else []:=by
 unfold AI
 rw [List.range_succ,List.filter_append,List.map_append]
 cases h:AV s k<;>simp [h]
abbrev Ac(s:Int):List Int:=AI s 6
def DL(al st:Int)(e:EO):Bool:=decide (0≤e.f∧e.f < st∧0≤e.t∧e.t < st∧0≤e.l∧e.l < 6) && AV al e.l.toNat
def JZ(e f:EO):Bool:=if e.f≠f.f then decide (e.f < f.f) else if e.l≠f.l then decide (e.l < f.l) else decide (e.t < f.t)
def Jj(s:Sys)(i:Nat):Bool:=match s.es[i]? with
 | none=>true
 | some e=>DL s.al s.st e && match i with
  | 0=>true
  | j+1=>match s.es[j]? with
   | none=>true
   | some p=>JZ p e
def AP(s:Sys):Bool:=A2 s.al && decide (1≤s.st∧s.st≤16) && (List.range s.es.length).all (Jj s)
theorem Gm{α:Type}{l:List α}{f:α→Bool}{k:Nat}{x:α}(h:l[k]? = some x)(h1:(l.take k).all f=true)(h2:f x=true):(l.take (k+1)).all f=true:=by
 rw [List.take_add_one,h];simp [List.all_append,h1,h2]
theorem HX{α:Type}{l:List α}{f:α→Bool}{k:Nat}{x:α}(h:l[k]? = some x)(h2:f x=false):l.all f=false:=by
 rw [List.all_eq_false];exact⟨x,List.mem_of_getElem? h,by simp [h2]⟩
theorem Gl{α:Type}{l:List α}{f:α→Bool}{k:Nat}(h:(l.take k).all f=true)(hk:l.length≤k):l.all f=true:=by
 rwa [List.take_of_length_le hk] at h
theorem get_map{α β:Type}{l:List α}{g:α→β}{k:Nat}{x:α}(h:l[k]? = some x):(l.map g)[((k:Nat):Int).toNat]? = some (g x):=by simp [h]
theorem get_some{α:Type}{l:List α}{k:Nat}(h:k < l.length):∃x,l[k]? = some x:=⟨_,List.getElem?_eq_getElem h⟩
def Tc(n:Int)(q:Int):Bool:=decide (0≤q∧q < n)
def FR(ls n:Int)(row:List Int):Bool:=decide ((row.length:Int)=ls) && row.all (Tc n)
def AL(a:AZ):Bool:=A2 a.al && decide (1≤a.nx.length∧a.nx.length≤12) && decide (a.ac.length=a.nx.length) && a.nx.all (FR (Ac a.al).length a.nx.length)
end Go.Am
