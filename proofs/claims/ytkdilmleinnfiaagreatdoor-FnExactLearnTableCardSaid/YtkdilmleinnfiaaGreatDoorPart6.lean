/-
  The steps of a walk, few and short: what an operation gives is reckoned.
-/
import Derived.Test.YtkdilmleinnfiaaGreatDoorPart5
import Derived.ProofKit
import Derived.OpenShut
import Derived.WideKeyArgs
import Derived.Deep.DeepHandedRow
import Derived.Lib.LaidTab
set_option linter.constructorNameAsVariable false
set_option linter.unusedSectionVars false
set_option linter.unusedSimpArgs false
set_option linter.unusedVariables false
namespace Go.Am
open Go
class Oy (P:Program) (t:TypeId):Prop where
 out:P.underlying t=some .bool
theorem oA{p:Prop}[Decidable p]:(decide p=true)=p:=decide_eq_true_eq
theorem oB{p:Prop}[Decidable p]:decide p=false↔¬p:=decide_eq_false_iff_not
theorem oC{α β:Type}{l:List α}{f:α→β}:(l.map f).length=l.length:=List.length_map f
theorem oD{α:Type}{l m:List α}:(l++m).length=l.length+m.length:=List.length_append
theorem oE{α:Type}{n:Nat}{x:α}:(List.replicate n x).length=n:=List.length_replicate
theorem oF{α:Type}{x:α}{l:List α}:(x::l).length=l.length+1:=List.length_cons
theorem oG{α:Type}:([]:List α).length=0:=List.length_nil
theorem oZ:(∀(p:Prop) [Decidable p],(decide p=true)=p)∧(∀(p:Prop) [Decidable p],decide p=false↔¬p)∧(∀(α β:Type) (l:List α) (f:α→β),(l.map f).length=l.length)∧(∀(α:Type) (l m:List α),(l++m).length=l.length+m.length)∧(∀(α:Type) (n:Nat) (x:α),(List.replicate n x).length=n)∧(∀(α:Type) (x:α) (l:List α),(x::l).length=l.length+1)∧∀(α:Type),([]:List α).length=0:=
 ⟨fun _ _=>oA,fun _ _=>oB,fun _ _ _ _=>oC,fun _ _ _=>oD,fun _ _ _=>oE,fun _ _ _=>oF,fun _=>oG⟩
structure TI where
 ld:Option (Bool×Nat):=none
 ik:Option IntKind:=none
 st:Bool:=false
 sl:Option (Nat×Nat×Nat):=none
 ar:Option (Nat×Nat):=none
 fl:List (Option (Nat×Bool×Nat)):=[]
 pt:Bool:=false
 bo:Bool:=false
 ze:Option (List Value):=none
def Pq(P:Program)(t:Nat):Nat→List (Option (Nat×Bool×Nat))→Prop
 | _,[]=>True
 | k,none::r=>Pq P t (k+1) r
 | k,some x::r=>(Us P t k=some x.1∧Ut P t k=some x)∧Pq P t (k+1) r
structure DH (P:Program) (t:Nat) (i:TI):Prop where
 ld:i.ld=none∨aj P t=i.ld
 ik:i.ik=none∨P.underlying t=i.ik.map .int
 st:i.st=false∨P.underlying t=some .string
 sl:i.sl=none∨bn P t=i.sl
 ar:i.ar=none∨cp P t=i.ar
 fl:Pq P t 0 i.fl
 pt:i.pt=false∨∃e,P.underlying t=some (.pointer e)
 bo:i.bo=false∨P.underlying t=some .bool
 ze:i.ze=none∨Vo P t=i.ze
def SF(P:Program):List (Nat×TI)→Prop
 | []=>True
 | (t,i)::r=>DH P t i∧SF P r
def fE:Value→Value→Bool
 | .int k n,.int k' n'=>decide (k=k') && decide (n=n')
 | .bool a,.bool b=>decide (a=b)
 | .string ⟨⟨a⟩⟩,.string ⟨⟨b⟩⟩=>a.isEmpty && b.isEmpty
 | .slice none 0 0,.slice none 0 0=>true
 | .pointer none,.pointer none=>true
 | .map none,.map none=>true
 | .nilFunc,.nilFunc=>true
 | .nilIface,.nilIface=>true
 | _,_=>false
theorem bG:∀ {a b:Value},fE a b=true→a=b:=by
 intro a b h
 unfold fE at h
 split at h<;>simp_all
def ep:List Value→List Value→Bool
 | [],[]=>true
 | a::l,b::m=>fE a b && ep l m
 | _,_=>false
theorem XL:∀ {l m:List Value},ep l m=true→l=m
 | [],[],_=>rfl
 | a::l,b::m,h=>by
  unfold ep at h
  rw [Bool.and_eq_true] at h
  rw [bG h.1,XL h.2]
 | [],_::_,h=>by cases h
 | _::_,[],h=>by cases h
def cG(P:Program)(t:Nat):Nat→List (Option (Nat×Bool×Nat))→Bool
 | _,[]=>true
 | k,none::r=>cG P t (k+1) r
 | k,some x::r=>decide (Us P t k=some x.1) && decide (Ut P t k=some x) && cG P t (k+1) r
theorem RF{P:Program}{t:Nat}:∀ {l:List (Option (Nat×Bool×Nat))} {k:Nat},cG P t k l=true→Pq P t k l
 | [],_,_=>trivial
 | none::r,k,h=>RF (l:=r) (k:=k+1) h
 | some x::r,k,h=>by
  unfold cG at h
  simp only [Bool.and_eq_true,decide_eq_true_eq] at h
  exact⟨h.1,RF h.2⟩
def fY(d:Option TypeDesc)(i:TI):Bool:=match d with
 | some (.int k)=>(match i.ik with|none=>true|some k'=>decide (k=k')) && !i.st && !i.pt && !i.bo
 | some .string=>i.ik.isNone && !i.pt && !i.bo
 | some (.pointer _)=>i.ik.isNone && !i.st && !i.bo
 | some .bool=>i.ik.isNone && !i.st && !i.pt
 | _=>i.ik.isNone && !i.st && !i.pt && !i.bo
def fx(P:Program)(t:Nat)(i:TI):Bool:=
 (i.ld.isNone || decide (aj P t=i.ld)) && (fY (P.underlying t) i && ((i.sl.isNone || decide (bn P t=i.sl)) && ((i.ar.isNone || decide (cp P t=i.ar)) && (cG P t 0 i.fl && match i.ze with
  | none=>true
  | some l=>match Vo P t with
   | some l'=>ep l' l
   | none=>false))))
theorem or_none{α:Type}[DecidableEq α]{a b:Option α}(h:(b.isNone || decide (a=b))=true):b=none∨a=b:=by
 rw [Bool.or_eq_true] at h
 rcases h with h|h
 ·left;cases b<;>simp_all
 ·right;exact of_decide_eq_true h
theorem bx{P:Program}{t:Nat}{i:TI}(h:fx P t i=true):DH P t i:=by
 unfold fx at h
 simp only [Bool.and_eq_true] at h
 obtain⟨h1,h2,h3,h4,h5,h6⟩:=h
 have hd:(i.ik=none∨P.underlying t=i.ik.map .int)∧(i.st=false∨P.underlying t=some .string)∧(i.pt=false∨∃e,P.underlying t=some (.pointer e))∧(i.bo=false∨P.underlying t=some .bool):=by
  unfold fY at h2
  split at h2
  ·rename_i k hk
   cases hik:i.ik<;>simp_all
  all_goals simp_all
 refine⟨or_none h1,hd.1,hd.2.1,or_none h3,or_none h4,RF h5,hd.2.2.1,hd.2.2.2,?_⟩
 split at h6
 ·rename_i hz;exact .inl hz
 ·rename_i l hz
  split at h6
  ·rename_i l' hz'
   right;rw [hz',hz,XL h6]
  ·cases h6
def ZJ(P:Program):List (Nat×TI)→Bool
 | []=>true
 | (t,i)::r=>fx P t i && ZJ P r
theorem SP{P:Program}:∀ {l:List (Nat×TI)},ZJ P l=true→SF P l
 | [],_=>trivial
 | (t,i)::r,h=>by
  unfold ZJ at h
  rw [Bool.and_eq_true] at h
  exact⟨bx h.1,SP h.2⟩
class Ci (P:Program) where
 T:List (Nat×TI)
 ok:SF P T
def HR:List (Nat×TI)→Nat→TI
 | [],_=>{}
 | (k,x)::r,t=>bif Nat.beq k t then x else HR r t
def nth{α:Type}:List α→Nat→Option α
 | [],_=>none
 | x::_,0=>some x
 | _::r,n+1=>nth r n
theorem Li{α:Type}:∀(l:List α) (i:Nat),nth l i=l[i]?
 | [],_=>by simp [nth]
 | o::_,0=>by simp [nth]
 | _::r,n+1=>by simp [nth,Li r n]
theorem CX{P:Program}(t:Nat):∀ {T:List (Nat×TI)},SF P T→DH P t (HR T t)
 | [],_=>⟨.inl rfl,.inl rfl,.inl rfl,.inl rfl,.inl rfl,trivial,.inl rfl,.inl rfl,.inl rfl⟩
 | (k,x)::r,h=>by
  unfold HR
  cases hb:Nat.beq k t
  ·exact CX t h.2
  ·have:=Nat.eq_of_beq_eq_true hb
   subst this
   exact h.1
section
variable {P:Program}{t:Nat}{i:TI}
theorem DH.KD(h:DH P t i){ag:Bool}{n:Nat}(e:i.ld=some (ag,n)):Cu P t ag n:=⟨by rcases h.ld with h|h<;>simp_all⟩
theorem DH.Wh(h:DH P t i){k:IntKind}(e:i.ik=some k):Ii P t k:=⟨by rcases h.ik with h|h<;>simp_all⟩
theorem DH.Wk(h:DH P t i)(e:i.st=true):CW P t:=⟨by rcases h.st with h|h<;>simp_all⟩
theorem DH.PU(h:DH P t i){e k b:Nat}(he:i.sl=some (e,k,b)):B0 P t e k b:=⟨by rcases h.sl with h|h<;>simp_all⟩
theorem DH.cH(h:DH P t i){n k:Nat}(he:i.ar=some (n,k)):Nx P t n k:=⟨by rcases h.ar with h|h<;>simp_all⟩
theorem DH.Wi(h:DH P t i)(e:i.pt=true):Rh P t:=⟨h.pt.resolve_left (by simp [e])⟩
theorem DH.Ys(h:DH P t i)(e:i.bo=true):Oy P t:=⟨by rcases h.bo with h|h<;>simp_all⟩
theorem DH.Wn(h:DH P t i){z:List Value}(e:i.ze=some z):BL P t z:=⟨by rcases h.ze with h|h<;>simp_all⟩
theorem Pq.get:∀ {l:List (Option (Nat×Bool×Nat))} {k j:Nat} {x:Nat×Bool×Nat},Pq P t k l→nth l j=some (some x)→Us P t (k+j)=some x.1∧Ut P t (k+j)=some x
 | [],_,_,_,_,h=>by simp [nth] at h
 | none::r,k,0,x,_,h=>by simp [nth] at h
 | some y::r,k,0,x,hf,h=>by simp [nth] at h;subst h;exact hf.1
 | none::r,k,j+1,x,hf,h=>by
  have:=Pq.get (l:=r) (k:=k+1) (j:=j) (x:=x) hf h
  rwa [show k+(j+1)=k+1+j by omega]
 | some y::r,k,j+1,x,hf,h=>by
  have:=Pq.get (l:=r) (k:=k+1) (j:=j) (x:=x) hf.2 h
  rwa [show k+(j+1)=k+1+j by omega]
theorem DH.aa(h:DH P t i){j off n:Nat}{ag:Bool}(e:nth i.fl j=some (some (off,ag,n))):Oz P t j off:=⟨by have:=(h.fl.get e).1;rwa [Nat.zero_add] at this⟩
theorem DH.Yt(h:DH P t i){j off n:Nat}{ag:Bool}(e:nth i.fl j=some (some (off,ag,n))):K4 P t j off ag n:=⟨by have:=(h.fl.get e).2;rwa [Nat.zero_add] at this⟩
end
def EJ(P:Program)(TB:Be)(Γ:Ctx)(ops:Array Oper)(o:Oper)(fl:Fl)(i n:Nat)(K:Env→Ab→Nat→Prop)(L:List (Nat×E))(σ:Ab)(nx:Nat):Prop:=
 Bc ops o (look L)=some true→Bf P TB Γ ops o fl i n K L σ nx
def xE:Bool×List C→Option E
 | (false,[c])=>some (.o c)
 | (true,cs)=>some (.a cs)
 | _=>none
def eQ(f:Env):Op→Option E
 | .move x=>ev f x
 | .pick c x y=>match ev f c with
  | some (.o (.d (.v (.bool true))))=>ev f x
  | some (.o (.d (.v (.bool false))))=>ev f y
  | _=>none
 | .extract x k=>match ev f x with
  | some (.t xs)=>(xs[k]?).bind xE
  | _=>none
 | .nilCheck x=>match ev f x with
  | some (.o (.d (.p cs)))=>some (.o (.ip cs))
  | some (.o (.ptr id k i j))=>some (.o (.ptr id k i j))
  | some (.o (.fn gg cs))=>some (.o (.fn gg cs))
  | _=>none
 | _=>none
def bN:IntKind→IntKind→Bool
 | .i64,.i64|.u8,.u8|.u64,.u64|.i32,.i32|.u16,.u16|.u32,.u32=>true
 | _,_=>false
theorem LX{a b:IntKind}(h:bN a b=true):a=b:=by cases a<;>cases b<;>first|rfl|cases h
def cy(o:BinOp)(m n:Int):Option Bool:=match o with
 | .lss=>some (decide (m < n))
 | .leq=>some (decide (m≤n))
 | .gtr=>some (decide (m > n))
 | .geq=>some (decide (m≥n))
 | .eql=>some (decide (m=n))
 | .neq=>some (decide (m≠n))
 | _=>none
def cx(o:BinOp)(a b:List UInt8):Option Bool:=match o with
 | .eql=>some (decide (a=b))
 | .neq=>some (decide (a≠b))
 | _=>none
def ZQ(o:BinOp):E→E→Option Bool
 | .o (.d (.v (.int k m))),.o (.d (.v (.int k' n)))=>match bN k k' with
  | true=>cy o m n
  | false=>none
 | .o (.d (.v (.string ⟨⟨a⟩⟩))),.o (.d (.v (.string ⟨⟨b⟩⟩)))=>cx o a b
 | _,_=>none
def UT:IntKind→Int→Option Prop
 | .i64,m=>some (-9223372036854775808≤m∧m≤9223372036854775807)
 | .u64,m=>some (0≤m∧m≤18446744073709551615)
 | .u8,m=>some (0≤m∧m≤255)
 | .i32,m=>some (-2147483648≤m∧m≤2147483647)
 | _,_=>none
def fI(o:BinOp)(k:IntKind)(m n:Int):Option (Prop×E):=match o with
 | .add=>(UT k (m+n)).map fun q=>(q,eI k (m+n))
 | .sub=>(UT k (m - n)).map fun q=>(q,eI k (m - n))
 | .mul=>(UT k (m*n)).map fun q=>(q,eI k (m*n))
 | .rem=>some (0≤m∧0 < n,eI k (m % n))
 | .and=>some (True,eI k (FK k m n))
 | .or=>some (True,eI k (Wp k m n))
 | _=>none
def eD(o:BinOp):E→E→Option (Prop×E)
 | .o (.d (.v (.int k m))),.o (.d (.v (.int k' n)))=>match o with
  | .shr=>some (0≤n,eI k (m.fdiv (2 ^ (min n.toNat k.bits))))
  | .quo=>match bN k .i64,bN k' .i64 with
   | true,true=>some ((0≤m∧m≤9223372036854775807)∧0 < n,eI .i64 (m / n))
   | _,_=>none
  | o=>match bN k k' with
   | true=>fI o k m n
   | false=>none
 | .o (.d (.v (.string ⟨⟨a⟩⟩))),.o (.d (.v (.string ⟨⟨b⟩⟩)))=>match o with
  | .add=>some (a.length+b.length≤9223372036854775807,eT (a++b))
  | _=>none
 | _,_=>none
def Z0(off:Nat):E→Option E
 | .o (.d (.p cs))=>some (.o (.ip (cs.drop off)))
 | .o (.ptr id k i j)=>some (.o (.ptr id k i (j+off)))
 | _=>none
def eX(ag:Bool)(n:Nat):E→Option E
 | .o (.d (.p cs))=>match ag,cs with
  | false,c::_=>some (.o (.d c))
  | true,cs=>match Nat.ble n cs.length with
   | true=>some (.a ((cs.take n).map .d))
   | false=>none
  | _,_=>none
 | _=>none
def ak(ag:Bool)(n j:Nat)(r:List C):Option E:=match ag with
 | false=>(r[j]?).map .o
 | true=>match Nat.ble (j+n) r.length with
  | true=>some (.a ((r.drop j).take n))
  | false=>none
def eV(ag:Bool)(off n:Nat)(cs:List C):Option E:=match ag with
 | false=>(cs[off]?).map .o
 | true=>match Nat.ble (off+n) cs.length with
  | true=>some (.a ((cs.drop off).take n))
  | false=>none
def eW(k:Nat)(n:Int):E→Option E
 | .o (.d (.p cs))=>some (.o (.ip (cs.drop (n.toNat*k))))
 | .o (.ptr id k' i j)=>some (.o (.ptr id k' i (j+n.toNat*k)))
 | _=>none
def eZ(k:Nat):E→Option E
 | .o (.d (.l rows))=>some (eI .i64 rows.length)
 | .o (.arr _ k' _ len)=>match Nat.beq k' k with
  | true=>some (eI .i64 len)
  | false=>none
 | _=>none
def tr:Option E→Option (Prop×E)
 | some e=>some (True,e)
 | none=>none
def aD:Bool→E→E→Option (Prop×E)
 | true,.o (.d (.p _)),.o (.d (.v (.pointer none)))=>some (True,eB false)
 | true,.o (.d (.v (.pointer none))),.o (.d (.v (.pointer none)))=>some (True,eB true)
 | _,_,_=>none
def cv(pt:Bool)(o:BinOp)(a b:E):Option (Prop×E):=match o with
 | .eql=>aD pt a b
 | o=>eD o a b
def ab(i:TI):E→E→Option (Prop×E)
 | .o (.arr id k off len),.o (.d (.v (.int _ m)))=>match i.sl with
  | some (_,k',_)=>match Nat.beq k k' with
   | true=>some (0≤m∧m < len,.o (.ptr id k (off+m.toNat) 0))
   | false=>none
  | none=>none
 | a, .o (.d (.v (.int _ m)))=>match i.ar with
  | some (len,k)=>match eW k m a with
   | some e=>some (0≤m∧m < len,e)
   | none=>none
  | none=>none
 | _,_=>none
def aq(i:TI):E→Option E
 | .o (.d (.v (.string ⟨⟨s⟩⟩)))=>match i.st with
  | true=>some (eI .i64 s.length)
  | false=>none
 | e=>match i.sl with
  | some (_,k,_)=>eZ k e
  | none=>none
def ZS(k k':IntKind):E→Option (Prop×E)
 | .o (.d (.v (.int k2 m)))=>match bN k2 k,UT k' m with
  | true,some q=>some (q,eI k' m)
  | _,_=>none
 | _=>none
def Xk(T:List (Nat×TI))(md:Bool)(f:Env):Op→Option (Prop×E)
 | .assign x=>match md,notNil x with
  | true,false=>none
  | _,_=>tr (ev f x)
 | .binOp o t x y _=>match ev f x,ev f y with
  | some a,some b=>cv (HR T t).pt o a b
  | _,_=>none
 | .fieldAddr s x k=>match nth (HR T s).fl k,ev f x with
  | some (some (off,_,_)),some a=>tr (Z0 off a)
  | _,_=>none
 | .field t x k=>match nth (HR T t).fl k,ev f x with
  | some (some (off,ag,n)),some (.a cs)=>tr (eV ag off n cs)
  | _,_=>none
 | .load t x=>match (HR T t).ld,ev f x with
  | some (ag,n),some a=>tr (eX ag n a)
  | _,_=>none
 | .indexAddr t x y=>match ev f x,ev f y with
  | some a,some b=>ab (HR T t) a b
  | _,_=>none
 | .call ⟨.builtin .len,⟨[x]⟩,⟨[t]⟩⟩=>match ev f x with
  | some a=>tr (aq (HR T t) a)
  | none=>none
 | .convert s t x=>match (HR T s).ik,(HR T t).ik,ev f x with
  | some k,some k',some a=>ZS k k' a
  | _,_,_=>none
 | .makeFunc (.func gg) ⟨[]⟩ caps=>match HU f caps.toList with
  | some es=>match XI es with
   | some cs=>some (True,.o (.fn gg cs))
   | none=>none
  | none=>none
 | op=>tr (eQ f op)
def fL:BinOp→E→E→Option Bool
 | .eql,.o (.d (.v (.bool a))),.o (.d (.v (.bool b)))=>some (a == b)
 | .neq,.o (.d (.v (.bool a))),.o (.d (.v (.bool b)))=>some (a != b)
 | _,_,_=>none
def Qt(T:List (Nat×TI))(f:Env):Op→Option Bool
 | .binOp o t x y _=>match ev f x,ev f y with
  | some a,some b=>match (HR T t).bo with
   | true=>fL o a b
   | false=>ZQ o a b
  | _,_=>none
 | .unOp .not _ x=>match ev f x with
  | some (.o (.d (.v (.bool b))))=>some (!b)
  | _=>none
 | _=>none
def KJ(T:List (Nat×TI))(σ:Ab)(f:Env):Op→Option E
 | .load t x=>match (HR T t).ld,ev f x with
  | some (ag,n),some (.o (.ptr id k i j))=>match look σ id with
   | some (.cells _ k' rows)=>match Nat.beq k k',nth rows i with
    | true,some r=>ak ag n j r
    | _,_=>none
   | _=>none
  | _,_=>none
 | _=>none
def Oe(T:List (Nat×TI))(σ:Ab)(f:Env)(t:Nat)(x y:Operand):Option Ab:=
 match (HR T t).ld,ev f x,ev f y with
 | some (_,n),some (.o (.ptr id k i j)),some e=>match look σ id with
  | some (.cells ct k' rows)=>match Nat.beq k k',nth rows i with
   | true,some r=>match PJ e,Nat.beq (eC e).length n,Nat.ble (j+n) k with
    | true,true,true=>some ((id,.cells ct k (rows.set i (AE r j (eC e))))::σ)
    | _,_,_=>none
   | _,_=>none
  | _=>none
 | _,_,_=>none
section
variable {P:Program}{TB:Be}{Γ:Ctx}{d:Option Tmp}{ty:TypeId}{pos:String}{af:Array Edge}{g:Option (Nat×Bool)}{f:Env}{σ:Ab}{nx:Nat}
theorem TS{t:TypeId}{a b:Bool}(he:P.underlying t=some .bool)(w:World):(Op.equal t (.bool a) (.bool b)).run P w=.ok (a == b) w:=by
 unfold Op.equal Op.maxDepth
 rw [show 10000=9999+1 from rfl,Op.equalIn]
 simp [run_underlying he,go_sem]
theorem da{t yt:TypeId}{x y:Operand}{a b:Bool}[hp:Oy P t](hx:ev f x=some (eB a))(hy:ev f y=some (eB b)):AV P TB Γ ⟨d,.binOp .eql t x y yt,ty,pos,af,g⟩ f σ nx (eB (a == b)):=
 Bo hx hy rfl fun w=>by
  have h6:binOp .eql t (.bool a) (.bool b)=(do pure (.bool (←Op.equal t (.bool a) (.bool b)))):=rfl
  have h7:eqGuard .eql t x y (.bool a) (.bool b)=pure ():=rfl
  rw [h6,h7]
  simp [TS hp.out w,go_sem]
theorem dn{t yt:TypeId}{x y:Operand}{a b:Bool}[hp:Oy P t](hx:ev f x=some (eB a))(hy:ev f y=some (eB b)):AV P TB Γ ⟨d,.binOp .neq t x y yt,ty,pos,af,g⟩ f σ nx (eB (a != b)):=
 Bo hx hy rfl fun w=>by
  have h6:binOp .neq t (.bool a) (.bool b)=(do pure (.bool (!(←Op.equal t (.bool a) (.bool b))))):=rfl
  have h7:eqGuard .neq t x y (.bool a) (.bool b)=pure ():=rfl
  rw [h6,h7]
  simp [TS hp.out w,go_sem,bne]
theorem gn{op:Op}{e:E}(h:eQ f op=some e):AV P TB Γ ⟨d,op,ty,pos,af,g⟩ f σ nx e:=by
 unfold eQ at h
 split at h
 ·exact aY h
 ·split at h
  ·rename_i h1;exact YY h1 h
  ·rename_i h1;exact YX h1 h
  ·cases h
 ·split at h
  ·rename_i h1
   refine UN h1 ?_
   rw [←h]
   congr 1
  ·cases h
 ·split at h
  ·rename_i h1;injection h with h;subst h;exact YW h1
  ·rename_i h1;injection h with h;subst h;exact aZ h1
  ·rename_i h1;injection h with h;subst h;exact YV h1
  ·cases h
 ·cases h
theorem c8{o:BinOp}{t yt:TypeId}{x y:Operand}{ex ey:E}{c:Bool}(hx:ev f x=some ex)(hy:ev f y=some ey)(hc:ZQ o ex ey=some c) :
 AV P TB Γ ⟨d,.binOp o t x y yt,ty,pos,af,g⟩ f σ nx (eB c):=by
 unfold ZQ at hc
 split at hc
 ·split at hc
  ·rename_i hk
   have hk:=LX hk
   subst hk
   unfold cy at hc
   split at hc<;>first|(injection hc with hc;subst hc)|cases hc
   ·exact dm hx hy
   ·exact dk hx hy
   ·exact dh hx hy
   ·exact dg hx hy
   ·exact de hx hy
   ·exact dr hx hy
  ·cases hc
 ·unfold cx at hc
  split at hc<;>first|(injection hc with hc;subst hc)|cases hc
  ·exact db hx hy
  ·exact dp hx hy
 ·cases hc
theorem O8{k:IntKind}{m:Int}{q:Prop}(h:UT k m=some q)(hq:q):k.wrap m=m:=by
 unfold UT at h
 split at h<;>first|(injection h with h;subst h)|cases h
 ·exact IntWalk.i64_in _ hq
 ·exact IntWalk.u64_in _ hq
 ·exact IntWalk.u8_in _ hq
 ·exact IntWalk.i32_in _ hq
theorem fg{o:BinOp}{t yt:TypeId}{x y:Operand}{ex ey e:E}{q:Prop}(hx:ev f x=some ex)(hy:ev f y=some ey)(hc:eD o ex ey=some (q,e))(hq:q) :
 AV P TB Γ ⟨d,.binOp o t x y yt,ty,pos,af,g⟩ f σ nx e:=by
 unfold eD at hc
 split at hc
 ·split at hc
  ·injection hc with hc;injection hc with h1 h2;subst h1;subst h2;exact dA hx hy hq rfl
  ·split at hc
   ·rename_i hk hk'
    have hk:=LX hk
    have hk':=LX hk'
    subst hk;subst hk'
    injection hc with hc;injection hc with h1 h2;subst h1;subst h2;exact bf hx hy hq.1.1 hq.1.2 hq.2
   ·cases hc
  ·split at hc
   ·rename_i hk
    have hk:=LX hk
    subst hk
    unfold fI at hc
    split at hc
    ·obtain⟨q',hr,he⟩:=Option.map_eq_some_iff.1 hc
     injection he with h1 h2;subst h1;subst h2;exact cZ hx hy (O8 hr hq)
    ·obtain⟨q',hr,he⟩:=Option.map_eq_some_iff.1 hc
     injection he with h1 h2;subst h1;subst h2;exact dB hx hy (O8 hr hq)
    ·obtain⟨q',hr,he⟩:=Option.map_eq_some_iff.1 hc
     injection he with h1 h2;subst h1;subst h2;exact Zw hx hy (O8 hr hq)
    ·injection hc with hc;injection hc with h1 h2;subst h1;subst h2;exact bg hx hy hq.1 hq.2
    ·injection hc with hc;injection hc with h1 h2;subst h2;exact c6 hx hy rfl
    ·injection hc with hc;injection hc with h1 h2;subst h2;exact ba hx hy rfl
    ·cases hc
   ·cases hc
 ·split at hc
  ·injection hc with hc;injection hc with h1 h2;subst h1;subst h2;exact c7 hx hy hq
  ·cases hc
 ·cases hc
theorem df{s k off:Nat}{x:Operand}{ex e:E}[hf:Oz P s k off](hx:ev f x=some ex)(h:Z0 off ex=some e):AV P TB Γ ⟨d,.fieldAddr s x k,ty,pos,af,g⟩ f σ nx e:=by
 unfold Z0 at h
 split at h<;>first|(injection h with h;subst h)|cases h
 ·exact UO hx
 ·exact WW hx
theorem fk{t:TypeId}{x:Operand}{ex e:E}{ag:Bool}{n:Nat}[hl:Cu P t ag n](hx:ev f x=some ex)(h:eX ag n ex=some e):AV P TB Γ ⟨d,.load t x,ty,pos,af,g⟩ f σ nx e:=by
 unfold eX at h
 split at h
 ·split at h
  ·injection h with h;subst h;exact Qr hx
  ·split at h
   ·rename_i hb;injection h with h;subst h;exact UQ hx (Nat.le_of_ble_eq_true hb)
   ·cases h
  ·cases h
 ·cases h
theorem TF{t:TypeId}{x:Operand}{id k i j:Nat}{T:TypeId}{rows:List (List C)}{r:List C}{e:E}{ag:Bool}{n:Nat}[hl:Cu P t ag n](hx:ev f x=some (.o (.ptr id k i j)))(ho:look σ id=some (.cells T k rows))(hr:rows[i]? = some r)
 (h:ak ag n j r=some e):AV P TB Γ ⟨d,.load t x,ty,pos,af,g⟩ f σ nx e:=by
 unfold ak at h
 split at h
 ·obtain⟨c,hc,he⟩:=Option.map_eq_some_iff.1 h
  subst he
  exact O6 hx ho hr hc
 ·split at h
  ·rename_i hb;injection h with h;subst h;exact Xe hx ho hr (Nat.le_of_ble_eq_true hb)
  ·cases h
theorem fi{t:TypeId}{x:Operand}{k off n:Nat}{ag:Bool}{cs:List C}{e:E}[hf:K4 P t k off ag n](hx:ev f x=some (.a cs))(h:eV ag off n cs=some e):AV P TB Γ ⟨d,.field t x k,ty,pos,af,g⟩ f σ nx e:=by
 unfold eV at h
 split at h
 ·obtain⟨c,hc,he⟩:=Option.map_eq_some_iff.1 h
  subst he
  exact YS hx hc
 ·split at h
  ·rename_i hb;injection h with h;subst h;exact WV hx (Nat.le_of_ble_eq_true hb)
  ·cases h
theorem fj{t:TypeId}{x y:Operand}{ex e:E}{n:Int}{len k:Nat}{ik:IntKind}[hl:Nx P t len k](hx:ev f x=some ex)(hy:ev f y=some (eI ik n))(h:eW k n ex=some e)(hn:0≤n∧n < len) :
 AV P TB Γ ⟨d,.indexAddr t x y,ty,pos,af,g⟩ f σ nx e:=by
 unfold eW at h
 split at h<;>first|(injection h with h;subst h)|cases h
 ·exact UP hx hy hn.1 hn.2
 ·exact W0 hx hy hn.1 hn.2
theorem dj{t e:TypeId}{x:Operand}{ex r:E}{k b:Nat}[hl:B0 P t e k b](hx:ev f x=some ex)(h:eZ k ex=some r):AV P TB Γ ⟨d,.call ⟨.builtin .len,#[x],#[t]⟩,ty,pos,af,g⟩ f σ nx r:=by
 unfold eZ at h
 split at h
 ·injection h with h;subst h;exact Xc hx
 ·split at h
  ·injection h with h;subst h;exact aT hx
  ·cases h
 ·cases h
theorem Ku{x:Option E}{q:Prop}{e:E}(h:tr x=some (q,e)):x=some e:=by
 cases x with
 | none=>cases h
 | some y=>injection h with h;injection h with _ h;rw [h]
theorem av{i:TI}{t:TypeId}{x:Operand}{a e:E}(hi:DH P t i)(hx:ev f x=some a)(h:aq i a=some e):AV P TB Γ ⟨d,.call ⟨.builtin .len,#[x],#[t]⟩,ty,pos,af,g⟩ f σ nx e:=by
 unfold aq at h
 split at h
 ·split at h
  ·rename_i hs
   injection h with h;subst h
   haveI:=hi.Wk hs
   exact aX hx
  ·cases h
 ·split at h
  ·rename_i hs
   haveI:=hi.PU hs
   exact dj hx h
  ·cases h
theorem ah{i:TI}{t:TypeId}{x y:Operand}{a b e:E}{q:Prop}(hi:DH P t i)(hx:ev f x=some a)(hy:ev f y=some b)(h:ab i a b=some (q,e))(hq:q):AV P TB Γ ⟨d,.indexAddr t x y,ty,pos,af,g⟩ f σ nx e:=by
 unfold ab at h
 split at h
 ·split at h
  ·rename_i hs
   split at h
   ·rename_i hk
    injection h with h;injection h with h1 h2;subst h1;subst h2
    have:=Nat.eq_of_beq_eq_true hk
    subst this
    haveI:=hi.PU hs
    exact WX hx hy hq.1 hq.2
   ·cases h
  ·cases h
 ·split at h
  ·rename_i hs
   split at h
   ·rename_i hv
    injection h with h;injection h with h1 h2;subst h1;subst h2
    haveI:=hi.cH hs
    exact fj hx hy hv hq
   ·cases h
  ·cases h
 ·cases h
theorem aF{i:TI}{t yt:TypeId}{x y:Operand}{a b e:E}{q:Prop}(hi:DH P t i)(hx:ev f x=some a)(hy:ev f y=some b)(h:aD i.pt a b=some (q,e)):AV P TB Γ ⟨d,.binOp .eql t x y yt,ty,pos,af,g⟩ f σ nx e:=by
 unfold aD at h
 split at h
 ·rename_i hp
  injection h with h;injection h with h1 h2;subst h2
  haveI:=hi.Wi hp
  exact UM hx hy
 ·rename_i hp
  injection h with h;injection h with h1 h2;subst h2
  haveI:=hi.Wi hp
  exact Sb hx hy
 ·cases h
theorem ZT{i i':TI}{s t:TypeId}{k k':IntKind}{x:Operand}{a e:E}{q:Prop}(hi:DH P s i)(hi':DH P t i')(hk:i.ik=some k)(hk':i'.ik=some k')(hx:ev f x=some a)(h:ZS k k' a=some (q,e))(hq:q):AV P TB Γ ⟨d,.convert s t x,ty,pos,af,g⟩ f σ nx e:=by
 unfold ZS at h
 split at h
 ·split at h
  ·rename_i h1 hr
   injection h with h;injection h with h2 h3;subst h2;subst h3
   have h1:=LX h1
   subst h1
   haveI:=hi.Wh hk
   haveI:=hi'.Wh hk'
   exact O3 hx (O8 hr hq)
  ·cases h
 ·cases h
theorem TP[hT:Ci P]{md:Bool}{op:Op}{q:Prop}{e:E}(h:Xk hT.T md f op=some (q,e))(hq:q):AV P TB Γ ⟨d,op,ty,pos,af,g⟩ f σ nx e:=by
 have hty:=fun t=>CX (P:=P) t hT.ok
 unfold Xk at h
 split at h
 ·split at h
  ·cases h
  ·exact BQ (Ku h)
 ·rename_i o t x y yt
  split at h
  ·rename_i hx hy
   unfold cv at h
   split at h
   ·exact aF (hty t) hx hy h
   ·exact fg hx hy h hq
  ·cases h
 ·rename_i s x k
  split at h
  ·rename_i hf hx
   haveI:=(hty s).aa hf
   exact df hx (Ku h)
  ·cases h
 ·rename_i t x k
  split at h
  ·rename_i hf hx
   haveI:=(hty t).Yt hf
   exact fi hx (Ku h)
  ·cases h
 ·rename_i t x
  split at h
  ·rename_i hl hx
   haveI:=(hty t).KD hl
   exact fk hx (Ku h)
  ·cases h
 ·rename_i t x y
  split at h
  ·rename_i hx hy
   exact ah (hty t) hx hy h hq
  ·cases h
 ·rename_i x t
  split at h
  ·rename_i hx
   exact av (hty t) hx (Ku h)
  ·cases h
 ·rename_i s t x
  split at h
  ·rename_i h1 h2 hx
   exact ZT (hty s) (hty t) h1 h2 hx h hq
  ·cases h
 ·split at h
  ·rename_i h1
   split at h
   ·rename_i h2
    injection h with h;injection h with _ h;subst h
    exact fh h1 h2
   ·cases h
  ·cases h
 ·exact gn (Ku h)
theorem Qu[hT:Ci P]{op:Op}{c:Bool}(h:Qt hT.T f op=some c):AV P TB Γ ⟨d,op,ty,pos,af,g⟩ f σ nx (eB c):=by
 have hty:=fun t=>CX (P:=P) t hT.ok
 unfold Qt at h
 split at h
 ·rename_i o t x y yt
  split at h
  ·rename_i hx hy
   split at h
   ·rename_i hb
    haveI:=(hty t).Ys hb
    unfold fL at h
    split at h
    ·injection h with h;subst h;exact da hx hy
    ·injection h with h;subst h;exact dn hx hy
    ·cases h
   ·exact c8 hx hy h
  ·cases h
 ·split at h
  ·rename_i hx
   injection h with h;subst h
   exact dv hx
  ·cases h
 ·cases h
theorem My[hT:Ci P]{op:Op}{e:E}(h:KJ hT.T σ f op=some e):AV P TB Γ ⟨d,op,ty,pos,af,g⟩ f σ nx e:=by
 have hty:=fun t=>CX (P:=P) t hT.ok
 unfold KJ at h
 split at h
 ·rename_i t x
  split at h
  ·rename_i hl hx
   split at h
   ·rename_i ho
    split at h
    ·rename_i hk hr
     have hk:=Nat.eq_of_beq_eq_true hk
     subst hk
     haveI:=(hty t).KD hl
     rw [Li] at hr
     exact TF hx ho hr h
    ·cases h
   ·cases h
  ·cases h
 ·cases h
theorem Mz[hT:Ci P]{t:TypeId}{x y:Operand}{σ':Ab}{K:E→Ab→Nat→Prop}(h:Oe hT.T σ f t x y=some σ')(hK:K (.t []) σ' nx):BX P TB Γ ⟨d,.store t x y,ty,pos,af,g⟩ f σ nx K:=by
 have hty:=fun t=>CX (P:=P) t hT.ok
 unfold Oe at h
 split at h
 ·rename_i hl hx hy
  split at h
  ·rename_i ho
   split at h
   ·rename_i hk hr
    split at h
    ·rename_i h1 h2 h3
     have hk:=Nat.eq_of_beq_eq_true hk
     subst hk
     haveI:=(hty t).KD hl
     rw [Li] at hr
     injection h with h
     subst h
     exact Ea hx hy h1 ho hr (Nat.eq_of_beq_eq_true h2) (Nat.le_of_ble_eq_true h3) hK
    ·cases h
   ·cases h
  ·cases h
 ·cases h
end
section
variable {P:Program}{TB:Be}{Γ:Ctx}{ops:Array Oper}{fl:Fl}{i n:Nat}{L:List (Nat×E)}{σ:Ab}{nx:Nat}{K:Env→Ab→Nat→Prop}{d:Tmp}{ty:TypeId}{pos:String}{af:Array Edge}{g:Option (Nat×Bool)}{op:Op}
theorem gA{d:Option Tmp}(hg:Bc ops ⟨d,op,ty,pos,af,g⟩ (look L)=some true)(h:EJ P TB Γ ops ⟨d,op,ty,pos,af,g⟩ fl i n K L σ nx):Bf P TB Γ ops ⟨d,op,ty,pos,af,g⟩ fl i n K L σ nx:=h hg
theorem gS{x:E}(hq:∀σ nx,AV P TB Γ ⟨some d,op,ty,pos,af,g⟩ (look L) σ nx x)(h:Lex P TB Γ ops (Af fl (i+1) n) K (look ((d,x)::L)) σ nx):EJ P TB Γ ops ⟨some d,op,ty,pos,af,g⟩ fl i n K L σ nx:=fun hg=>B5 hq hg h
theorem gQ{x:E}(hq:AV P TB Γ ⟨some d,op,ty,pos,af,g⟩ (look L) σ nx x)(hf:OC (fl i)=true)(h:Lex P TB Γ ops (Af fl (i+1) n) K (look ((d,x)::L)) σ nx):EJ P TB Γ ops ⟨some d,op,ty,pos,af,g⟩ fl i n K L σ nx:=fun hg=>YR hq hg hf h
theorem gB{c:Bool}(hq:∀σ nx,AV P TB Γ ⟨some d,op,ty,pos,af,g⟩ (look L) σ nx (eB c))(h:∀b,c=b→Lex P TB Γ ops (Af fl (i+1) n) K (look ((d,eB b)::L)) σ nx):EJ P TB Γ ops ⟨some d,op,ty,pos,af,g⟩ fl i n K L σ nx:=fun hg=>UL hq hg h
theorem fQ{c:Bool}(hq:AV P TB Γ ⟨some d,op,ty,pos,af,g⟩ (look L) σ nx (eB c))(hf:OC (fl i)=true)(h:∀b,c=b→Lex P TB Γ ops (Af fl (i+1) n) K (look ((d,eB b)::L)) σ nx):EJ P TB Γ ops ⟨some d,op,ty,pos,af,g⟩ fl i n K L σ nx:=fun hg=>YR hq hg hf (h c rfl)
theorem gW(h:BX P TB Γ ⟨some d,op,ty,pos,af,g⟩ (look L) σ nx (fun x σ' nx'=>Lex P TB Γ ops (Af fl (i+1) n) K (look ((d,x)::L)) σ' nx'))(hf:fl i=1):EJ P TB Γ ops ⟨some d,op,ty,pos,af,g⟩ fl i n K L σ nx:=fun hg=>RZ h hg hf
theorem fR(h:BX P TB Γ ⟨none,op,ty,pos,af,g⟩ (look L) σ nx (fun _ σ' nx'=>Lex P TB Γ ops (Af fl (i+1) n) K (look L) σ' nx'))(hf:fl i=1):EJ P TB Γ ops ⟨none,op,ty,pos,af,g⟩ fl i n K L σ nx:=fun hg=>FT h hg hf
theorem yQ{md:Bool}[hT:Ci P]{q:Prop}{x:E}(h:Xk hT.T md (look L) op=some (q,x))(hq:q)(hk:Lex P TB Γ ops (Af fl (i+1) n) K (look ((d,x)::L)) σ nx):EJ P TB Γ ops ⟨some d,op,ty,pos,af,g⟩ fl i n K L σ nx:=gS (fun _ _=>TP h hq) hk
theorem yB[hT:Ci P]{c:Bool}(h:Qt hT.T (look L) op=some c)(hk:∀b,c=b→Lex P TB Γ ops (Af fl (i+1) n) K (look ((d,eB b)::L)) σ nx):EJ P TB Γ ops ⟨some d,op,ty,pos,af,g⟩ fl i n K L σ nx:=gB (fun _ _=>Qu h) hk
theorem yS[hT:Ci P]{x:E}(h:KJ hT.T σ (look L) op=some x)(hf:OC (fl i)=true)(hk:Lex P TB Γ ops (Af fl (i+1) n) K (look ((d,x)::L)) σ nx):EJ P TB Γ ops ⟨some d,op,ty,pos,af,g⟩ fl i n K L σ nx:=gQ (My h) hf hk
theorem yW[hT:Ci P]{t:TypeId}{x y:Operand}{σ':Ab}(h:Oe hT.T σ (look L) t x y=some σ')(hf:fl i=1)(hk:Lex P TB Γ ops (Af fl (i+1) n) K (look L) σ' nx):EJ P TB Γ ops ⟨none,.store t x y,ty,pos,af,g⟩ fl i n K L σ nx:=fR (Mz h hk) hf
theorem yO[hT:Ci P]{T:TypeId}{z:List Value}(h:(HR hT.T T).ze=some z)(hok:z.all Nw=true)(hf:fl i=1)(hK:Lex P TB Γ ops (Af fl (i+1) n) K (look ((d,.o (.ptr nx z.length 0 0))::L)) ((nx,.cells T z.length [z.map zC])::σ) (nx+1)):EJ P TB Γ ops ⟨some d,.alloc T,ty,pos,af,g⟩ fl i n K L σ nx:=
 haveI:=(CX (P:=P) T hT.ok).Wn h
 gW (YH hok hK) hf
theorem yM[hT:Ci P]{t:TypeId}{x:Operand}{id k i' j:Nat}{T:TypeId}{rows:List (List C)}{r:List C}{e:E}{ag:Bool}{m:Nat}(hx:ev (look L) x=some (.o (.ptr id k i' j)))(ho:look σ id=some (.cells T k rows))(hr:rows[i']? = some r)(hl:(HR hT.T t).ld=some (ag,m))
 (h:ak ag m j r=some e) (hf:OC (fl i)=true) (hk:Lex P TB Γ ops (Af fl (i+1) n) K (look ((d,e)::L)) σ nx):EJ P TB Γ ops ⟨some d,.load t x,ty,pos,af,g⟩ fl i n K L σ nx:=
 haveI:=(CX (P:=P) t hT.ok).KD hl
 gQ (TF hx ho hr h) hf hk
theorem yV[hT:Ci P]{t:TypeId}{x y:Operand}{id k i' j m:Nat}{T:TypeId}{rows:List (List C)}{r:List C}{e:E}{ag:Bool}(hx:ev (look L) x=some (.o (.ptr id k i' j)))(hy:ev (look L) y=some e)(ho:PJ e=true)(hlk:look σ id=some (.cells T k rows))(hr:rows[i']? = some r)
 (hl:(HR hT.T t).ld=some (ag,m)) (hn:(eC e).length=m) (hj:Nat.ble (j+m) k=true) (hf:fl i=1) (hk:Lex P TB Γ ops (Af fl (i+1) n) K (look L) ((id,.cells T k (rows.set i' (AE r j (eC e))))::σ) nx):EJ P TB Γ ops ⟨none,.store t x y,ty,pos,af,g⟩ fl i n K L σ nx:=
 haveI:=(CX (P:=P) t hT.ok).KD hl
 fR (Ea hx hy ho hlk hr hn (Nat.le_of_ble_eq_true hj) hk) hf
theorem gu[hT:Ci P]{α:Type}{t e:TypeId}{x:Operand}{l:List α}{g1:α→List D}{k b:Nat}(hx:ev (look L) x=some (.o (.d (.l (l.map g1)))))(hl:(HR hT.T t).sl=some (e,k,b))(hk:Lex P TB Γ ops (Af fl (i+1) n) K (look ((d,eI .i64 l.length)::L)) σ nx):EJ P TB Γ ops ⟨some d,.call ⟨.builtin .len,#[x],#[t]⟩,ty,pos,af,g⟩ fl i n K L σ nx:=
 haveI:=(CX (P:=P) t hT.ok).PU hl
 gS (fun _ _=>aV hx) hk
theorem yL[hT:Ci P]{t e:TypeId}{x y:Operand}{rows:List (List D)}{row:List D}{m:Int}{k b:Nat}{ik:IntKind}(hx:ev (look L) x=some (.o (.d (.l rows))))(hy:ev (look L) y=some (eI ik m))(hr:rows[m.toNat]? = some row)(hl:(HR hT.T t).sl=some (e,k,b))(hn:row.length=k)(h0:0≤m)
 (hk:Lex P TB Γ ops (Af fl (i+1) n) K (look ((d,.o (.ip row))::L)) σ nx):EJ P TB Γ ops ⟨some d,.indexAddr t x y,ty,pos,af,g⟩ fl i n K L σ nx:=
 haveI:=(CX (P:=P) t hT.ok).PU hl
 gS (fun _ _=>WZ hx hy h0 hr hn) hk
theorem yT[hT:Ci P]{t:TypeId}{x y:Operand}{s:List UInt8}{m:Int}{c:UInt8}{ik:IntKind}(hx:ev (look L) x=some (eT s))(hy:ev (look L) y=some (eI ik m))(hc:s[m.toNat]? = some c)(hl:(HR hT.T t).st=true)(h0:0≤m)
 (hk:Lex P TB Γ ops (Af fl (i+1) n) K (look ((d,eI .u8 (c.toNat:Int))::L)) σ nx):EJ P TB Γ ops ⟨some d,.index t x y,ty,pos,af,g⟩ fl i n K L σ nx:=
 haveI:=(CX (P:=P) t hT.ok).Wk hl
 gS (fun _ _=>Xb hx hy h0 hc) hk
def fq(k m:Nat)(z:List Value)(es:List E):Option (List (List D)):=match es.all PJ,MV es with
 | true,some rows=>match rows.all fun r=>Nat.beq r.length k,Nat.beq z.length k,z.all Nw,Nat.ble 1 k,Nat.ble (m*k) 16777216 with
  | true,true,true,true,true=>some rows
  | _,_,_,_,_=>none
 | _,_=>none
theorem yZ[hT:Ci P]{t e:TypeId}{k b m:Nat}{z:List Value}{parts:Array (Nat×Operand)}{es:List E}{rows:List (List D)}(hl:(HR hT.T t).sl=some (e,k,b))(hz:(HR hT.T e).ze=some z)(hp:Cw 0 (parts.toList.map (·.2))=parts.toList)(hn:parts.toList.length=m)
 (hes:HU (look L) (parts.toList.map (·.2))=some es) (hv:fq k m z es=some rows)
 (h:Lex P TB Γ ops (Af fl (i+1) n) K (look ((d,.o (.d (.l rows)))::L)) σ nx):EJ P TB Γ ops ⟨some d,.buildSlice t m parts,ty,pos,af,g⟩ fl i n K L σ nx:=by
 haveI:=(CX (P:=P) t hT.ok).PU hl
 haveI:=(CX (P:=P) e hT.ok).Wn hz
 unfold fq at hv
 split at hv
 ·rename_i h1 h2
  split at hv
  ·rename_i h3 h4 h5 h6 h7
   injection hv with hv
   subst hv
   exact gS (fun _ _=>Mu hp hn hes h1 h2 h3 (Nat.eq_of_beq_eq_true h4) h5 h6 h7) h
  ·cases hv
 ·cases hv
theorem yY{T:TypeId}{x:Operand}{e:E}{ds:List D}(hx:ev (look L) x=some e)(ho:PJ e=true)(hd:Nv (eC e)=some ds)(h:Lex P TB Γ ops (Af fl (i+1) n) K (look ((d,.o (.ip ds))::L)) σ nx):EJ P TB Γ ops ⟨some d,.box T x,ty,pos,af,g⟩ fl i n K L σ nx:=gS (fun _ _=>CE hx ho hd) h
def YJ:Nat→List (Nat×Operand)→Bool
 | _,[]=>true
 | k,(i,_)::r=>Nat.beq i k && YJ (k+1) r
theorem Tv:∀(l:List (Nat×Operand)) (k:Nat),YJ k l=true→Cw k (l.map (·.2))=l
 | [],_,_=>rfl
 | (i,x)::r,k,h=>by
  unfold YJ at h
  rw [Bool.and_eq_true] at h
  have h1:=Nat.eq_of_beq_eq_true h.1
  subst h1
  have:=Tv r (i+1) h.2
  simp [Cw,this]
def YM(c:Nat):Option E→Bool
 | some (.o (.ptr id _ _ _))=>OC c || (Nat.beq c (10+id) && !Nat.ble 1000 c)
 | _=>OC c
theorem Xl{T:List (Nat×TI)}{σ σ':Ab}{f:Env}{t:TypeId}{x:Operand}{id k i j:Nat}(hx:ev f x=some (.o (.ptr id k i j)))(h:look σ' id=look σ id):KJ T σ' f (.load t x)=KJ T σ f (.load t x):=by
 unfold KJ
 simp only [hx]
 cases (HR T t).ld with
 | none=>rfl
 | some p=>obtain⟨ag,n⟩:=p;simp only [h]
def TN(T:List (Nat×TI))(sl:Bool)(c nx:Nat)(σ:Ab)(L:List (Nat×E)):Option Tmp→Op→Option (List (Nat×E)×Ab×Nat)
 | some d,.alloc t=>match Nat.beq c 1,(HR T t).ze with
  | true,some z=>match z.all Nw with
   | true=>some ((d,.o (.ptr nx z.length 0 0))::L,(nx,.cells t z.length [z.map zC])::σ,nx+1)
   | false=>none
  | _,_=>none
 | none,.store t x y=>match Nat.beq c 1,Oe T σ (look L) t x y with
  | true,some σ'=>some (L,σ',nx)
  | _,_=>none
 | some d,.load t x=>match YM c (ev (look L) x),KJ T σ (look L) (.load t x) with
  | true,some e=>some ((d,e)::L,σ,nx)
  | _,_=>none
 | some d,.box _ x=>match sl,ev (look L) x with
  | true,some e=>match PJ e,Nv (eC e) with
   | true,some ds=>some ((d,.o (.ip ds))::L,σ,nx)
   | _,_=>none
  | _,_=>none
 | some d,.buildSlice t m parts=>match sl,(HR T t).sl with
  | true,some (e,k,_)=>match (HR T e).ze,HU (look L) (parts.toList.map (·.2)) with
   | some z,some es=>match fq k m z es,YJ 0 parts.toList,Nat.beq parts.toList.length m with
    | some rows,true,true=>some ((d,.o (.d (.l rows)))::L,σ,nx)
    | _,_,_=>none
   | _,_=>none
  | _,_=>none
 | _,_=>none
theorem yU[hT:Ci P]{sl:Bool}{d:Option Tmp}{L':List (Nat×E)}{σ':Ab}{nx':Nat}(h:TN hT.T sl (fl i) nx σ L d op=some (L',σ',nx'))(hk:Lex P TB Γ ops (Af fl (i+1) n) K (look L') σ' nx'):EJ P TB Γ ops ⟨d,op,ty,pos,af,g⟩ fl i n K L σ nx:=by
 unfold TN at h
 split at h
 ·split at h
  ·rename_i h1 h2
   split at h
   ·rename_i h3
    injection h with h;injection h with e1 h;injection h with e2 e3;subst e1;subst e2;subst e3
    exact yO h2 h3 (Nat.eq_of_beq_eq_true h1) hk
   ·cases h
  ·cases h
 ·split at h
  ·rename_i h1 h2
   injection h with h;injection h with e1 h;injection h with e2 e3;subst e1;subst e2;subst e3
   exact yW h2 (Nat.eq_of_beq_eq_true h1) hk
  ·cases h
 ·split at h
  ·rename_i h1 h2
   injection h with h;injection h with e1 h;injection h with e2 e3;subst e1;subst e2;subst e3
   unfold YM at h1
   split at h1
   ·rename_i hx
    rw [Bool.or_eq_true] at h1
    rcases h1 with h1|h1
    ·exact yS h2 h1 hk
    ·rw [Bool.and_eq_true] at h1
     have h3:=Nat.eq_of_beq_eq_true h1.1
     refine fun hg=>cU (fun σ' nx' hs=>My (by rw [h3,Nat.add_sub_cancel_left] at hs;rw [Xl (σ:=σ) (σ':=σ') hx hs];exact h2)) hg ⟨Nat.ble_eq_true_of_le (by omega),by simpa using h1.2⟩ hk
   ·exact yS h2 h1 hk
  ·cases h
 ·split at h
  ·rename_i h1
   split at h
   ·rename_i h2 h3
    injection h with h;injection h with e1 h;injection h with e2 e3;subst e1;subst e2;subst e3
    exact yY h1 h2 h3 hk
   ·cases h
  ·cases h
 ·split at h
  ·rename_i h1
   split at h
   ·rename_i h2 h3
    split at h
    ·rename_i h4 h5 h6
     injection h with h;injection h with e1 h;injection h with e2 e3;subst e1;subst e2;subst e3
     exact yZ h1 h2 (Tv _ _ h5) (Nat.eq_of_beq_eq_true h6) h3 h4 hk
    ·cases h
   ·cases h
  ·cases h
 ·cases h
theorem yP{x:Operand}{args:Array Operand}{tys:Array TypeId}{gg:FuncId}{cap:List C}{es:List E}{r:E}(hx:ev (look L) x=some (.o (.fn gg cap)))(hes:HU (look L) args.toList=some es)(hp:(es.all E.AL && C.A5 cap)=true)
 (hs:Pure P TB gg (es++cap.map .o) r) (hr:r.AL=true) (h:Lex P TB Γ ops (Af fl (i+1) n) K (look ((d,r)::L)) σ nx):EJ P TB Γ ops ⟨some d,.call ⟨.value x,args,tys⟩,ty,pos,af,g⟩ fl i n K L σ nx:=gS (fun _ _=>AD hx hes hp hs hr) h
theorem yC{x:Operand}{args:Array Operand}{tys:Array TypeId}{gg:FuncId}{cap:List C}{es:List E}{c:Bool}(hx:ev (look L) x=some (.o (.fn gg cap)))(hes:HU (look L) args.toList=some es)(hp:(es.all E.AL && C.A5 cap)=true)
 (hs:Pure P TB gg (es++cap.map .o) (eB c)) (h:∀b,c=b→Lex P TB Γ ops (Af fl (i+1) n) K (look ((d,eB b)::L)) σ nx):EJ P TB Γ ops ⟨some d,.call ⟨.value x,args,tys⟩,ty,pos,af,g⟩ fl i n K L σ nx:=gB (fun _ _=>AD hx hes hp hs rfl) h
theorem yG{d:Option Tmp}{j t:Nat}{w b:Bool}(_hd:(ops[j]?).bind (·.dst)=some t)(_hv:look L t=some (eB b))
 (hT:b=true→Lex P TB Γ ops (Af fl i (n+1)) K (look L) σ nx) (hF:b=false→Lex P TB Γ ops (Af fl i (n+1)) K (look L) σ nx):Bf P TB Γ ops ⟨d,op,ty,pos,af,some (j,w)⟩ fl i n K L σ nx:=by
 intro _
 cases b
 ·exact hF rfl
 ·exact hT rfl
end
end Go.Am
namespace Go.Am
open Go Go.ChangeShapes Go.WideShapes Go.RowKit
def below(w:World)(b:Nat):Prop:=b < w.heap.size
def Rd{α:Type}(P:Program)(w:World)(t:TypeId)(k:Nat)(f:α→List D):Prop:=
 ∀ {H:Type} (enc:TypeId×Value→H) (fuel:Nat) (cs:List Value) (x:DataW H×List MemPlace),DataW.trod enc P w 0 (fun _=>true) true fuel t cs=some x→
  ∃y:α,cs.length=k∧(f y).length=k∧∀(j:Nat) c d,cs[j]? = some c→(f y)[j]? = some d→Ch (below w) w d c
section
variable {P:Program}{w:World}{t e:TypeId}{k:Nat}
theorem Rd.map{α β:Type}{f:α→List D}{f':β→List D}(g:α→β)(hg:∀y,f y=f' (g y))(h:Rd P w t k f):Rd P w t k f':=fun enc fuel cs x hx=>by
 obtain⟨y,h1,h2,h3⟩:=h enc fuel cs x hx
 exact⟨g y,h1,by rw [←hg];exact h2,by rw [←hg];exact h3⟩
theorem Hr{c0:Value}{d0:D}(h:Ch (below w) w d0 c0):∀(j:Nat) c d,[c0][j]? = some c→[d0][j]? = some d→Ch (below w) w d c:=by
 intro j c d hc hd
 match j with
 | 0=>simp at hc hd;subst hc;subst hd;exact h
 | j+1=>simp at hc
theorem IF(ht:P.underlying t=some (.int .i64)):Rd P w t 1 (fun n:Int=>[.v (.int .i64 n)]):=fun enc fuel cs x hx=>by
 obtain⟨n,rfl,_,_⟩:=DataW.trod_int ht hx
 exact⟨n,rfl,rfl,Hr (.v rfl)⟩
theorem Y0(ht:P.underlying t=some .bool):Rd P w t 1 (fun b:Bool=>[.v (.bool b)]):=fun enc fuel cs x hx=>by
 obtain⟨b,rfl,_⟩:=DataW.trod_bool ht hx
 exact⟨b,rfl,rfl,Hr (.v rfl)⟩
theorem NG{a:Addr}{n:Nat}{cs:List Value}(h:w.cells? 0 a n=some cs):cs.length=n∧∀(j:Nat) c,cs[j]? = some c→w.cell? (a.add j)=some c:=by
 unfold World.cells? at h
 rw [if_pos (Nat.zero_le _)] at h
 have hl:=mapM_some_length h
 simp at hl
 refine⟨hl,fun j c hc=>?_⟩
 have hlt:=(List.getElem?_eq_some_iff.1 hc).1
 have:=mapM_some_get h j j (by rw [List.getElem?_range (by omega)])
 rw [this];exact hc
theorem Jw{α:Type}{f:α→List D}(ht:P.underlying t=some (.slice e))(hk:P.cellsOf e=k)(h0:0 < k)(hf:Rd P w e k f):Rd P w t 1 (fun l:List α=>[.l (l.map f)]):=fun enc fuel cs x hx=>by
 rcases DataW.trod_slice ht hx with ⟨rfl,_⟩|⟨a,len,cap,elems,rest,n,rfl,rfl,_,_,hlc,hcm,hel,hget,_,_⟩
 ·exact⟨[],rfl,rfl,Hr .nil⟩
 ·rw [hk] at hget
  rcases Nat.eq_zero_or_pos len with hl0|hl0
  ·subst hl0
   exact⟨[],rfl,rfl,Hr (.e hcm)⟩
  have key:∀i,i < len→∃(y:α) (cs:List Value),w.cells? 0 (a.add (i*k)) k=some cs∧cs.length=k∧(f y).length=k∧∀(j:Nat) c d,cs[j]? = some c→(f y)[j]? = some d→Ch (below w) w d c:=by
   intro i hi
   have h1:=hget i hi
   have hie:i < elems.length:=by omega
   rw [List.getElem?_eq_getElem hie] at h1
   simp only [Option.bind_eq_some_iff] at h1
   obtain⟨cs,h2,h3⟩:=h1
   obtain⟨y,h4,h5,h6⟩:=hf enc n cs _ h3
   exact⟨y,cs,h2,h4,h5,h6⟩
  obtain⟨b,o,rfl,hb⟩:∃b o,a=⟨b,o,none⟩∧b < w.heap.size:=by
   obtain⟨y,cs,h2,h4,_,_⟩:=key 0 hl0
   have h7:=(NG h2).2 0 (cs[0]'(by omega)) (by simp)
   rw [Nat.zero_mul] at h7
   have h8:∀a:Addr,a.add 0=a:=fun a=>by simp [Addr.add]
   rw [h8,h8] at h7
   unfold World.cell? at h7
   obtain⟨b,o,sp⟩:=a
   split at h7
   ·rename_i c _ _ hh
    split at h7
    ·cases h7
    ·rename_i hs
     cases sp with
     | none=>exact⟨b,o,rfl,(Array.getElem?_eq_some_iff.1 hh).1⟩
     | some s=>simp at hs
   ·cases h7
  have hlist:∀m,m≤len→∃l:List α,l.length=m∧∀(i:Nat) y,l[i]? = some y→(f y).length=k∧∀(j:Nat) d,(f y)[j]? = some d→∃c,w.cell? ⟨b,o+i*k+j,none⟩=some c∧Ch (below w) w d c:=by
   intro m
   induction m with
   | zero=>intro _;exact⟨[],rfl,fun i y h=>by simp at h⟩
   | succ m ih=>
    intro hm
    obtain⟨l,hl,hall⟩:=ih (by omega)
    obtain⟨y,cs,h2,h4,h5,h6⟩:=key m (by omega)
    refine⟨l++[y],by simp [hl],fun i z hz=>?_⟩
    by_cases hi:i < l.length
    ·rw [List.getElem?_append_left hi] at hz;exact hall i z hz
    ·rw [List.getElem?_append_right (by omega)] at hz
     have hi0:i=m:=by
      have:=(List.getElem?_eq_some_iff.1 hz).1
      simp at this;omega
     subst hi0
     rw [hl,Nat.sub_self] at hz
     simp at hz
     subst hz
     refine⟨h5,fun j d hj=>?_⟩
     have hjl:j < cs.length:=by rw [h4,←h5];exact(List.getElem?_eq_some_iff.1 hj).1
     have h7:=(NG h2).2 j cs[j] (List.getElem?_eq_getElem hjl)
     rw [Bj,Bj] at h7
     exact⟨cs[j],h7,h6 j _ d (List.getElem?_eq_getElem hjl) hj⟩
  obtain⟨l,hl,hall⟩:=hlist len (Nat.le_refl _)
  refine⟨l,rfl,rfl,Hr ?_⟩
  have hll:(l.map f).length=len:=by simp [hl]
  rw [←hll]
  refine .l (b:=b) (o:=o) (k:=k) (vs:=fun i j=>(w.cell? ⟨b,o+i*k+j,none⟩).getD undef) hb (by simpa [hl] using hlc) hcm (fun i r hr=>?_) (fun i r j d hr hd=>?_) (fun i r j d hr hd=>?_)
  all_goals
   rw [List.getElem?_map,Option.map_eq_some_iff] at hr
   obtain⟨y,hy,rfl⟩:=hr
  ·exact(hall i y hy).1
  ·obtain⟨c,h1,_⟩:=(hall i y hy).2 j d hd
   rw [h1];rfl
  ·obtain⟨c,h1,h2⟩:=(hall i y hy).2 j d hd
   rw [h1];exact h2
theorem OB{cs:List Value}{l m:List D}{k:Nat}(hl:l.length=k)(h1:∀(j:Nat) c d,(cs.take k)[j]? = some c→l[j]? = some d→Ch (below w) w d c)(h2:∀(j:Nat) c d,(cs.drop k)[j]? = some c→m[j]? = some d→Ch (below w) w d c) :
 ∀(j:Nat) c d,cs[j]? = some c→(l++m)[j]? = some d→Ch (below w) w d c:=by
 intro j c d hc hd
 by_cases hj:j < k
 ·rw [List.getElem?_append_left (by omega)] at hd
  exact h1 j c d (by rw [List.getElem?_take,if_pos hj];exact hc) hd
 ·rw [List.getElem?_append_right (by omega),hl] at hd
  refine h2 (j - k) c d ?_ hd
  rw [List.getElem?_drop]
  have:k+(j - k)=j:=by omega
  rw [this];exact hc
theorem bj{α0 α1:Type}{f0:α0→List D}{f1:α1→List D}{k0 k1:Nat}{a0 a1:Field}(ht:P.underlying t=some (.struct #[a0,a1]))(ho:a0.offset=0∧a1.offset=k0)(hc:P.cellsOf a0.type=k0∧P.cellsOf a1.type=k1∧P.cellsOf t=k0+k1)
 (h0:Rd P w a0.type k0 f0) (h1:Rd P w a1.type k1 f1):Rd P w t (k0+k1) (fun y:α0×α1=>f0 y.1++f1 y.2):=fun enc fuel cs x hx=>by
 obtain⟨xs,n,_,_,hl,hxl,hget⟩:=DataW.trod_struct ht hx
 have hs:xs.length=2:=hxl
 have e0:=hget 0 a0 rfl
 have e1:=hget 1 a1 rfl
 rw [List.getElem?_eq_getElem (by omega)] at e0 e1
 rw [ho.1,hc.1] at e0
 rw [ho.2,hc.2.1] at e1
 obtain⟨y0,p1,p2,p3⟩:=h0 enc n _ _ e0
 obtain⟨y1,q1,q2,q3⟩:=h1 enc n _ _ e1
 rw [List.drop_zero] at p3
 rw [List.take_of_length_le (by simp;omega)] at q3
 exact⟨(y0,y1),by rw [hl,hc.2.2],by simp [p2,q2],OB p2 p3 q3⟩
theorem IG{α0 α1 α2:Type}{f0:α0→List D}{f1:α1→List D}{f2:α2→List D}{k0 k1 k2:Nat}{a0 a1 a2:Field}(ht:P.underlying t=some (.struct #[a0,a1,a2]))(ho:a0.offset=0∧a1.offset=k0∧a2.offset=k0+k1)
 (hc:P.cellsOf a0.type=k0∧P.cellsOf a1.type=k1∧P.cellsOf a2.type=k2∧P.cellsOf t=k0+k1+k2) (h0:Rd P w a0.type k0 f0) (h1:Rd P w a1.type k1 f1) (h2:Rd P w a2.type k2 f2) :
 Rd P w t (k0+k1+k2) (fun y:α0×α1×α2=>f0 y.1++(f1 y.2.1++f2 y.2.2)):=fun enc fuel cs x hx=>by
 obtain⟨xs,n,_,_,hl,hxl,hget⟩:=DataW.trod_struct ht hx
 have hs:xs.length=3:=hxl
 have e0:=hget 0 a0 rfl
 have e1:=hget 1 a1 rfl
 have e2:=hget 2 a2 rfl
 rw [List.getElem?_eq_getElem (by omega)] at e0 e1 e2
 rw [ho.1,hc.1] at e0
 rw [ho.2.1,hc.2.1] at e1
 rw [ho.2.2,hc.2.2.1] at e2
 obtain⟨y0,p1,p2,p3⟩:=h0 enc n _ _ e0
 obtain⟨y1,q1,q2,q3⟩:=h1 enc n _ _ e1
 obtain⟨y2,r1,r2,r3⟩:=h2 enc n _ _ e2
 rw [List.drop_zero] at p3
 rw [List.take_of_length_le (by simp;omega)] at r3
 refine⟨(y0,y1,y2),by rw [hl,hc.2.2.2],by simp [p2,q2,r2];omega,OB p2 p3 (OB q2 q3 ?_)⟩
 rw [List.drop_drop];exact r3
end
def PB(w:World):View:=⟨below w,id,fun _=>0,fun _=>True,0,w⟩
section
variable {P:Program}{w:World}{t:TypeId}{k:Nat}{H:Type}{enc:TypeId×Value→H}
theorem aJ{fs:Array Field}{base:Nat}{v:Value}(ht:P.underlying t=some (.struct fs))(h:Value.okWide P w .any base t v):∃cs,v=.agg cs:=by
 unfold Value.okWide at h
 rw [ht] at h
 obtain⟨cs,h,_⟩:=h
 exact⟨cs,h⟩
theorem dT{α:Type}{f:α→List D}(h:Rd P w t k f){v:Value}{d:DataW H}{ps:List MemPlace}(hv:∃cs,v=.agg cs)(hd:DataW.Trod enc P w 0 (fun _=>true) true t v d ps):∃y,A2 (PB w) (.a ((f y).map .d)) v:=by
 obtain⟨cs,rfl⟩:=hv
 obtain⟨n,hn⟩:=hd
 obtain⟨y,h1,h2,h3⟩:=h enc n _ _ hn
 refine⟨y,cs,rfl,by simp only [List.length_map,h2,←h1];exact(Array.length_toList).symm,fun j c v hj hv=>?_⟩
 rw [List.getElem?_map,Option.map_eq_some_iff] at hj
 obtain⟨d,hd,rfl⟩:=hj
 exact .d (h3 j v d (by simpa [Value.cells] using hv) hd)
theorem cq{v:Value}{d:DataW H}{ps:List MemPlace}{base:Nat}(ht:P.underlying t=some .string)(hv:Value.okWide P w .any base t v)(hd:DataW.Trod enc P w 0 (fun _=>true) true t v d ps):∃s:List UInt8,A2 (PB w) (eT s) v:=by
 obtain⟨m,hm⟩:=hd
 obtain⟨s,hc,_,_⟩:=DataW.trod_string ht hm
 refine⟨s.data.toList,?_⟩
 have:v=.string s:=by
  unfold Value.okWide Cell.okWide Cell.ok at hv
  simp only [ht] at hv
  split at hv<;>simp_all [Value.cells]
 subst this
 have h0:(⟨s.data.toList.toArray⟩:ByteArray)=s:=by cases s;simp
 have h1:eT s.data.toList=.o (.d (.v (.string ⟨s.data.toList.toArray⟩))):=rfl
 rw [h1,h0]
 exact .d (.v rfl)
structure Gf (W W':World):Prop where
 os:W'.os=W.os
 output:W'.output=W.output
 size:W.heap.size≤W'.heap.size
 old:∀b,b < W.heap.size→W'.heap[b]? = W.heap[b]?
theorem Gf.sameAt{W W':World}(h:Gf W W'){p:MemPlace}(hp:p.block < W.heap.size):W.sameAt W' p:=by
 cases p with
 | cell b off=>show W'.cell? _=W.cell? _;simp only [World.cell?,h.old b hp]
 | map b=>exact h.old b hp
theorem Gf.kept{W W':World}(h:Gf W W')(may:MemPlace→Prop):W.keptBut W' may:=by
 refine⟨h.os,h.output,fun i hi=>?_⟩
 rw [h.old i hi]
 split
 ·rename_i h1 h2
  rw [h1] at h2
  injection h2 with h2;injection h2 with h3 h4 h5
  exact⟨h4.symm,h5.symm,by rw [h3],fun j _=>by rw [h3]⟩
 ·rename_i h1 h2
  rw [h1] at h2
  injection h2 with h2;injection h2 with h3 h4
  exact .inr ⟨h3.symm,h4.symm⟩
 ·rfl
theorem JL{W W':World}(hl:laidOutB P=true)(h:Gf W W'){sp:Nat→Bool}:∀ {ts:List TypeId} {vs:List Value} {ds:List (DataW H)} {ps:List MemPlace},(ts.all fun t=>P.readableRec t && decide (t < P.types.size))=true→
 DataW.TrodAll enc P W 0 (fun _=>true) true ts vs ds ps→(∀p∈ps,p.block < W.heap.size)→(∀p∈ps,sp p.block=true)→DataW.TrodAll enc P W' 0 sp true ts vs ds ps
 | [],vs,ds,ps,_,h1,_,_=>by obtain⟨rfl,rfl,rfl⟩:=trodAll_nil h1;exact rfl
 | t::ts,vs,ds,ps,ha,h1,h2,h3=>by
  obtain⟨v,vs',d,ds',p,q,rfl,rfl,rfl,h4,h5⟩:=trodAll_cons h1
  simp only [List.all_cons,Bool.and_eq_true,decide_eq_true_eq] at ha
  refine⟨p,q,Go.WideElems.Trod_stays hl ha.1.1 ha.1.2 h4 (fun x hx=>h.sameAt (h2 x (List.mem_append_left _ hx))) (fun x hx=>h3 x (List.mem_append_left _ hx)),JL hl h (by simpa using ha.2) h5 (fun x hx=>h2 x (List.mem_append_right _ hx)) (fun x hx=>h3 x (List.mem_append_right _ hx)),rfl⟩
theorem bS{f:Func}{s:ChangeSpec}{again:Bool}{W W':World}{args:Array Value}{ds gs:List (DataW H)}{before:List MemPlace}{tb:TypeId}(hl:laidOutB P=true)(hts:(f.params.toList.all fun t=>P.readableRec t && decide (t < P.types.size))=true)
 (hW:DataW.Whole enc P f.params.toList s.vars false W args.toList ds gs before) (hs:Gf W W') (hv:s.vars=[]) (hr:f.resultTypes = #[tb]) (htb:P.underlying tb=some .bool) (hone:(Value.bool true).resultList 1=[.bool true])
 (hfn:s.fn H (ds++gs) = { results:=[.lit (.bool true)],args:=ds }):s.post enc P f false true false again W args (.bool true) W':=by
 have hlt:=hW.lt
 have hW':=hW
 obtain⟨p,q,hA,hV,he,hz,hn⟩:=hW
 rw [hv] at hV
 obtain⟨rfl,rfl⟩:=trodVars_none hV
 rw [List.append_nil] at he
 subst he
 have hres:∀(b:Nat) (sp:Nat→Bool) (hd:Bool),DataW.TrodAll enc P W' b sp hd f.resultTypes.toList ((Value.bool true).resultList f.resultTypes.size) (s.fn H (ds++[])).results []:=fun b sp hd=>by
  rw [hr,hfn]
  show DataW.TrodAll enc P W' b sp hd [tb] ((Value.bool true).resultList 1) [.lit (.bool true)] []
  rw [hone]
  exact trodAll_mk1 (RowKit.shut_bool htb true)
 have hargs:∀sp:Nat→Bool,(∀x∈before,sp x.block=true)→DataW.TrodAll enc P W' 0 sp true f.params.toList args.toList (s.fn H (ds++[])).args before:=fun sp hsp=>by
  rw [hfn]
  exact JL hl hs hts hA hlt hsp
 have hvars:∀sp:Nat→Bool,DataW.TrodVars enc P W' sp s.vars (s.fn H (ds++[])).vars []:=fun sp=>by
  rw [hv,hfn];exact rfl
 refine⟨ds,[],before,[],before,[],hW',hres _ _ _,hargs _ fun x hx=>by simpa using hlt x hx,hvars _,hs.kept _,fun _=>?_⟩
 refine⟨ok_one hr hone (okWide_bool_mk htb true),_,_,([]++before)++[],⟨[]++before,[],trodAll_append (hargs _ (fun _ _=>rfl)) (hres _ _ _),hvars _,rfl,?_,fun ha=>by cases ha⟩,fun x hx _=>by simpa using hx⟩
 intro b off hp
 have hp':MemPlace.cell b off∈before:=by simpa using hp
 have h1:=hz b off hp'
 have h2:b < W.heap.size:=hlt _ hp'
 simpa [World.frozen?,hs.old b h2] using h1
end
end Go.Am
namespace Go.Am
open Go
def DN(s:Int)(n:Nat):Bool:=decide (FK .i64 (s.fdiv (2 ^ min n 64)) 1=1)
def hasB(s n:Int):Bool:=decide (0≤n) && DN s n.toNat
def Bb(n:Int):Bool:=decide (0≤n∧n≤63)
abbrev iD(n:Int):D:=.v (.int .i64 n)
abbrev bD(b:Bool):D:=.v (.bool b)
abbrev tD(s:List UInt8):D:=.v (.string ⟨s.toArray⟩)
abbrev Bm(n:Int):List D:=[iD n]
abbrev Gh(b:Bool):List D:=[bD b]
abbrev BD(s:List UInt8):List D:=[tD s]
abbrev Eg(l:List Int):D:=.l (l.map Bm)
abbrev GZ(l:List Bool):D:=.l (l.map Gh)
abbrev Ba(l:List (List UInt8)):D:=.l (l.map BD)
abbrev AI(n:Int):List C:=[.d (iD n)]
abbrev BE(b:Bool):List C:=[.d (bD b)]
abbrev Bg(s:List UInt8):List C:=[.d (tD s)]
abbrev Dy(l:List Int):List D:=[Eg l]
abbrev Dx(l:List (List Int)):D:=.l (l.map Dy)
abbrev Eo(l:List Int):List C:=[.d (Eg l)]
abbrev Ix(l:List (List Int)):List D:=[Dx l]
abbrev Yw(l:List (List (List Int))):D:=.l (l.map Ix)
structure Fk where
 f:Int
 l:Int
 t:Int
 deriving DecidableEq
structure Sys where
 al:Int
 st:Int
 es:List Fk
structure Bn where
 al:Int
 nx:List (List Int)
 ac:List Bool
abbrev CZ(e:Fk):List D:=[iD e.f,iD e.l,iD e.t]
abbrev B2(e:Fk):List C:=[.d (iD e.f),.d (iD e.l),.d (iD e.t)]
abbrev Ng(e:Fk):E:=.a [.d (iD e.f),.d (iD e.l),.d (iD e.t)]
abbrev Hc(l:List Fk):D:=.l (l.map CZ)
abbrev Ok(s:Sys):List D:=[iD s.al,iD s.st,Hc s.es]
abbrev Nh(s:Sys):E:=.a [.d (iD s.al),.d (iD s.st),.d (Hc s.es)]
abbrev XF(l:List Sys):D:=.l (l.map Ok)
abbrev Ed(a:Bn):List D:=[iD a.al,Dx a.nx,GZ a.ac]
abbrev Da(a:Bn):E:=.a [.d (iD a.al),.d (Dx a.nx),.d (GZ a.ac)]
abbrev Rq(l:List Bn):D:=.l (l.map Ed)
abbrev Ag(l:List Int):E:=.o (.d (Eg l))
abbrev Gk(l:List Bool):E:=.o (.d (GZ l))
abbrev BS(l:List (List Int)):E:=.o (.d (Dx l))
abbrev Bl(l:List (List UInt8)):E:=.o (.d (Ba l))
abbrev Hb(l:List Fk):E:=.o (.d (Hc l))
def Ay(s:Int)(k:Nat):List Int:=((List.range k).filter (DN s)).map Int.ofNat
theorem A0(s:Int)(k:Nat):(Ay s k).length≤k:=by
 unfold Ay;rw [List.length_map];exact Nat.le_trans (List.length_filter_le _ _) (by simp)
theorem B4(s:Int)(k:Nat):Ay s (k+1)=Ay s k++if DN s k then [(k:Int)] else []:=by
 unfold Ay
 rw [List.range_succ,List.filter_append,List.map_append]
 cases h:DN s k<;>simp [h]
abbrev Ac(s:Int):List Int:=Ay s 6
def Db(al st:Int)(e:Fk):Bool:=decide (0≤e.f∧e.f < st∧0≤e.t∧e.t < st∧0≤e.l∧e.l < 6) && DN al e.l.toNat
def Io(e f:Fk):Bool:=if e.f≠f.f then decide (e.f < f.f) else if e.l≠f.l then decide (e.l < f.l) else decide (e.t < f.t)
def Hw(s:Sys)(i:Nat):Bool:=match s.es[i]? with
 | none=>true
 | some e=>Db s.al s.st e && match i with
  | 0=>true
  | j+1=>match s.es[j]? with
   | none=>true
   | some p=>Io p e
def BC(s:Sys):Bool:=Bb s.al && decide (1≤s.st∧s.st≤16) && (List.range s.es.length).all (Hw s)
theorem EM{α:Type}{l:List α}{f:α→Bool}{k:Nat}{x:α}(h:l[k]? = some x)(h1:(l.take k).all f=true)(h2:f x=true):(l.take (k+1)).all f=true:=by
 rw [List.take_add_one,h];simp [List.all_append,h1,h2]
theorem Gg{α:Type}{l:List α}{f:α→Bool}{k:Nat}{x:α}(h:l[k]? = some x)(h2:f x=false):l.all f=false:=by
 rw [List.all_eq_false];exact⟨x,List.mem_of_getElem? h,by simp [h2]⟩
theorem EL{α:Type}{l:List α}{f:α→Bool}{k:Nat}(h:(l.take k).all f=true)(hk:l.length≤k):l.all f=true:=by
 rwa [List.take_of_length_le hk] at h
theorem get_map{α β:Type}{l:List α}{g:α→β}{k:Nat}{x:α}(h:l[k]? = some x):(l.map g)[((k:Nat):Int).toNat]? = some (g x):=by simp [h]
theorem get_some{α:Type}{l:List α}{k:Nat}(h:k < l.length):∃x,l[k]? = some x:=⟨_,List.getElem?_eq_getElem h⟩
def Pa(n:Int)(q:Int):Bool:=decide (0≤q∧q < n)
def Ew(ls n:Int)(row:List Int):Bool:=decide ((row.length:Int)=ls) && row.all (Pa n)
def AK(a:Bn):Bool:=Bb a.al && decide (1≤a.nx.length∧a.nx.length≤12) && decide (a.ac.length=a.nx.length) && a.nx.all (Ew (Ac a.al).length a.nx.length)
end Go.Am
