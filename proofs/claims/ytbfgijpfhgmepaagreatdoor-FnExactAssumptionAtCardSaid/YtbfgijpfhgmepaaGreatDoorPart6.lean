/-
  The steps of a walk, few and short: what an operation gives is reckoned.
-/
import Derived.Test.YtbfgijpfhgmepaaGreatDoorPart5
import Derived.ProofKit
import Derived.OpenShut
import Derived.WideKeyArgs
import Derived.Deep.DeepHandedRow
import Derived.Lib.LaidTab
set_option linter.constructorNameAsVariable false
set_option linter.unusedSectionVars false
set_option linter.unusedSimpArgs false
set_option linter.unusedVariables false
namespace Go.Am
open Go
class RV (P:Program) (t:TypeId):Prop where
 out:P.underlying t=some .bool
theorem oA{p:Prop}[Decidable p]:(decide p=true)=p:=decide_eq_true_eq
theorem oB{p:Prop}[Decidable p]:decide p=false↔¬p:=decide_eq_false_iff_not
theorem oC{α β:Type}{l:List α}{f:α→β}:(l.map f).length=l.length:=List.length_map f
theorem oD{α:Type}{l m:List α}:(l++m).length=l.length+m.length:=List.length_append
theorem oE{α:Type}{n:Nat}{x:α}:(List.replicate n x).length=n:=List.length_replicate
theorem oF{α:Type}{x:α}{l:List α}:(x::l).length=l.length+1:=List.length_cons
theorem oG{α:Type}:([]:List α).length=0:=List.length_nil
theorem oZ:(∀(p:Prop) [Decidable p],(decide p=true)=p)∧(∀(p:Prop) [Decidable p],decide p=false↔¬p)∧(∀(α β:Type) (l:List α) (f:α→β),(l.map f).length=l.length)∧(∀(α:Type) (l m:List α),(l++m).length=l.length+m.length)∧(∀(α:Type) (n:Nat) (x:α),(List.replicate n x).length=n)∧(∀(α:Type) (x:α) (l:List α),(x::l).length=l.length+1)∧∀(α:Type),([]:List α).length=0:=
 ⟨fun _ _=>oA,fun _ _=>oB,fun _ _ _ _=>oC,fun _ _ _=>oD,fun _ _ _=>oE,fun _ _ _=>oF,fun _=>oG⟩
structure TI where
 ld:Option (Bool×Nat):=none
 ik:Option IntKind:=none
 st:Bool:=false
 sl:Option (Nat×Nat×Nat):=none
 ar:Option (Nat×Nat):=none
 fl:List (Option (Nat×Bool×Nat)):=[]
 pt:Bool:=false
 bo:Bool:=false
 ze:Option (List Value):=none
def TF(P:Program)(t:Nat):Nat→List (Option (Nat×Bool×Nat))→Prop
 | _,[]=>True
 | k,none::r=>TF P t (k+1) r
 | k,some x::r=>(ZH P t k=some x.1∧ZI P t k=some x)∧TF P t (k+1) r
structure EU (P:Program) (t:Nat) (i:TI):Prop where
 ld:i.ld=none∨iJ P t=i.ld
 ik:i.ik=none∨P.underlying t=i.ik.map .int
 st:i.st=false∨P.underlying t=some .string
 sl:i.sl=none∨gR P t=i.sl
 ar:i.ar=none∨jV P t=i.ar
 fl:TF P t 0 i.fl
 pt:i.pt=false∨∃e,P.underlying t=some (.pointer e)
 bo:i.bo=false∨P.underlying t=some .bool
 ze:i.ze=none∨aV P t=i.ze
def XF(P:Program):List (Nat×TI)→Prop
 | []=>True
 | (t,i)::r=>EU P t i∧XF P r
def mA:Value→Value→Bool
 | .int k n,.int k' n'=>decide (k=k') && decide (n=n')
 | .bool a,.bool b=>decide (a=b)
 | .string ⟨⟨a⟩⟩,.string ⟨⟨b⟩⟩=>a.isEmpty && b.isEmpty
 | .slice none 0 0,.slice none 0 0=>true
 | .pointer none,.pointer none=>true
 | .map none,.map none=>true
 | .nilFunc,.nilFunc=>true
 | .nilIface,.nilIface=>true
 | _,_=>false
theorem jE:∀ {a b:Value},mA a b=true→a=b:=by
 intro a b h
 unfold mA at h
 split at h<;>simp_all
def lO:List Value→List Value→Bool
 | [],[]=>true
 | a::l,b::m=>mA a b && lO l m
 | _,_=>false
theorem ew:∀ {l m:List Value},lO l m=true→l=m
 | [],[],_=>rfl
 | a::l,b::m,h=>by
  unfold lO at h
  rw [Bool.and_eq_true] at h
  rw [jE h.1,ew h.2]
 | [],_::_,h=>by cases h
 | _::_,[],h=>by cases h
def kk(P:Program)(t:Nat):Nat→List (Option (Nat×Bool×Nat))→Bool
 | _,[]=>true
 | k,none::r=>kk P t (k+1) r
 | k,some x::r=>decide (ZH P t k=some x.1) && decide (ZI P t k=some x) && kk P t (k+1) r
theorem Wz{P:Program}{t:Nat}:∀ {l:List (Option (Nat×Bool×Nat))} {k:Nat},kk P t k l=true→TF P t k l
 | [],_,_=>trivial
 | none::r,k,h=>Wz (l:=r) (k:=k+1) h
 | some x::r,k,h=>by
  unfold kk at h
  simp only [Bool.and_eq_true,decide_eq_true_eq] at h
  exact⟨h.1,Wz h.2⟩
def mU(d:Option TypeDesc)(i:TI):Bool:=match d with
 | some (.int k)=>(match i.ik with|none=>true|some k'=>decide (k=k')) && !i.st && !i.pt && !i.bo
 | some .string=>i.ik.isNone && !i.pt && !i.bo
 | some (.pointer _)=>i.ik.isNone && !i.st && !i.bo
 | some .bool=>i.ik.isNone && !i.st && !i.pt
 | _=>i.ik.isNone && !i.st && !i.pt && !i.bo
def mq(P:Program)(t:Nat)(i:TI):Bool:=
 (i.ld.isNone || decide (iJ P t=i.ld)) && (mU (P.underlying t) i && ((i.sl.isNone || decide (gR P t=i.sl)) && ((i.ar.isNone || decide (jV P t=i.ar)) && (kk P t 0 i.fl && match i.ze with
  | none=>true
  | some l=>match aV P t with
   | some l'=>lO l' l
   | none=>false))))
theorem or_none{α:Type}[DecidableEq α]{a b:Option α}(h:(b.isNone || decide (a=b))=true):b=none∨a=b:=by
 rw [Bool.or_eq_true] at h
 rcases h with h|h
 ·left;cases b<;>simp_all
 ·right;exact of_decide_eq_true h
theorem jy{P:Program}{t:Nat}{i:TI}(h:mq P t i=true):EU P t i:=by
 unfold mq at h
 simp only [Bool.and_eq_true] at h
 obtain⟨h1,h2,h3,h4,h5,h6⟩:=h
 have hd:(i.ik=none∨P.underlying t=i.ik.map .int)∧(i.st=false∨P.underlying t=some .string)∧(i.pt=false∨∃e,P.underlying t=some (.pointer e))∧(i.bo=false∨P.underlying t=some .bool):=by
  unfold mU at h2
  split at h2
  ·rename_i k hk
   cases hik:i.ik<;>simp_all
  all_goals simp_all
 refine⟨or_none h1,hd.1,hd.2.1,or_none h3,or_none h4,Wz h5,hd.2.2.1,hd.2.2.2,?_⟩
 split at h6
 ·rename_i hz;exact .inl hz
 ·rename_i l hz
  split at h6
  ·rename_i l' hz'
   right;rw [hz',hz,ew h6]
  ·cases h6
def ia(P:Program):List (Nat×TI)→Bool
 | []=>true
 | (t,i)::r=>mq P t i && ia P r
theorem XM{P:Program}:∀ {l:List (Nat×TI)},ia P l=true→XF P l
 | [],_=>trivial
 | (t,i)::r,h=>by
  unfold ia at h
  rw [Bool.and_eq_true] at h
  exact⟨jy h.1,XM h.2⟩
class C5 (P:Program) where
 T:List (Nat×TI)
 ok:XF P T
def JS:List (Nat×TI)→Nat→TI
 | [],_=>{}
 | (k,x)::r,t=>bif Nat.beq k t then x else JS r t
def nth{α:Type}:List α→Nat→Option α
 | [],_=>none
 | x::_,0=>some x
 | _::r,n+1=>nth r n
theorem Od{α:Type}:∀(l:List α) (i:Nat),nth l i=l[i]?
 | [],_=>by simp [nth]
 | o::_,0=>by simp [nth]
 | _::r,n+1=>by simp [nth,Od r n]
theorem DU{P:Program}(t:Nat):∀ {T:List (Nat×TI)},XF P T→EU P t (JS T t)
 | [],_=>⟨.inl rfl,.inl rfl,.inl rfl,.inl rfl,.inl rfl,trivial,.inl rfl,.inl rfl,.inl rfl⟩
 | (k,x)::r,h=>by
  unfold JS
  cases hb:Nat.beq k t
  ·exact DU t h.2
  ·have:=Nat.eq_of_beq_eq_true hb
   subst this
   exact h.1
section
variable {P:Program}{t:Nat}{i:TI}
theorem EU.Nf(h:EU P t i){ag:Bool}{n:Nat}(e:i.ld=some (ag,n)):Dt P t ag n:=⟨by rcases h.ld with h|h<;>simp_all⟩
theorem EU.bU(h:EU P t i){k:IntKind}(e:i.ik=some k):J5 P t k:=⟨by rcases h.ik with h|h<;>simp_all⟩
theorem EU.bW(h:EU P t i)(e:i.st=true):DQ P t:=⟨by rcases h.st with h|h<;>simp_all⟩
theorem EU.Um(h:EU P t i){e k b:Nat}(he:i.sl=some (e,k,b)):CK P t e k b:=⟨by rcases h.sl with h|h<;>simp_all⟩
theorem EU.km(h:EU P t i){n k:Nat}(he:i.ar=some (n,k)):QA P t n k:=⟨by rcases h.ar with h|h<;>simp_all⟩
theorem EU.bV(h:EU P t i)(e:i.pt=true):VQ P t:=⟨h.pt.resolve_left (by simp [e])⟩
theorem EU.fb(h:EU P t i)(e:i.bo=true):RV P t:=⟨by rcases h.bo with h|h<;>simp_all⟩
theorem EU.bX(h:EU P t i){z:List Value}(e:i.ze=some z):BM P t z:=⟨by rcases h.ze with h|h<;>simp_all⟩
theorem TF.get:∀ {l:List (Option (Nat×Bool×Nat))} {k j:Nat} {x:Nat×Bool×Nat},TF P t k l→nth l j=some (some x)→ZH P t (k+j)=some x.1∧ZI P t (k+j)=some x
 | [],_,_,_,_,h=>by simp [nth] at h
 | none::r,k,0,x,_,h=>by simp [nth] at h
 | some y::r,k,0,x,hf,h=>by simp [nth] at h;subst h;exact hf.1
 | none::r,k,j+1,x,hf,h=>by
  have:=TF.get (l:=r) (k:=k+1) (j:=j) (x:=x) hf h
  rwa [show k+(j+1)=k+1+j by omega]
 | some y::r,k,j+1,x,hf,h=>by
  have:=TF.get (l:=r) (k:=k+1) (j:=j) (x:=x) hf.2 h
  rwa [show k+(j+1)=k+1+j by omega]
theorem EU.iC(h:EU P t i){j off n:Nat}{ag:Bool}(e:nth i.fl j=some (some (off,ag,n))):RX P t j off:=⟨by have:=(h.fl.get e).1;rwa [Nat.zero_add] at this⟩
theorem EU.fc(h:EU P t i){j off n:Nat}{ag:Bool}(e:nth i.fl j=some (some (off,ag,n))):NW P t j off ag n:=⟨by have:=(h.fl.get e).2;rwa [Nat.zero_add] at this⟩
end
def Gp(P:Program)(TB:Bt)(Γ:Ctx)(ops:Array Oper)(o:Oper)(fl:Fl)(i n:Nat)(K:Env→Ab→Nat→Prop)(L:List (Nat×E))(σ:Ab)(nx:Nat):Prop:=
 Bw ops o (look L)=some true→Bc P TB Γ ops o fl i n K L σ nx
def xE:Bool×List C→Option E
 | (false,[c])=>some (.o c)
 | (true,cs)=>some (.a cs)
 | _=>none
def lZ(f:Env):Op→Option E
 | .move x=>ev f x
 | .pick c x y=>match ev f c with
  | some (.o (.d (.v (.bool true))))=>ev f x
  | some (.o (.d (.v (.bool false))))=>ev f y
  | _=>none
 | .extract x k=>match ev f x with
  | some (.t xs)=>(xs[k]?).bind xE
  | _=>none
 | .nilCheck x=>match ev f x with
  | some (.o (.d (.p cs)))=>some (.o (.ip cs))
  | some (.o (.ptr id k i j))=>some (.o (.ptr id k i j))
  | some (.o (.fn gg cs))=>some (.o (.fn gg cs))
  | _=>none
 | _=>none
def jH:IntKind→IntKind→Bool
 | .i64,.i64|.u8,.u8|.u64,.u64|.i32,.i32|.u16,.u16|.u32,.u32=>true
 | _,_=>false
theorem OV{a b:IntKind}(h:jH a b=true):a=b:=by cases a<;>cases b<;>first|rfl|cases h
def kh(o:BinOp)(m n:Int):Option Bool:=match o with
 | .lss=>some (decide (m < n))
 | .leq=>some (decide (m≤n))
 | .gtr=>some (decide (m > n))
 | .geq=>some (decide (m≥n))
 | .eql=>some (decide (m=n))
 | .neq=>some (decide (m≠n))
 | _=>none
def kg(o:BinOp)(a b:List UInt8):Option Bool:=match o with
 | .eql=>some (decide (a=b))
 | .neq=>some (decide (a≠b))
 | _=>none
def iq(o:BinOp):E→E→Option Bool
 | .o (.d (.v (.int k m))),.o (.d (.v (.int k' n)))=>match jH k k' with
  | true=>kh o m n
  | false=>none
 | .o (.d (.v (.string ⟨⟨a⟩⟩))),.o (.d (.v (.string ⟨⟨b⟩⟩)))=>kg o a b
 | _,_=>none
def aq:IntKind→Int→Option Prop
 | .i64,m=>some (-9223372036854775808≤m∧m≤9223372036854775807)
 | .u64,m=>some (0≤m∧m≤18446744073709551615)
 | .u8,m=>some (0≤m∧m≤255)
 | .i32,m=>some (-2147483648≤m∧m≤2147483647)
 | _,_=>none
def mH(o:BinOp)(k:IntKind)(m n:Int):Option (Prop×E):=match o with
 | .add=>(aq k (m+n)).map fun q=>(q,eI k (m+n))
 | .sub=>(aq k (m - n)).map fun q=>(q,eI k (m - n))
 | .mul=>(aq k (m*n)).map fun q=>(q,eI k (m*n))
 | .rem=>some (0≤m∧0 < n,eI k (m % n))
 | .and=>some (True,eI k (Hc k m n))
 | .or=>some (True,eI k (GZ k m n))
 | _=>none
def lT(o:BinOp):E→E→Option (Prop×E)
 | .o (.d (.v (.int k m))),.o (.d (.v (.int k' n)))=>match o with
  | .shr=>some (0≤n,eI k (m.fdiv (2 ^ (min n.toNat k.bits))))
  | .quo=>match jH k .i64,jH k' .i64 with
   | true,true=>some ((0≤m∧m≤9223372036854775807)∧0 < n,eI .i64 (m / n))
   | _,_=>none
  | o=>match jH k k' with
   | true=>mH o k m n
   | false=>none
 | .o (.d (.v (.string ⟨⟨a⟩⟩))),.o (.d (.v (.string ⟨⟨b⟩⟩)))=>match o with
  | .add=>some (a.length+b.length≤9223372036854775807,eT (a++b))
  | _=>none
 | _,_=>none
def iA(off:Nat):E→Option E
 | .o (.d (.p cs))=>some (.o (.ip (cs.drop off)))
 | .o (.ptr id k i j)=>some (.o (.ptr id k i (j+off)))
 | _=>none
def l7(ag:Bool)(n:Nat):E→Option E
 | .o (.d (.p cs))=>match ag,cs with
  | false,c::_=>some (.o (.d c))
  | true,cs=>match Nat.ble n cs.length with
   | true=>some (.a ((cs.take n).map .d))
   | false=>none
  | _,_=>none
 | _=>none
def iK(ag:Bool)(n j:Nat)(r:List C):Option E:=match ag with
 | false=>(r[j]?).map .o
 | true=>match Nat.ble (j+n) r.length with
  | true=>some (.a ((r.drop j).take n))
  | false=>none
def l3(ag:Bool)(off n:Nat)(cs:List C):Option E:=match ag with
 | false=>(cs[off]?).map .o
 | true=>match Nat.ble (off+n) cs.length with
  | true=>some (.a ((cs.drop off).take n))
  | false=>none
def l6(k:Nat)(n:Int):E→Option E
 | .o (.d (.p cs))=>some (.o (.ip (cs.drop (n.toNat*k))))
 | .o (.ptr id k' i j)=>some (.o (.ptr id k' i (j+n.toNat*k)))
 | _=>none
def l8(k:Nat):E→Option E
 | .o (.d (.l rows))=>some (eI .i64 rows.length)
 | .o (.arr _ k' _ len)=>match Nat.beq k' k with
  | true=>some (eI .i64 len)
  | false=>none
 | _=>none
def tr:Option E→Option (Prop×E)
 | some e=>some (True,e)
 | none=>none
def iT:Bool→E→E→Option (Prop×E)
 | true,.o (.d (.p _)),.o (.d (.v (.pointer none)))=>some (True,eB false)
 | true,.o (.d (.v (.pointer none))),.o (.d (.v (.pointer none)))=>some (True,eB true)
 | _,_,_=>none
def j9(pt:Bool)(o:BinOp)(a b:E):Option (Prop×E):=match o with
 | .eql=>iT pt a b
 | o=>lT o a b
def iF(i:TI):E→E→Option (Prop×E)
 | .o (.arr id k off len),.o (.d (.v (.int _ m)))=>match i.sl with
  | some (_,k',_)=>match Nat.beq k k' with
   | true=>some (0≤m∧m < len,.o (.ptr id k (off+m.toNat) 0))
   | false=>none
  | none=>none
 | a, .o (.d (.v (.int _ m)))=>match i.ar with
  | some (len,k)=>match l6 k m a with
   | some e=>some (0≤m∧m < len,e)
   | none=>none
  | none=>none
 | _,_=>none
def iM(i:TI):E→Option E
 | .o (.d (.v (.string ⟨⟨s⟩⟩)))=>match i.st with
  | true=>some (eI .i64 s.length)
  | false=>none
 | e=>match i.sl with
  | some (_,k,_)=>l8 k e
  | none=>none
def ir(k k':IntKind):E→Option (Prop×E)
 | .o (.d (.v (.int k2 m)))=>match jH k2 k,aq k' m with
  | true,some q=>some (q,eI k' m)
  | _,_=>none
 | _=>none
def dB(T:List (Nat×TI))(md:Bool)(f:Env):Op→Option (Prop×E)
 | .assign x=>match md,notNil x with
  | true,false=>none
  | _,_=>tr (ev f x)
 | .binOp o t x y _=>match ev f x,ev f y with
  | some a,some b=>j9 (JS T t).pt o a b
  | _,_=>none
 | .fieldAddr s x k=>match nth (JS T s).fl k,ev f x with
  | some (some (off,_,_)),some a=>tr (iA off a)
  | _,_=>none
 | .field t x k=>match nth (JS T t).fl k,ev f x with
  | some (some (off,ag,n)),some (.a cs)=>tr (l3 ag off n cs)
  | _,_=>none
 | .load t x=>match (JS T t).ld,ev f x with
  | some (ag,n),some a=>tr (l7 ag n a)
  | _,_=>none
 | .indexAddr t x y=>match ev f x,ev f y with
  | some a,some b=>iF (JS T t) a b
  | _,_=>none
 | .call ⟨.builtin .len,⟨[x]⟩,⟨[t]⟩⟩=>match ev f x with
  | some a=>tr (iM (JS T t) a)
  | none=>none
 | .convert s t x=>match (JS T s).ik,(JS T t).ik,ev f x with
  | some k,some k',some a=>ir k k' a
  | _,_,_=>none
 | .makeFunc (.func gg) ⟨[]⟩ caps=>match JP f caps.toList with
  | some es=>match ep es with
   | some cs=>some (True,.o (.fn gg cs))
   | none=>none
  | none=>none
 | op=>tr (lZ f op)
def mI:BinOp→E→E→Option Bool
 | .eql,.o (.d (.v (.bool a))),.o (.d (.v (.bool b)))=>some (a == b)
 | .neq,.o (.d (.v (.bool a))),.o (.d (.v (.bool b)))=>some (a != b)
 | _,_,_=>none
def UW(T:List (Nat×TI))(f:Env):Op→Option Bool
 | .binOp o t x y _=>match ev f x,ev f y with
  | some a,some b=>match (JS T t).bo with
   | true=>mI o a b
   | false=>iq o a b
  | _,_=>none
 | .unOp .not _ x=>match ev f x with
  | some (.o (.d (.v (.bool b))))=>some (!b)
  | _=>none
 | _=>none
def Np(T:List (Nat×TI))(σ:Ab)(f:Env):Op→Option E
 | .load t x=>match (JS T t).ld,ev f x with
  | some (ag,n),some (.o (.ptr id k i j))=>match look σ id with
   | some (.cells _ k' rows)=>match Nat.beq k k',nth rows i with
    | true,some r=>iK ag n j r
    | _,_=>none
   | _=>none
  | _,_=>none
 | _=>none
def RB(T:List (Nat×TI))(σ:Ab)(f:Env)(t:Nat)(x y:Operand):Option Ab:=
 match (JS T t).ld,ev f x,ev f y with
 | some (_,n),some (.o (.ptr id k i j)),some e=>match look σ id with
  | some (.cells ct k' rows)=>match Nat.beq k k',nth rows i with
   | true,some r=>match Uc e,Nat.beq (eC e).length n,Nat.ble (j+n) k with
    | true,true,true=>some ((id,.cells ct k (rows.set i (Af r j (eC e))))::σ)
    | _,_,_=>none
   | _,_=>none
  | _=>none
 | _,_,_=>none
section
variable {P:Program}{TB:Bt}{Γ:Ctx}{d:Option Tmp}{ty:TypeId}{pos:String}{af:Array Edge}{g:Option (Nat×Bool)}{f:Env}{σ:Ab}{nx:Nat}
theorem YX{t:TypeId}{a b:Bool}(he:P.underlying t=some .bool)(w:World):(Op.equal t (.bool a) (.bool b)).run P w=.ok (a == b) w:=by
 unfold Op.equal Op.maxDepth
 rw [show 10000=9999+1 from rfl,Op.equalIn]
 simp [run_underlying he,go_sem]
theorem kN{t yt:TypeId}{x y:Operand}{a b:Bool}[hp:RV P t](hx:ev f x=some (eB a))(hy:ev f y=some (eB b)):AS P TB Γ ⟨d,.binOp .eql t x y yt,ty,pos,af,g⟩ f σ nx (eB (a == b)):=
 BU hx hy rfl fun w=>by
  have h6:binOp .eql t (.bool a) (.bool b)=(do pure (.bool (←Op.equal t (.bool a) (.bool b)))):=rfl
  have h7:eqGuard .eql t x y (.bool a) (.bool b)=pure ():=rfl
  rw [h6,h7]
  simp [YX hp.out w,go_sem]
theorem kX{t yt:TypeId}{x y:Operand}{a b:Bool}[hp:RV P t](hx:ev f x=some (eB a))(hy:ev f y=some (eB b)):AS P TB Γ ⟨d,.binOp .neq t x y yt,ty,pos,af,g⟩ f σ nx (eB (a != b)):=
 BU hx hy rfl fun w=>by
  have h6:binOp .neq t (.bool a) (.bool b)=(do pure (.bool (!(←Op.equal t (.bool a) (.bool b))))):=rfl
  have h7:eqGuard .neq t x y (.bool a) (.bool b)=pure ():=rfl
  rw [h6,h7]
  simp [YX hp.out w,go_sem,bne]
theorem nw{op:Op}{e:E}(h:lZ f op=some e):AS P TB Γ ⟨d,op,ty,pos,af,g⟩ f σ nx e:=by
 unfold lZ at h
 split at h
 ·exact jj h
 ·split at h
  ·rename_i h1;exact fT h1 h
  ·rename_i h1;exact fS h1 h
  ·cases h
 ·split at h
  ·rename_i h1
   refine ab h1 ?_
   rw [←h]
   congr 1
  ·cases h
 ·split at h
  ·rename_i h1;injection h with h;subst h;exact fQ h1
  ·rename_i h1;injection h with h;subst h;exact jl h1
  ·rename_i h1;injection h with h;subst h;exact fO h1
  ·cases h
 ·cases h
theorem kM{o:BinOp}{t yt:TypeId}{x y:Operand}{ex ey:E}{c:Bool}(hx:ev f x=some ex)(hy:ev f y=some ey)(hc:iq o ex ey=some c) :
 AS P TB Γ ⟨d,.binOp o t x y yt,ty,pos,af,g⟩ f σ nx (eB c):=by
 unfold iq at hc
 split at hc
 ·split at hc
  ·rename_i hk
   have hk:=OV hk
   subst hk
   unfold kh at hc
   split at hc<;>first|(injection hc with hc;subst hc)|cases hc
   ·exact kW hx hy
   ·exact kV hx hy
   ·exact kT hx hy
   ·exact kS hx hy
   ·exact kQ hx hy
   ·exact k8 hx hy
  ·cases hc
 ·unfold kg at hc
  split at hc<;>first|(injection hc with hc;subst hc)|cases hc
  ·exact kO hx hy
  ·exact kY hx hy
 ·cases hc
theorem Tj{k:IntKind}{m:Int}{q:Prop}(h:aq k m=some q)(hq:q):k.wrap m=m:=by
 unfold aq at h
 split at h<;>first|(injection h with h;subst h)|cases h
 ·exact IntWalk.i64_in _ hq
 ·exact IntWalk.u64_in _ hq
 ·exact IntWalk.u8_in _ hq
 ·exact IntWalk.i32_in _ hq
theorem me{o:BinOp}{t yt:TypeId}{x y:Operand}{ex ey e:E}{q:Prop}(hx:ev f x=some ex)(hy:ev f y=some ey)(hc:lT o ex ey=some (q,e))(hq:q) :
 AS P TB Γ ⟨d,.binOp o t x y yt,ty,pos,af,g⟩ f σ nx e:=by
 unfold lT at hc
 split at hc
 ·split at hc
  ·injection hc with hc;injection hc with h1 h2;subst h1;subst h2;exact lh hx hy hq rfl
  ·split at hc
   ·rename_i hk hk'
    have hk:=OV hk
    have hk':=OV hk'
    subst hk;subst hk'
    injection hc with hc;injection hc with h1 h2;subst h1;subst h2;exact jn hx hy hq.1.1 hq.1.2 hq.2
   ·cases hc
  ·split at hc
   ·rename_i hk
    have hk:=OV hk
    subst hk
    unfold mH at hc
    split at hc
    ·obtain⟨q',hr,he⟩:=Option.map_eq_some_iff.1 hc
     injection he with h1 h2;subst h1;subst h2;exact kK hx hy (Tj hr hq)
    ·obtain⟨q',hr,he⟩:=Option.map_eq_some_iff.1 hc
     injection he with h1 h2;subst h1;subst h2;exact lk hx hy (Tj hr hq)
    ·obtain⟨q',hr,he⟩:=Option.map_eq_some_iff.1 hc
     injection he with h1 h2;subst h1;subst h2;exact gP hx hy (Tj hr hq)
    ·injection hc with hc;injection hc with h1 h2;subst h1;subst h2;exact jo hx hy hq.1 hq.2
    ·injection hc with hc;injection hc with h1 h2;subst h2;exact gO hx hy rfl
    ·injection hc with hc;injection hc with h1 h2;subst h2;exact jm hx hy rfl
    ·cases hc
   ·cases hc
 ·split at hc
  ·injection hc with hc;injection hc with h1 h2;subst h1;subst h2;exact kL hx hy hq
  ·cases hc
 ·cases hc
theorem kR{s k off:Nat}{x:Operand}{ex e:E}[hf:RX P s k off](hx:ev f x=some ex)(h:iA off ex=some e):AS P TB Γ ⟨d,.fieldAddr s x k,ty,pos,af,g⟩ f σ nx e:=by
 unfold iA at h
 split at h<;>first|(injection h with h;subst h)|cases h
 ·exact ae hx
 ·exact de hx
theorem mj{t:TypeId}{x:Operand}{ex e:E}{ag:Bool}{n:Nat}[hl:Dt P t ag n](hx:ev f x=some ex)(h:l7 ag n ex=some e):AS P TB Γ ⟨d,.load t x,ty,pos,af,g⟩ f σ nx e:=by
 unfold l7 at h
 split at h
 ·split at h
  ·injection h with h;subst h;exact UU hx
  ·split at h
   ·rename_i hb;injection h with h;subst h;exact aj hx (Nat.le_of_ble_eq_true hb)
   ·cases h
  ·cases h
 ·cases h
theorem YN{t:TypeId}{x:Operand}{id k i j:Nat}{T:TypeId}{rows:List (List C)}{r:List C}{e:E}{ag:Bool}{n:Nat}[hl:Dt P t ag n](hx:ev f x=some (.o (.ptr id k i j)))(ho:look σ id=some (.cells T k rows))(hr:rows[i]? = some r)
 (h:iK ag n j r=some e):AS P TB Γ ⟨d,.load t x,ty,pos,af,g⟩ f σ nx e:=by
 unfold iK at h
 split at h
 ·obtain⟨c,hc,he⟩:=Option.map_eq_some_iff.1 h
  subst he
  exact Te hx ho hr hc
 ·split at h
  ·rename_i hb;injection h with h;subst h;exact dp hx ho hr (Nat.le_of_ble_eq_true hb)
  ·cases h
theorem mg{t:TypeId}{x:Operand}{k off n:Nat}{ag:Bool}{cs:List C}{e:E}[hf:NW P t k off ag n](hx:ev f x=some (.a cs))(h:l3 ag off n cs=some e):AS P TB Γ ⟨d,.field t x k,ty,pos,af,g⟩ f σ nx e:=by
 unfold l3 at h
 split at h
 ·obtain⟨c,hc,he⟩:=Option.map_eq_some_iff.1 h
  subst he
  exact fN hx hc
 ·split at h
  ·rename_i hb;injection h with h;subst h;exact dc hx (Nat.le_of_ble_eq_true hb)
  ·cases h
theorem mh{t:TypeId}{x y:Operand}{ex e:E}{n:Int}{len k:Nat}{ik:IntKind}[hl:QA P t len k](hx:ev f x=some ex)(hy:ev f y=some (eI ik n))(h:l6 k n ex=some e)(hn:0≤n∧n < len) :
 AS P TB Γ ⟨d,.indexAddr t x y,ty,pos,af,g⟩ f σ nx e:=by
 unfold l6 at h
 split at h<;>first|(injection h with h;subst h)|cases h
 ·exact ah hx hy hn.1 hn.2
 ·exact dj hx hy hn.1 hn.2
theorem kU{t e:TypeId}{x:Operand}{ex r:E}{k b:Nat}[hl:CK P t e k b](hx:ev f x=some ex)(h:l8 k ex=some r):AS P TB Γ ⟨d,.call ⟨.builtin .len,#[x],#[t]⟩,ty,pos,af,g⟩ f σ nx r:=by
 unfold l8 at h
 split at h
 ·injection h with h;subst h;exact dn hx
 ·split at h
  ·injection h with h;subst h;exact je hx
  ·cases h
 ·cases h
theorem MP{x:Option E}{q:Prop}{e:E}(h:tr x=some (q,e)):x=some e:=by
 cases x with
 | none=>cases h
 | some y=>injection h with h;injection h with _ h;rw [h]
theorem iN{i:TI}{t:TypeId}{x:Operand}{a e:E}(hi:EU P t i)(hx:ev f x=some a)(h:iM i a=some e):AS P TB Γ ⟨d,.call ⟨.builtin .len,#[x],#[t]⟩,ty,pos,af,g⟩ f σ nx e:=by
 unfold iM at h
 split at h
 ·split at h
  ·rename_i hs
   injection h with h;subst h
   haveI:=hi.bW hs
   exact jh hx
  ·cases h
 ·split at h
  ·rename_i hs
   haveI:=hi.Um hs
   exact kU hx h
  ·cases h
theorem iH{i:TI}{t:TypeId}{x y:Operand}{a b e:E}{q:Prop}(hi:EU P t i)(hx:ev f x=some a)(hy:ev f y=some b)(h:iF i a b=some (q,e))(hq:q):AS P TB Γ ⟨d,.indexAddr t x y,ty,pos,af,g⟩ f σ nx e:=by
 unfold iF at h
 split at h
 ·split at h
  ·rename_i hs
   split at h
   ·rename_i hk
    injection h with h;injection h with h1 h2;subst h1;subst h2
    have:=Nat.eq_of_beq_eq_true hk
    subst this
    haveI:=hi.Um hs
    exact df hx hy hq.1 hq.2
   ·cases h
  ·cases h
 ·split at h
  ·rename_i hs
   split at h
   ·rename_i hv
    injection h with h;injection h with h1 h2;subst h1;subst h2
    haveI:=hi.km hs
    exact mh hx hy hv hq
   ·cases h
  ·cases h
 ·cases h
theorem iU{i:TI}{t yt:TypeId}{x y:Operand}{a b e:E}{q:Prop}(hi:EU P t i)(hx:ev f x=some a)(hy:ev f y=some b)(h:iT i.pt a b=some (q,e)):AS P TB Γ ⟨d,.binOp .eql t x y yt,ty,pos,af,g⟩ f σ nx e:=by
 unfold iT at h
 split at h
 ·rename_i hp
  injection h with h;injection h with h1 h2;subst h2
  haveI:=hi.bV hp
  exact aa hx hy
 ·rename_i hp
  injection h with h;injection h with h1 h2;subst h2
  haveI:=hi.bV hp
  exact WX hx hy
 ·cases h
theorem iu{i i':TI}{s t:TypeId}{k k':IntKind}{x:Operand}{a e:E}{q:Prop}(hi:EU P s i)(hi':EU P t i')(hk:i.ik=some k)(hk':i'.ik=some k')(hx:ev f x=some a)(h:ir k k' a=some (q,e))(hq:q):AS P TB Γ ⟨d,.convert s t x,ty,pos,af,g⟩ f σ nx e:=by
 unfold ir at h
 split at h
 ·split at h
  ·rename_i h1 hr
   injection h with h;injection h with h2 h3;subst h2;subst h3
   have h1:=OV h1
   subst h1
   haveI:=hi.bU hk
   haveI:=hi'.bU hk'
   exact Tb hx (Tj hr hq)
  ·cases h
 ·cases h
theorem YU[hT:C5 P]{md:Bool}{op:Op}{q:Prop}{e:E}(h:dB hT.T md f op=some (q,e))(hq:q):AS P TB Γ ⟨d,op,ty,pos,af,g⟩ f σ nx e:=by
 have hty:=fun t=>DU (P:=P) t hT.ok
 unfold dB at h
 split at h
 ·split at h
  ·cases h
  ·exact Br (MP h)
 ·rename_i o t x y yt
  split at h
  ·rename_i hx hy
   unfold j9 at h
   split at h
   ·exact iU (hty t) hx hy h
   ·exact me hx hy h hq
  ·cases h
 ·rename_i s x k
  split at h
  ·rename_i hf hx
   haveI:=(hty s).iC hf
   exact kR hx (MP h)
  ·cases h
 ·rename_i t x k
  split at h
  ·rename_i hf hx
   haveI:=(hty t).fc hf
   exact mg hx (MP h)
  ·cases h
 ·rename_i t x
  split at h
  ·rename_i hl hx
   haveI:=(hty t).Nf hl
   exact mj hx (MP h)
  ·cases h
 ·rename_i t x y
  split at h
  ·rename_i hx hy
   exact iH (hty t) hx hy h hq
  ·cases h
 ·rename_i x t
  split at h
  ·rename_i hx
   exact iN (hty t) hx (MP h)
  ·cases h
 ·rename_i s t x
  split at h
  ·rename_i h1 h2 hx
   exact iu (hty s) (hty t) h1 h2 hx h hq
  ·cases h
 ·split at h
  ·rename_i h1
   split at h
   ·rename_i h2
    injection h with h;injection h with _ h;subst h
    exact mf h1 h2
   ·cases h
  ·cases h
 ·exact nw (MP h)
theorem UX[hT:C5 P]{op:Op}{c:Bool}(h:UW hT.T f op=some c):AS P TB Γ ⟨d,op,ty,pos,af,g⟩ f σ nx (eB c):=by
 have hty:=fun t=>DU (P:=P) t hT.ok
 unfold UW at h
 split at h
 ·rename_i o t x y yt
  split at h
  ·rename_i hx hy
   split at h
   ·rename_i hb
    haveI:=(hty t).fb hb
    unfold mI at h
    split at h
    ·injection h with h;subst h;exact kN hx hy
    ·injection h with h;subst h;exact kX hx hy
    ·cases h
   ·exact kM hx hy h
  ·cases h
 ·split at h
  ·rename_i hx
   injection h with h;subst h
   exact k9 hx
  ·cases h
 ·cases h
theorem Pp[hT:C5 P]{op:Op}{e:E}(h:Np hT.T σ f op=some e):AS P TB Γ ⟨d,op,ty,pos,af,g⟩ f σ nx e:=by
 have hty:=fun t=>DU (P:=P) t hT.ok
 unfold Np at h
 split at h
 ·rename_i t x
  split at h
  ·rename_i hl hx
   split at h
   ·rename_i ho
    split at h
    ·rename_i hk hr
     have hk:=Nat.eq_of_beq_eq_true hk
     subst hk
     haveI:=(hty t).Nf hl
     rw [Od] at hr
     exact YN hx ho hr h
    ·cases h
   ·cases h
  ·cases h
 ·cases h
theorem Pq[hT:C5 P]{t:TypeId}{x y:Operand}{σ':Ab}{K:E→Ab→Nat→Prop}(h:RB hT.T σ f t x y=some σ')(hK:K (.t []) σ' nx):BT P TB Γ ⟨d,.store t x y,ty,pos,af,g⟩ f σ nx K:=by
 have hty:=fun t=>DU (P:=P) t hT.ok
 unfold RB at h
 split at h
 ·rename_i hl hx hy
  split at h
  ·rename_i ho
   split at h
   ·rename_i hk hr
    split at h
    ·rename_i h1 h2 h3
     have hk:=Nat.eq_of_beq_eq_true hk
     subst hk
     haveI:=(hty t).Nf hl
     rw [Od] at hr
     injection h with h
     subst h
     exact Eg hx hy h1 ho hr (Nat.eq_of_beq_eq_true h2) (Nat.le_of_ble_eq_true h3) hK
    ·cases h
   ·cases h
  ·cases h
 ·cases h
end
section
variable {P:Program}{TB:Bt}{Γ:Ctx}{ops:Array Oper}{fl:Fl}{i n:Nat}{L:List (Nat×E)}{σ:Ab}{nx:Nat}{K:Env→Ab→Nat→Prop}{d:Tmp}{ty:TypeId}{pos:String}{af:Array Edge}{g:Option (Nat×Bool)}{op:Op}
theorem gA{d:Option Tmp}(hg:Bw ops ⟨d,op,ty,pos,af,g⟩ (look L)=some true)(h:Gp P TB Γ ops ⟨d,op,ty,pos,af,g⟩ fl i n K L σ nx):Bc P TB Γ ops ⟨d,op,ty,pos,af,g⟩ fl i n K L σ nx:=h hg
theorem gS{x:E}(hq:∀σ nx,AS P TB Γ ⟨some d,op,ty,pos,af,g⟩ (look L) σ nx x)(h:Lex P TB Γ ops (Aj fl (i+1) n) K (look ((d,x)::L)) σ nx):Gp P TB Γ ops ⟨some d,op,ty,pos,af,g⟩ fl i n K L σ nx:=fun hg=>Bs hq hg h
theorem gQ{x:E}(hq:AS P TB Γ ⟨some d,op,ty,pos,af,g⟩ (look L) σ nx x)(hf:Se (fl i)=true)(h:Lex P TB Γ ops (Aj fl (i+1) n) K (look ((d,x)::L)) σ nx):Gp P TB Γ ops ⟨some d,op,ty,pos,af,g⟩ fl i n K L σ nx:=fun hg=>fL hq hg hf h
theorem gB{c:Bool}(hq:∀σ nx,AS P TB Γ ⟨some d,op,ty,pos,af,g⟩ (look L) σ nx (eB c))(h:∀b,c=b→Lex P TB Γ ops (Aj fl (i+1) n) K (look ((d,eB b)::L)) σ nx):Gp P TB Γ ops ⟨some d,op,ty,pos,af,g⟩ fl i n K L σ nx:=fun hg=>Z0 hq hg h
theorem mM{c:Bool}(hq:AS P TB Γ ⟨some d,op,ty,pos,af,g⟩ (look L) σ nx (eB c))(hf:Se (fl i)=true)(h:∀b,c=b→Lex P TB Γ ops (Aj fl (i+1) n) K (look ((d,eB b)::L)) σ nx):Gp P TB Γ ops ⟨some d,op,ty,pos,af,g⟩ fl i n K L σ nx:=fun hg=>fL hq hg hf (h c rfl)
theorem gW(h:BT P TB Γ ⟨some d,op,ty,pos,af,g⟩ (look L) σ nx (fun x σ' nx'=>Lex P TB Γ ops (Aj fl (i+1) n) K (look ((d,x)::L)) σ' nx'))(hf:fl i=1):Gp P TB Γ ops ⟨some d,op,ty,pos,af,g⟩ fl i n K L σ nx:=fun hg=>NQ h hg hf
theorem mN(h:BT P TB Γ ⟨none,op,ty,pos,af,g⟩ (look L) σ nx (fun _ σ' nx'=>Lex P TB Γ ops (Aj fl (i+1) n) K (look L) σ' nx'))(hf:fl i=1):Gp P TB Γ ops ⟨none,op,ty,pos,af,g⟩ fl i n K L σ nx:=fun hg=>HP h hg hf
theorem yQ{md:Bool}[hT:C5 P]{q:Prop}{x:E}(h:dB hT.T md (look L) op=some (q,x))(hq:q)(hk:Lex P TB Γ ops (Aj fl (i+1) n) K (look ((d,x)::L)) σ nx):Gp P TB Γ ops ⟨some d,op,ty,pos,af,g⟩ fl i n K L σ nx:=gS (fun _ _=>YU h hq) hk
theorem yB[hT:C5 P]{c:Bool}(h:UW hT.T (look L) op=some c)(hk:∀b,c=b→Lex P TB Γ ops (Aj fl (i+1) n) K (look ((d,eB b)::L)) σ nx):Gp P TB Γ ops ⟨some d,op,ty,pos,af,g⟩ fl i n K L σ nx:=gB (fun _ _=>UX h) hk
theorem yS[hT:C5 P]{x:E}(h:Np hT.T σ (look L) op=some x)(hf:Se (fl i)=true)(hk:Lex P TB Γ ops (Aj fl (i+1) n) K (look ((d,x)::L)) σ nx):Gp P TB Γ ops ⟨some d,op,ty,pos,af,g⟩ fl i n K L σ nx:=gQ (Pp h) hf hk
theorem yW[hT:C5 P]{t:TypeId}{x y:Operand}{σ':Ab}(h:RB hT.T σ (look L) t x y=some σ')(hf:fl i=1)(hk:Lex P TB Γ ops (Aj fl (i+1) n) K (look L) σ' nx):Gp P TB Γ ops ⟨none,.store t x y,ty,pos,af,g⟩ fl i n K L σ nx:=mN (Pq h hk) hf
theorem yO[hT:C5 P]{T:TypeId}{z:List Value}(h:(JS hT.T T).ze=some z)(hok:z.all P4=true)(hf:fl i=1)(hK:Lex P TB Γ ops (Aj fl (i+1) n) K (look ((d,.o (.ptr nx z.length 0 0))::L)) ((nx,.cells T z.length [z.map zC])::σ) (nx+1)):Gp P TB Γ ops ⟨some d,.alloc T,ty,pos,af,g⟩ fl i n K L σ nx:=
 haveI:=(DU (P:=P) T hT.ok).bX h
 gW (fw hok hK) hf
theorem yM[hT:C5 P]{t:TypeId}{x:Operand}{id k i' j:Nat}{T:TypeId}{rows:List (List C)}{r:List C}{e:E}{ag:Bool}{m:Nat}(hx:ev (look L) x=some (.o (.ptr id k i' j)))(ho:look σ id=some (.cells T k rows))(hr:rows[i']? = some r)(hl:(JS hT.T t).ld=some (ag,m))
 (h:iK ag m j r=some e) (hf:Se (fl i)=true) (hk:Lex P TB Γ ops (Aj fl (i+1) n) K (look ((d,e)::L)) σ nx):Gp P TB Γ ops ⟨some d,.load t x,ty,pos,af,g⟩ fl i n K L σ nx:=
 haveI:=(DU (P:=P) t hT.ok).Nf hl
 gQ (YN hx ho hr h) hf hk
theorem yV[hT:C5 P]{t:TypeId}{x y:Operand}{id k i' j m:Nat}{T:TypeId}{rows:List (List C)}{r:List C}{e:E}{ag:Bool}(hx:ev (look L) x=some (.o (.ptr id k i' j)))(hy:ev (look L) y=some e)(ho:Uc e=true)(hlk:look σ id=some (.cells T k rows))(hr:rows[i']? = some r)
 (hl:(JS hT.T t).ld=some (ag,m)) (hn:(eC e).length=m) (hj:Nat.ble (j+m) k=true) (hf:fl i=1) (hk:Lex P TB Γ ops (Aj fl (i+1) n) K (look L) ((id,.cells T k (rows.set i' (Af r j (eC e))))::σ) nx):Gp P TB Γ ops ⟨none,.store t x y,ty,pos,af,g⟩ fl i n K L σ nx:=
 haveI:=(DU (P:=P) t hT.ok).Nf hl
 mN (Eg hx hy ho hlk hr hn (Nat.le_of_ble_eq_true hj) hk) hf
theorem nB[hT:C5 P]{α:Type}{t e:TypeId}{x:Operand}{l:List α}{g1:α→List D}{k b:Nat}(hx:ev (look L) x=some (.o (.d (.l (l.map g1)))))(hl:(JS hT.T t).sl=some (e,k,b))(hk:Lex P TB Γ ops (Aj fl (i+1) n) K (look ((d,eI .i64 l.length)::L)) σ nx):Gp P TB Γ ops ⟨some d,.call ⟨.builtin .len,#[x],#[t]⟩,ty,pos,af,g⟩ fl i n K L σ nx:=
 haveI:=(DU (P:=P) t hT.ok).Um hl
 gS (fun _ _=>jf hx) hk
theorem yL[hT:C5 P]{t e:TypeId}{x y:Operand}{rows:List (List D)}{row:List D}{m:Int}{k b:Nat}{ik:IntKind}(hx:ev (look L) x=some (.o (.d (.l rows))))(hy:ev (look L) y=some (eI ik m))(hr:rows[m.toNat]? = some row)(hl:(JS hT.T t).sl=some (e,k,b))(hn:row.length=k)(h0:0≤m)
 (hk:Lex P TB Γ ops (Aj fl (i+1) n) K (look ((d,.o (.ip row))::L)) σ nx):Gp P TB Γ ops ⟨some d,.indexAddr t x y,ty,pos,af,g⟩ fl i n K L σ nx:=
 haveI:=(DU (P:=P) t hT.ok).Um hl
 gS (fun _ _=>dh hx hy h0 hr hn) hk
theorem yT[hT:C5 P]{t:TypeId}{x y:Operand}{s:List UInt8}{m:Int}{c:UInt8}{ik:IntKind}(hx:ev (look L) x=some (eT s))(hy:ev (look L) y=some (eI ik m))(hc:s[m.toNat]? = some c)(hl:(JS hT.T t).st=true)(h0:0≤m)
 (hk:Lex P TB Γ ops (Aj fl (i+1) n) K (look ((d,eI .u8 (c.toNat:Int))::L)) σ nx):Gp P TB Γ ops ⟨some d,.index t x y,ty,pos,af,g⟩ fl i n K L σ nx:=
 haveI:=(DU (P:=P) t hT.ok).bW hl
 gS (fun _ _=>dm hx hy h0 hc) hk
def mo(k m:Nat)(z:List Value)(es:List E):Option (List (List D)):=match es.all Uc,PU es with
 | true,some rows=>match rows.all fun r=>Nat.beq r.length k,Nat.beq z.length k,z.all P4,Nat.ble 1 k,Nat.ble (m*k) 16777216 with
  | true,true,true,true,true=>some rows
  | _,_,_,_,_=>none
 | _,_=>none
theorem yZ[hT:C5 P]{t e:TypeId}{k b m:Nat}{z:List Value}{parts:Array (Nat×Operand)}{es:List E}{rows:List (List D)}(hl:(JS hT.T t).sl=some (e,k,b))(hz:(JS hT.T e).ze=some z)(hp:Dn 0 (parts.toList.map (·.2))=parts.toList)(hn:parts.toList.length=m)
 (hes:JP (look L) (parts.toList.map (·.2))=some es) (hv:mo k m z es=some rows)
 (h:Lex P TB Γ ops (Aj fl (i+1) n) K (look ((d,.o (.d (.l rows)))::L)) σ nx):Gp P TB Γ ops ⟨some d,.buildSlice t m parts,ty,pos,af,g⟩ fl i n K L σ nx:=by
 haveI:=(DU (P:=P) t hT.ok).Um hl
 haveI:=(DU (P:=P) e hT.ok).bX hz
 unfold mo at hv
 split at hv
 ·rename_i h1 h2
  split at hv
  ·rename_i h3 h4 h5 h6 h7
   injection hv with hv
   subst hv
   exact gS (fun _ _=>Pl hp hn hes h1 h2 h3 (Nat.eq_of_beq_eq_true h4) h5 h6 h7) h
  ·cases hv
 ·cases hv
theorem yY{T:TypeId}{x:Operand}{e:E}{ds:List D}(hx:ev (look L) x=some e)(ho:Uc e=true)(hd:Qz (eC e)=some ds)(h:Lex P TB Γ ops (Aj fl (i+1) n) K (look ((d,.o (.ip ds))::L)) σ nx):Gp P TB Γ ops ⟨some d,.box T x,ty,pos,af,g⟩ fl i n K L σ nx:=gS (fun _ _=>C0 hx ho hd) h
def fz:Nat→List (Nat×Operand)→Bool
 | _,[]=>true
 | k,(i,_)::r=>Nat.beq i k && fz (k+1) r
theorem YG:∀(l:List (Nat×Operand)) (k:Nat),fz k l=true→Dn k (l.map (·.2))=l
 | [],_,_=>rfl
 | (i,x)::r,k,h=>by
  unfold fz at h
  rw [Bool.and_eq_true] at h
  have h1:=Nat.eq_of_beq_eq_true h.1
  subst h1
  have:=YG r (i+1) h.2
  simp [Dn,this]
def fD(c:Nat):Option E→Bool
 | some (.o (.ptr id _ _ _))=>Se c || (Nat.beq c (10+id) && !Nat.ble 1000 c)
 | _=>Se c
theorem dC{T:List (Nat×TI)}{σ σ':Ab}{f:Env}{t:TypeId}{x:Operand}{id k i j:Nat}(hx:ev f x=some (.o (.ptr id k i j)))(h:look σ' id=look σ id):Np T σ' f (.load t x)=Np T σ f (.load t x):=by
 unfold Np
 simp only [hx]
 cases (JS T t).ld with
 | none=>rfl
 | some p=>obtain⟨ag,n⟩:=p;simp only [h]
def YT(T:List (Nat×TI))(sl:Bool)(c nx:Nat)(σ:Ab)(L:List (Nat×E)):Option Tmp→Op→Option (List (Nat×E)×Ab×Nat)
 | some d,.alloc t=>match Nat.beq c 1,(JS T t).ze with
  | true,some z=>match z.all P4 with
   | true=>some ((d,.o (.ptr nx z.length 0 0))::L,(nx,.cells t z.length [z.map zC])::σ,nx+1)
   | false=>none
  | _,_=>none
 | none,.store t x y=>match Nat.beq c 1,RB T σ (look L) t x y with
  | true,some σ'=>some (L,σ',nx)
  | _,_=>none
 | some d,.load t x=>match fD c (ev (look L) x),Np T σ (look L) (.load t x) with
  | true,some e=>some ((d,e)::L,σ,nx)
  | _,_=>none
 | some d,.box _ x=>match sl,ev (look L) x with
  | true,some e=>match Uc e,Qz (eC e) with
   | true,some ds=>some ((d,.o (.ip ds))::L,σ,nx)
   | _,_=>none
  | _,_=>none
 | some d,.buildSlice t m parts=>match sl,(JS T t).sl with
  | true,some (e,k,_)=>match (JS T e).ze,JP (look L) (parts.toList.map (·.2)) with
   | some z,some es=>match mo k m z es,fz 0 parts.toList,Nat.beq parts.toList.length m with
    | some rows,true,true=>some ((d,.o (.d (.l rows)))::L,σ,nx)
    | _,_,_=>none
   | _,_=>none
  | _,_=>none
 | _,_=>none
theorem yU[hT:C5 P]{sl:Bool}{d:Option Tmp}{L':List (Nat×E)}{σ':Ab}{nx':Nat}(h:YT hT.T sl (fl i) nx σ L d op=some (L',σ',nx'))(hk:Lex P TB Γ ops (Aj fl (i+1) n) K (look L') σ' nx'):Gp P TB Γ ops ⟨d,op,ty,pos,af,g⟩ fl i n K L σ nx:=by
 unfold YT at h
 split at h
 ·split at h
  ·rename_i h1 h2
   split at h
   ·rename_i h3
    injection h with h;injection h with e1 h;injection h with e2 e3;subst e1;subst e2;subst e3
    exact yO h2 h3 (Nat.eq_of_beq_eq_true h1) hk
   ·cases h
  ·cases h
 ·split at h
  ·rename_i h1 h2
   injection h with h;injection h with e1 h;injection h with e2 e3;subst e1;subst e2;subst e3
   exact yW h2 (Nat.eq_of_beq_eq_true h1) hk
  ·cases h
 ·split at h
  ·rename_i h1 h2
   injection h with h;injection h with e1 h;injection h with e2 e3;subst e1;subst e2;subst e3
   unfold fD at h1
   split at h1
   ·rename_i hx
    rw [Bool.or_eq_true] at h1
    rcases h1 with h1|h1
    ·exact yS h2 h1 hk
    ·rw [Bool.and_eq_true] at h1
     have h3:=Nat.eq_of_beq_eq_true h1.1
     refine fun hg=>kI (fun σ' nx' hs=>Pp (by rw [h3,Nat.add_sub_cancel_left] at hs;rw [dC (σ:=σ) (σ':=σ') hx hs];exact h2)) hg ⟨Nat.ble_eq_true_of_le (by omega),by simpa using h1.2⟩ hk
   ·exact yS h2 h1 hk
  ·cases h
 ·split at h
  ·rename_i h1
   split at h
   ·rename_i h2 h3
    injection h with h;injection h with e1 h;injection h with e2 e3;subst e1;subst e2;subst e3
    exact yY h1 h2 h3 hk
   ·cases h
  ·cases h
 ·split at h
  ·rename_i h1
   split at h
   ·rename_i h2 h3
    split at h
    ·rename_i h4 h5 h6
     injection h with h;injection h with e1 h;injection h with e2 e3;subst e1;subst e2;subst e3
     exact yZ h1 h2 (YG _ _ h5) (Nat.eq_of_beq_eq_true h6) h3 h4 hk
    ·cases h
   ·cases h
  ·cases h
 ·cases h
theorem yP{x:Operand}{args:Array Operand}{tys:Array TypeId}{gg:FuncId}{cap:List C}{es:List E}{r:E}(hx:ev (look L) x=some (.o (.fn gg cap)))(hes:JP (look L) args.toList=some es)(hp:(es.all E.Cp && C.Dr cap)=true)
 (hs:Pure P TB gg (es++cap.map .o) r) (hr:r.Cp=true) (h:Lex P TB Γ ops (Aj fl (i+1) n) K (look ((d,r)::L)) σ nx):Gp P TB Γ ops ⟨some d,.call ⟨.value x,args,tys⟩,ty,pos,af,g⟩ fl i n K L σ nx:=gS (fun _ _=>AO hx hes hp hs hr) h
theorem yC{x:Operand}{args:Array Operand}{tys:Array TypeId}{gg:FuncId}{cap:List C}{es:List E}{c:Bool}(hx:ev (look L) x=some (.o (.fn gg cap)))(hes:JP (look L) args.toList=some es)(hp:(es.all E.Cp && C.Dr cap)=true)
 (hs:Pure P TB gg (es++cap.map .o) (eB c)) (h:∀b,c=b→Lex P TB Γ ops (Aj fl (i+1) n) K (look ((d,eB b)::L)) σ nx):Gp P TB Γ ops ⟨some d,.call ⟨.value x,args,tys⟩,ty,pos,af,g⟩ fl i n K L σ nx:=gB (fun _ _=>AO hx hes hp hs rfl) h
theorem yG{d:Option Tmp}{j t:Nat}{w b:Bool}(_hd:(ops[j]?).bind (·.dst)=some t)(_hv:look L t=some (eB b))
 (hT:b=true→Lex P TB Γ ops (Aj fl i (n+1)) K (look L) σ nx) (hF:b=false→Lex P TB Γ ops (Aj fl i (n+1)) K (look L) σ nx):Bc P TB Γ ops ⟨d,op,ty,pos,af,some (j,w)⟩ fl i n K L σ nx:=by
 intro _
 cases b
 ·exact hF rfl
 ·exact hT rfl
end
end Go.Am
namespace Go.Am
open Go Go.ChangeShapes Go.WideShapes Go.RowKit
def below(w:World)(b:Nat):Prop:=b < w.heap.size
def Rd{α:Type}(P:Program)(w:World)(t:TypeId)(k:Nat)(f:α→List D):Prop:=
 ∀ {H:Type} (enc:TypeId×Value→H) (fuel:Nat) (cs:List Value) (x:DataW H×List MemPlace),DataW.trod enc P w 0 (fun _=>true) true fuel t cs=some x→
  ∃y:α,cs.length=k∧(f y).length=k∧∀(j:Nat) c d,cs[j]? = some c→(f y)[j]? = some d→CU (below w) w d c
section
variable {P:Program}{w:World}{t e:TypeId}{k:Nat}
theorem Rd.map{α β:Type}{f:α→List D}{f':β→List D}(g:α→β)(hg:∀y,f y=f' (g y))(h:Rd P w t k f):Rd P w t k f':=fun enc fuel cs x hx=>by
 obtain⟨y,h1,h2,h3⟩:=h enc fuel cs x hx
 exact⟨g y,h1,by rw [←hg];exact h2,by rw [←hg];exact h3⟩
theorem Jc{c0:Value}{d0:D}(h:CU (below w) w d0 c0):∀(j:Nat) c d,[c0][j]? = some c→[d0][j]? = some d→CU (below w) w d c:=by
 intro j c d hc hd
 match j with
 | 0=>simp at hc hd;subst hc;subst hd;exact h
 | j+1=>simp at hc
theorem Kr(ht:P.underlying t=some (.int .i64)):Rd P w t 1 (fun n:Int=>[.v (.int .i64 n)]):=fun enc fuel cs x hx=>by
 obtain⟨n,rfl,_,_⟩:=DataW.trod_int ht hx
 exact⟨n,rfl,rfl,Jc (.v rfl)⟩
theorem fW(ht:P.underlying t=some .bool):Rd P w t 1 (fun b:Bool=>[.v (.bool b)]):=fun enc fuel cs x hx=>by
 obtain⟨b,rfl,_⟩:=DataW.trod_bool ht hx
 exact⟨b,rfl,rfl,Jc (.v rfl)⟩
theorem QI{a:Addr}{n:Nat}{cs:List Value}(h:w.cells? 0 a n=some cs):cs.length=n∧∀(j:Nat) c,cs[j]? = some c→w.cell? (a.add j)=some c:=by
 unfold World.cells? at h
 rw [if_pos (Nat.zero_le _)] at h
 have hl:=mapM_some_length h
 simp at hl
 refine⟨hl,fun j c hc=>?_⟩
 have hlt:=(List.getElem?_eq_some_iff.1 hc).1
 have:=mapM_some_get h j j (by rw [List.getElem?_range (by omega)])
 rw [this];exact hc
theorem Lp{α:Type}{f:α→List D}(ht:P.underlying t=some (.slice e))(hk:P.cellsOf e=k)(h0:0 < k)(hf:Rd P w e k f):Rd P w t 1 (fun l:List α=>[.l (l.map f)]):=fun enc fuel cs x hx=>by
 rcases DataW.trod_slice ht hx with ⟨rfl,_⟩|⟨a,len,cap,elems,rest,n,rfl,rfl,_,_,hlc,hcm,hel,hget,_,_⟩
 ·exact⟨[],rfl,rfl,Jc .nil⟩
 ·rw [hk] at hget
  rcases Nat.eq_zero_or_pos len with hl0|hl0
  ·subst hl0
   exact⟨[],rfl,rfl,Jc (.e hcm)⟩
  have key:∀i,i < len→∃(y:α) (cs:List Value),w.cells? 0 (a.add (i*k)) k=some cs∧cs.length=k∧(f y).length=k∧∀(j:Nat) c d,cs[j]? = some c→(f y)[j]? = some d→CU (below w) w d c:=by
   intro i hi
   have h1:=hget i hi
   have hie:i < elems.length:=by omega
   rw [List.getElem?_eq_getElem hie] at h1
   simp only [Option.bind_eq_some_iff] at h1
   obtain⟨cs,h2,h3⟩:=h1
   obtain⟨y,h4,h5,h6⟩:=hf enc n cs _ h3
   exact⟨y,cs,h2,h4,h5,h6⟩
  obtain⟨b,o,rfl,hb⟩:∃b o,a=⟨b,o,none⟩∧b < w.heap.size:=by
   obtain⟨y,cs,h2,h4,_,_⟩:=key 0 hl0
   have h7:=(QI h2).2 0 (cs[0]'(by omega)) (by simp)
   rw [Nat.zero_mul] at h7
   have h8:∀a:Addr,a.add 0=a:=fun a=>by simp [Addr.add]
   rw [h8,h8] at h7
   unfold World.cell? at h7
   obtain⟨b,o,sp⟩:=a
   split at h7
   ·rename_i c _ _ hh
    split at h7
    ·cases h7
    ·rename_i hs
     cases sp with
     | none=>exact⟨b,o,rfl,(Array.getElem?_eq_some_iff.1 hh).1⟩
     | some s=>simp at hs
   ·cases h7
  have hlist:∀m,m≤len→∃l:List α,l.length=m∧∀(i:Nat) y,l[i]? = some y→(f y).length=k∧∀(j:Nat) d,(f y)[j]? = some d→∃c,w.cell? ⟨b,o+i*k+j,none⟩=some c∧CU (below w) w d c:=by
   intro m
   induction m with
   | zero=>intro _;exact⟨[],rfl,fun i y h=>by simp at h⟩
   | succ m ih=>
    intro hm
    obtain⟨l,hl,hall⟩:=ih (by omega)
    obtain⟨y,cs,h2,h4,h5,h6⟩:=key m (by omega)
    refine⟨l++[y],by simp [hl],fun i z hz=>?_⟩
    by_cases hi:i < l.length
    ·rw [List.getElem?_append_left hi] at hz;exact hall i z hz
    ·rw [List.getElem?_append_right (by omega)] at hz
     have hi0:i=m:=by
      have:=(List.getElem?_eq_some_iff.1 hz).1
      simp at this;omega
     subst hi0
     rw [hl,Nat.sub_self] at hz
     simp at hz
     subst hz
     refine⟨h5,fun j d hj=>?_⟩
     have hjl:j < cs.length:=by rw [h4,←h5];exact(List.getElem?_eq_some_iff.1 hj).1
     have h7:=(QI h2).2 j cs[j] (List.getElem?_eq_getElem hjl)
     rw [BE,BE] at h7
     exact⟨cs[j],h7,h6 j _ d (List.getElem?_eq_getElem hjl) hj⟩
  obtain⟨l,hl,hall⟩:=hlist len (Nat.le_refl _)
  refine⟨l,rfl,rfl,Jc ?_⟩
  have hll:(l.map f).length=len:=by simp [hl]
  rw [←hll]
  refine .l (b:=b) (o:=o) (k:=k) (vs:=fun i j=>(w.cell? ⟨b,o+i*k+j,none⟩).getD undef) hb (by simpa [hl] using hlc) hcm (fun i r hr=>?_) (fun i r j d hr hd=>?_) (fun i r j d hr hd=>?_)
  all_goals
   rw [List.getElem?_map,Option.map_eq_some_iff] at hr
   obtain⟨y,hy,rfl⟩:=hr
  ·exact(hall i y hy).1
  ·obtain⟨c,h1,_⟩:=(hall i y hy).2 j d hd
   rw [h1];rfl
  ·obtain⟨c,h1,h2⟩:=(hall i y hy).2 j d hd
   rw [h1];exact h2
theorem XP{cs:List Value}{l m:List D}{k:Nat}(hl:l.length=k)(h1:∀(j:Nat) c d,(cs.take k)[j]? = some c→l[j]? = some d→CU (below w) w d c)(h2:∀(j:Nat) c d,(cs.drop k)[j]? = some c→m[j]? = some d→CU (below w) w d c) :
 ∀(j:Nat) c d,cs[j]? = some c→(l++m)[j]? = some d→CU (below w) w d c:=by
 intro j c d hc hd
 by_cases hj:j < k
 ·rw [List.getElem?_append_left (by omega)] at hd
  exact h1 j c d (by rw [List.getElem?_take,if_pos hj];exact hc) hd
 ·rw [List.getElem?_append_right (by omega),hl] at hd
  refine h2 (j - k) c d ?_ hd
  rw [List.getElem?_drop]
  have:k+(j - k)=j:=by omega
  rw [this];exact hc
theorem Ks{α0 α1 α2:Type}{f0:α0→List D}{f1:α1→List D}{f2:α2→List D}{k0 k1 k2:Nat}{a0 a1 a2:Field}(ht:P.underlying t=some (.struct #[a0,a1,a2]))(ho:a0.offset=0∧a1.offset=k0∧a2.offset=k0+k1)
 (hc:P.cellsOf a0.type=k0∧P.cellsOf a1.type=k1∧P.cellsOf a2.type=k2∧P.cellsOf t=k0+k1+k2) (h0:Rd P w a0.type k0 f0) (h1:Rd P w a1.type k1 f1) (h2:Rd P w a2.type k2 f2) :
 Rd P w t (k0+k1+k2) (fun y:α0×α1×α2=>f0 y.1++(f1 y.2.1++f2 y.2.2)):=fun enc fuel cs x hx=>by
 obtain⟨xs,n,_,_,hl,hxl,hget⟩:=DataW.trod_struct ht hx
 have hs:xs.length=3:=hxl
 have e0:=hget 0 a0 rfl
 have e1:=hget 1 a1 rfl
 have e2:=hget 2 a2 rfl
 rw [List.getElem?_eq_getElem (by omega)] at e0 e1 e2
 rw [ho.1,hc.1] at e0
 rw [ho.2.1,hc.2.1] at e1
 rw [ho.2.2,hc.2.2.1] at e2
 obtain⟨y0,p1,p2,p3⟩:=h0 enc n _ _ e0
 obtain⟨y1,q1,q2,q3⟩:=h1 enc n _ _ e1
 obtain⟨y2,r1,r2,r3⟩:=h2 enc n _ _ e2
 rw [List.drop_zero] at p3
 rw [List.take_of_length_le (by simp;omega)] at r3
 refine⟨(y0,y1,y2),by rw [hl,hc.2.2.2],by simp [p2,q2,r2];omega,XP p2 p3 (XP q2 q3 ?_)⟩
 rw [List.drop_drop];exact r3
end
def TY(w:World):View:=⟨below w,id,fun _=>0,fun _=>True,0,w⟩
section
variable {P:Program}{w:World}{t:TypeId}{k:Nat}{H:Type}{enc:TypeId×Value→H}
theorem iY{fs:Array Field}{base:Nat}{v:Value}(ht:P.underlying t=some (.struct fs))(h:Value.okWide P w .any base t v):∃cs,v=.agg cs:=by
 unfold Value.okWide at h
 rw [ht] at h
 obtain⟨cs,h,_⟩:=h
 exact⟨cs,h⟩
theorem lH{α:Type}{f:α→List D}(h:Rd P w t k f){v:Value}{d:DataW H}{ps:List MemPlace}(hv:∃cs,v=.agg cs)(hd:DataW.Trod enc P w 0 (fun _=>true) true t v d ps):∃y,Bd (TY w) (.a ((f y).map .d)) v:=by
 obtain⟨cs,rfl⟩:=hv
 obtain⟨n,hn⟩:=hd
 obtain⟨y,h1,h2,h3⟩:=h enc n _ _ hn
 refine⟨y,cs,rfl,by simp only [List.length_map,h2,←h1];exact(Array.length_toList).symm,fun j c v hj hv=>?_⟩
 rw [List.getElem?_map,Option.map_eq_some_iff] at hj
 obtain⟨d,hd,rfl⟩:=hj
 exact .d (h3 j v d (by simpa [Value.cells] using hv) hd)
structure H0 (W W':World):Prop where
 os:W'.os=W.os
 output:W'.output=W.output
 size:W.heap.size≤W'.heap.size
 old:∀b,b < W.heap.size→W'.heap[b]? = W.heap[b]?
theorem H0.sameAt{W W':World}(h:H0 W W'){p:MemPlace}(hp:p.block < W.heap.size):W.sameAt W' p:=by
 cases p with
 | cell b off=>show W'.cell? _=W.cell? _;simp only [World.cell?,h.old b hp]
 | map b=>exact h.old b hp
theorem H0.kept{W W':World}(h:H0 W W')(may:MemPlace→Prop):W.keptBut W' may:=by
 refine⟨h.os,h.output,fun i hi=>?_⟩
 rw [h.old i hi]
 split
 ·rename_i h1 h2
  rw [h1] at h2
  injection h2 with h2;injection h2 with h3 h4 h5
  exact⟨h4.symm,h5.symm,by rw [h3],fun j _=>by rw [h3]⟩
 ·rename_i h1 h2
  rw [h1] at h2
  injection h2 with h2;injection h2 with h3 h4
  exact .inr ⟨h3.symm,h4.symm⟩
 ·rfl
theorem LM{W W':World}(hl:laidOutB P=true)(h:H0 W W'){sp:Nat→Bool}:∀ {ts:List TypeId} {vs:List Value} {ds:List (DataW H)} {ps:List MemPlace},(ts.all fun t=>P.readableRec t && decide (t < P.types.size))=true→
 DataW.TrodAll enc P W 0 (fun _=>true) true ts vs ds ps→(∀p∈ps,p.block < W.heap.size)→(∀p∈ps,sp p.block=true)→DataW.TrodAll enc P W' 0 sp true ts vs ds ps
 | [],vs,ds,ps,_,h1,_,_=>by obtain⟨rfl,rfl,rfl⟩:=trodAll_nil h1;exact rfl
 | t::ts,vs,ds,ps,ha,h1,h2,h3=>by
  obtain⟨v,vs',d,ds',p,q,rfl,rfl,rfl,h4,h5⟩:=trodAll_cons h1
  simp only [List.all_cons,Bool.and_eq_true,decide_eq_true_eq] at ha
  refine⟨p,q,Go.WideElems.Trod_stays hl ha.1.1 ha.1.2 h4 (fun x hx=>h.sameAt (h2 x (List.mem_append_left _ hx))) (fun x hx=>h3 x (List.mem_append_left _ hx)),LM hl h (by simpa using ha.2) h5 (fun x hx=>h2 x (List.mem_append_right _ hx)) (fun x hx=>h3 x (List.mem_append_right _ hx)),rfl⟩
theorem jL{f:Func}{s:ChangeSpec}{again:Bool}{W W':World}{args:Array Value}{ds gs:List (DataW H)}{before:List MemPlace}{tb:TypeId}(hl:laidOutB P=true)(hts:(f.params.toList.all fun t=>P.readableRec t && decide (t < P.types.size))=true)
 (hW:DataW.Whole enc P f.params.toList s.vars false W args.toList ds gs before) (hs:H0 W W') (hv:s.vars=[]) (hr:f.resultTypes = #[tb]) (htb:P.underlying tb=some .bool) (hone:(Value.bool true).resultList 1=[.bool true])
 (hfn:s.fn H (ds++gs) = { results:=[.lit (.bool true)],args:=ds }):s.post enc P f false true false again W args (.bool true) W':=by
 have hlt:=hW.lt
 have hW':=hW
 obtain⟨p,q,hA,hV,he,hz,hn⟩:=hW
 rw [hv] at hV
 obtain⟨rfl,rfl⟩:=trodVars_none hV
 rw [List.append_nil] at he
 subst he
 have hres:∀(b:Nat) (sp:Nat→Bool) (hd:Bool),DataW.TrodAll enc P W' b sp hd f.resultTypes.toList ((Value.bool true).resultList f.resultTypes.size) (s.fn H (ds++[])).results []:=fun b sp hd=>by
  rw [hr,hfn]
  show DataW.TrodAll enc P W' b sp hd [tb] ((Value.bool true).resultList 1) [.lit (.bool true)] []
  rw [hone]
  exact trodAll_mk1 (RowKit.shut_bool htb true)
 have hargs:∀sp:Nat→Bool,(∀x∈before,sp x.block=true)→DataW.TrodAll enc P W' 0 sp true f.params.toList args.toList (s.fn H (ds++[])).args before:=fun sp hsp=>by
  rw [hfn]
  exact LM hl hs hts hA hlt hsp
 have hvars:∀sp:Nat→Bool,DataW.TrodVars enc P W' sp s.vars (s.fn H (ds++[])).vars []:=fun sp=>by
  rw [hv,hfn];exact rfl
 refine⟨ds,[],before,[],before,[],hW',hres _ _ _,hargs _ fun x hx=>by simpa using hlt x hx,hvars _,hs.kept _,fun _=>?_⟩
 refine⟨ok_one hr hone (okWide_bool_mk htb true),_,_,([]++before)++[],⟨[]++before,[],trodAll_append (hargs _ (fun _ _=>rfl)) (hres _ _ _),hvars _,rfl,?_,fun ha=>by cases ha⟩,fun x hx _=>by simpa using hx⟩
 intro b off hp
 have hp':MemPlace.cell b off∈before:=by simpa using hp
 have h1:=hz b off hp'
 have h2:b < W.heap.size:=hlt _ hp'
 simpa [World.frozen?,hs.old b h2] using h1
end
end Go.Am
namespace Go.Am
open Go
def A0(s:Int)(n:Nat):Bool:=decide (Hc .i64 (s.fdiv (2 ^ min n 64)) 1=1)
def hasB(s n:Int):Bool:=decide (0≤n) && A0 s n.toNat
def A4(n:Int):Bool:=decide (0≤n∧n≤63)
abbrev iD(n:Int):D:=.v (.int .i64 n)
abbrev bD(b:Bool):D:=.v (.bool b)
abbrev tD(s:List UInt8):D:=.v (.string ⟨s.toArray⟩)
abbrev Bm(n:Int):List D:=[iD n]
abbrev Ib(b:Bool):List D:=[bD b]
abbrev Ed(s:List UInt8):List D:=[tD s]
abbrev FX(l:List Int):D:=.l (l.map Bm)
abbrev E4(l:List Bool):D:=.l (l.map Ib)
abbrev Ch(l:List (List UInt8)):D:=.l (l.map Ed)
abbrev Al(n:Int):List C:=[.d (iD n)]
abbrev Ax(b:Bool):List C:=[.d (bD b)]
abbrev Ez(s:List UInt8):List C:=[.d (tD s)]
abbrev Dw(l:List Int):List D:=[FX l]
abbrev CR(l:List (List Int)):D:=.l (l.map Dw)
abbrev FO(l:List Int):List C:=[.d (FX l)]
abbrev Kg(l:List (List Int)):List D:=[CR l]
abbrev fg(l:List (List (List Int))):D:=.l (l.map Kg)
structure ET where
 f:Int
 l:Int
 t:Int
 deriving DecidableEq
structure Sys where
 al:Int
 st:Int
 es:List ET
structure AU where
 al:Int
 nx:List (List Int)
 ac:List Bool
abbrev C9(e:ET):List D:=[iD e.f,iD e.l,iD e.t]
abbrev AA(e:ET):List C:=[.d (iD e.f),.d (iD e.l),.d (iD e.t)]
abbrev OI(e:ET):E:=.a [.d (iD e.f),.d (iD e.l),.d (iD e.t)]
abbrev Ek(l:List ET):D:=.l (l.map C9)
abbrev CE(s:Sys):List D:=[iD s.al,iD s.st,Ek s.es]
abbrev Bv(s:Sys):E:=.a [.d (iD s.al),.d (iD s.st),.d (Ek s.es)]
abbrev Jm(l:List Sys):D:=.l (l.map CE)
abbrev Bh(a:AU):List D:=[iD a.al,CR a.nx,E4 a.ac]
abbrev Bp(a:AU):E:=.a [.d (iD a.al),.d (CR a.nx),.d (E4 a.ac)]
abbrev VZ(l:List AU):D:=.l (l.map Bh)
abbrev Ag(l:List Int):E:=.o (.d (FX l))
abbrev EG(l:List Bool):E:=.o (.d (E4 l))
abbrev Cm(l:List (List Int)):E:=.o (.d (CR l))
abbrev CP(l:List (List UInt8)):E:=.o (.d (Ch l))
abbrev HE(l:List ET):E:=.o (.d (Ek l))
abbrev Gx(l:List Sys):E:=.o (.d (Jm l))
def AI(s:Int)(k:Nat):List Int:=((List.range k).filter (A0 s)).map Int.ofNat
theorem AV(s:Int)(k:Nat):(AI s k).length≤k:=by
 unfold AI;rw [List.length_map];exact Nat.le_trans (List.length_filter_le _ _) (by simp)
theorem CZ(s:Int)(k:Nat):AI s (k+1)=AI s k++if A0 s k then [(k:Int)] else []:=by
 unfold AI
 rw [List.range_succ,List.filter_append,List.map_append]
 cases h:A0 s k<;>simp [h]
abbrev Ac(s:Int):List Int:=AI s 6
def DT(al st:Int)(e:ET):Bool:=decide (0≤e.f∧e.f < st∧0≤e.t∧e.t < st∧0≤e.l∧e.l < 6) && A0 al e.l.toNat
def Kb(e f:ET):Bool:=if e.f≠f.f then decide (e.f < f.f) else if e.l≠f.l then decide (e.l < f.l) else decide (e.t < f.t)
def Jn(s:Sys)(i:Nat):Bool:=match s.es[i]? with
 | none=>true
 | some e=>DT s.al s.st e && match i with
  | 0=>true
  | j+1=>match s.es[j]? with
   | none=>true
   | some p=>Kb p e
def AR(s:Sys):Bool:=A4 s.al && decide (1≤s.st∧s.st≤16) && (List.range s.es.length).all (Jn s)
theorem Gu{α:Type}{l:List α}{f:α→Bool}{k:Nat}{x:α}(h:l[k]? = some x)(h1:(l.take k).all f=true)(h2:f x=true):(l.take (k+1)).all f=true:=by
 rw [List.take_add_one,h];simp [List.all_append,h1,h2]
theorem Ia{α:Type}{l:List α}{f:α→Bool}{k:Nat}{x:α}(h:l[k]? = some x)(h2:f x=false):l.all f=false:=by
 rw [List.all_eq_false];exact⟨x,List.mem_of_getElem? h,by simp [h2]⟩
theorem Gt{α:Type}{l:List α}{f:α→Bool}{k:Nat}(h:(l.take k).all f=true)(hk:l.length≤k):l.all f=true:=by
 rwa [List.take_of_length_le hk] at h
theorem get_map{α β:Type}{l:List α}{g:α→β}{k:Nat}{x:α}(h:l[k]? = some x):(l.map g)[((k:Nat):Int).toNat]? = some (g x):=by simp [h]
theorem get_some{α:Type}{l:List α}{k:Nat}(h:k < l.length):∃x,l[k]? = some x:=⟨_,List.getElem?_eq_getElem h⟩
def Tp(n:Int)(q:Int):Bool:=decide (0≤q∧q < n)
def FY(ls n:Int)(row:List Int):Bool:=decide ((row.length:Int)=ls) && row.all (Tp n)
def AN(a:AU):Bool:=A4 a.al && decide (1≤a.nx.length∧a.nx.length≤12) && decide (a.ac.length=a.nx.length) && a.nx.all (FY (Ac a.al).length a.nx.length)
end Go.Am
