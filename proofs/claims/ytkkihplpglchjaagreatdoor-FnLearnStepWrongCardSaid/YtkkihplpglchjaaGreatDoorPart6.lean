/-
  The steps of a walk, few and short: what an operation gives is reckoned.
-/
import Derived.Test.YtkkihplpglchjaaGreatDoorPart5
import Derived.ProofKit
import Derived.OpenShut
import Derived.WideKeyArgs
import Derived.Deep.DeepHandedRow
import Derived.Lib.LaidTab
set_option linter.constructorNameAsVariable false
set_option linter.unusedSimpArgs false
set_option linter.unusedVariables false
namespace Go.Am
open Go
class OF (P:Program) (t:TypeId):Prop where
 out:P.underlying t=some .bool
theorem oA{p:Prop}[Decidable p]:(decide p=true)=p:=decide_eq_true_eq
theorem oB{p:Prop}[Decidable p]:decide p=false↔¬p:=decide_eq_false_iff_not
theorem oC{α β:Type}{l:List α}{f:α→β}:(l.map f).length=l.length:=List.length_map f
theorem oD{α:Type}{l m:List α}:(l++m).length=l.length+m.length:=List.length_append
theorem oE{α:Type}{n:Nat}{x:α}:(List.replicate n x).length=n:=List.length_replicate
theorem oF{α:Type}{x:α}{l:List α}:(x::l).length=l.length+1:=List.length_cons
theorem oG{α:Type}:([]:List α).length=0:=List.length_nil
theorem oZ:(∀(p:Prop) [Decidable p],(decide p=true)=p)∧(∀(p:Prop) [Decidable p],decide p=false↔¬p)∧(∀(α β:Type) (l:List α) (f:α→β),(l.map f).length=l.length)∧(∀(α:Type) (l m:List α),(l++m).length=l.length+m.length)∧(∀(α:Type) (n:Nat) (x:α),(List.replicate n x).length=n)∧(∀(α:Type) (x:α) (l:List α),(x::l).length=l.length+1)∧∀(α:Type),([]:List α).length=0:=
 ⟨fun _ _=>oA,fun _ _=>oB,fun _ _ _ _=>oC,fun _ _ _=>oD,fun _ _ _=>oE,fun _ _ _=>oF,fun _=>oG⟩
structure TI where
 ld:Option (Bool×Nat):=none
 ik:Option IntKind:=none
 st:Bool:=false
 sl:Option (Nat×Nat×Nat):=none
 ar:Option (Nat×Nat):=none
 fl:List (Option (Nat×Bool×Nat)):=[]
 pt:Bool:=false
 bo:Bool:=false
 ze:Option (List Value):=none
def Pv(P:Program)(t:Nat):Nat→List (Option (Nat×Bool×Nat))→Prop
 | _,[]=>True
 | k,none::r=>Pv P t (k+1) r
 | k,some x::r=>(T9 P t k=some x.1∧Ua P t k=some x)∧Pv P t (k+1) r
structure Ec (P:Program) (t:Nat) (i:TI):Prop where
 ld:i.ld=none∨Zs P t=i.ld
 ik:i.ik=none∨P.underlying t=i.ik.map .int
 st:i.st=false∨P.underlying t=some .string
 sl:i.sl=none∨ZU P t=i.sl
 ar:i.ar=none∨aA P t=i.ar
 fl:Pv P t 0 i.fl
 pt:i.pt=false∨∃e,P.underlying t=some (.pointer e)
 bo:i.bo=false∨P.underlying t=some .bool
 ze:i.ze=none∨UZ P t=i.ze
def So(P:Program):List (Nat×TI)→Prop
 | []=>True
 | (t,i)::r=>Ec P t i∧So P r
def dv:Value→Value→Bool
 | .int k n,.int k' n'=>decide (k=k') && decide (n=n')
 | .bool a,.bool b=>decide (a=b)
 | .string ⟨⟨a⟩⟩,.string ⟨⟨b⟩⟩=>a.isEmpty && b.isEmpty
 | .slice none 0 0,.slice none 0 0=>true
 | .pointer none,.pointer none=>true
 | .map none,.map none=>true
 | .nilFunc,.nilFunc=>true
 | .nilIface,.nilIface=>true
 | _,_=>false
theorem Z1:∀ {a b:Value},dv a b=true→a=b:=by
 intro a b h
 unfold dv at h
 split at h<;>simp_all
def cF:List Value→List Value→Bool
 | [],[]=>true
 | a::l,b::m=>dv a b && cF l m
 | _,_=>false
theorem Xw:∀ {l m:List Value},cF l m=true→l=m
 | [],[],_=>rfl
 | a::l,b::m,h=>by
  unfold cF at h
  rw [Bool.and_eq_true] at h
  rw [Z1 h.1,Xw h.2]
 | [],_::_,h=>by cases h
 | _::_,[],h=>by cases h
def aQ(P:Program)(t:Nat):Nat→List (Option (Nat×Bool×Nat))→Bool
 | _,[]=>true
 | k,none::r=>aQ P t (k+1) r
 | k,some x::r=>decide (T9 P t k=some x.1) && decide (Ua P t k=some x) && aQ P t (k+1) r
theorem Ro{P:Program}{t:Nat}:∀ {l:List (Option (Nat×Bool×Nat))} {k:Nat},aQ P t k l=true→Pv P t k l
 | [],_,_=>trivial
 | none::r,k,h=>Ro (l:=r) (k:=k+1) h
 | some x::r,k,h=>by
  unfold aQ at h
  simp only [Bool.and_eq_true,decide_eq_true_eq] at h
  exact⟨h.1,Ro h.2⟩
def dL(d:Option TypeDesc)(i:TI):Bool:=match d with
 | some (.int k)=>(match i.ik with|none=>true|some k'=>decide (k=k')) && !i.st && !i.pt && !i.bo
 | some .string=>i.ik.isNone && !i.pt && !i.bo
 | some (.pointer _)=>i.ik.isNone && !i.st && !i.bo
 | some .bool=>i.ik.isNone && !i.st && !i.pt
 | _=>i.ik.isNone && !i.st && !i.pt && !i.bo
def dp(P:Program)(t:Nat)(i:TI):Bool:=
 (i.ld.isNone || decide (Zs P t=i.ld)) && (dL (P.underlying t) i && ((i.sl.isNone || decide (ZU P t=i.sl)) && ((i.ar.isNone || decide (aA P t=i.ar)) && (aQ P t 0 i.fl && match i.ze with
  | none=>true
  | some l=>match UZ P t with
   | some l'=>cF l' l
   | none=>false))))
theorem or_none{α:Type}[DecidableEq α]{a b:Option α}(h:(b.isNone || decide (a=b))=true):b=none∨a=b:=by
 rw [Bool.or_eq_true] at h
 rcases h with h|h
 ·left;cases b<;>simp_all
 ·right;exact of_decide_eq_true h
theorem ZX{P:Program}{t:Nat}{i:TI}(h:dp P t i=true):Ec P t i:=by
 unfold dp at h
 simp only [Bool.and_eq_true] at h
 obtain⟨h1,h2,h3,h4,h5,h6⟩:=h
 have hd:(i.ik=none∨P.underlying t=i.ik.map .int)∧(i.st=false∨P.underlying t=some .string)∧(i.pt=false∨∃e,P.underlying t=some (.pointer e))∧(i.bo=false∨P.underlying t=some .bool):=by
  unfold dL at h2
  split at h2
  ·rename_i k hk
   cases hik:i.ik<;>simp_all
  all_goals simp_all
 refine⟨or_none h1,hd.1,hd.2.1,or_none h3,or_none h4,Ro h5,hd.2.2.1,hd.2.2.2,?_⟩
 split at h6
 ·rename_i hz;exact .inl hz
 ·rename_i l hz
  split at h6
  ·rename_i l' hz'
   right;rw [hz',hz,Xw h6]
  ·cases h6
def Y4(P:Program):List (Nat×TI)→Bool
 | []=>true
 | (t,i)::r=>dp P t i && Y4 P r
theorem Sy{P:Program}:∀ {l:List (Nat×TI)},Y4 P l=true→So P l
 | [],_=>trivial
 | (t,i)::r,h=>by
  unfold Y4 at h
  rw [Bool.and_eq_true] at h
  exact⟨ZX h.1,Sy h.2⟩
class CN (P:Program) where
 T:List (Nat×TI)
 ok:So P T
def Ii:List (Nat×TI)→Nat→TI
 | [],_=>{}
 | (k,x)::r,t=>bif Nat.beq k t then x else Ii r t
def nth{α:Type}:List α→Nat→Option α
 | [],_=>none
 | x::_,0=>some x
 | _::r,n+1=>nth r n
theorem Lo{α:Type}:∀(l:List α) (i:Nat),nth l i=l[i]?
 | [],_=>by simp [nth]
 | o::_,0=>by simp [nth]
 | _::r,n+1=>by simp [nth,Lo r n]
theorem Ds{P:Program}(t:Nat):∀ {T:List (Nat×TI)},So P T→Ec P t (Ii T t)
 | [],_=>⟨.inl rfl,.inl rfl,.inl rfl,.inl rfl,.inl rfl,trivial,.inl rfl,.inl rfl,.inl rfl⟩
 | (k,x)::r,h=>by
  unfold Ii
  cases hb:Nat.beq k t
  ·exact Ds t h.2
  ·have:=Nat.eq_of_beq_eq_true hb
   subst this
   exact h.1
section
variable {P:Program}{t:Nat}{i:TI}
theorem Ec.KK(h:Ec P t i){ag:Bool}{n:Nat}(e:i.ld=some (ag,n)):DJ P t ag n:=⟨by rcases h.ld with h|h<;>simp_all⟩
theorem Ec.VV(h:Ec P t i){k:IntKind}(e:i.ik=some k):Ix P t k:=⟨by rcases h.ik with h|h<;>simp_all⟩
theorem Ec.VX(h:Ec P t i)(e:i.st=true):Dq P t:=⟨by rcases h.st with h|h<;>simp_all⟩
theorem Ec.PY(h:Ec P t i){e k b:Nat}(he:i.sl=some (e,k,b)):Cb P t e k b:=⟨by rcases h.sl with h|h<;>simp_all⟩
theorem Ec.aW(h:Ec P t i){n k:Nat}(he:i.ar=some (n,k)):NG P t n k:=⟨by rcases h.ar with h|h<;>simp_all⟩
theorem Ec.VW(h:Ec P t i)(e:i.pt=true):Rb P t:=⟨h.pt.resolve_left (by simp [e])⟩
theorem Ec.XU(h:Ec P t i)(e:i.bo=true):OF P t:=⟨by rcases h.bo with h|h<;>simp_all⟩
theorem Ec.VY(h:Ec P t i){z:List Value}(e:i.ze=some z):BO P t z:=⟨by rcases h.ze with h|h<;>simp_all⟩
theorem Pv.get:∀ {l:List (Option (Nat×Bool×Nat))} {k j:Nat} {x:Nat×Bool×Nat},Pv P t k l→nth l j=some (some x)→T9 P t (k+j)=some x.1∧Ua P t (k+j)=some x
 | [],_,_,_,_,h=>by simp [nth] at h
 | none::r,k,0,x,_,h=>by simp [nth] at h
 | some y::r,k,0,x,hf,h=>by simp [nth] at h;subst h;exact hf.1
 | none::r,k,j+1,x,hf,h=>by
  have:=Pv.get (l:=r) (k:=k+1) (j:=j) (x:=x) hf h
  rwa [show k+(j+1)=k+1+j by omega]
 | some y::r,k,j+1,x,hf,h=>by
  have:=Pv.get (l:=r) (k:=k+1) (j:=j) (x:=x) hf.2 h
  rwa [show k+(j+1)=k+1+j by omega]
theorem Ec.Zn(h:Ec P t i){j off n:Nat}{ag:Bool}(e:nth i.fl j=some (some (off,ag,n))):OG P t j off:=⟨by have:=(h.fl.get e).1;rwa [Nat.zero_add] at this⟩
theorem Ec.XV(h:Ec P t i){j off n:Nat}{ag:Bool}(e:nth i.fl j=some (some (off,ag,n))):Lc P t j off ag n:=⟨by have:=(h.fl.get e).2;rwa [Nat.zero_add] at this⟩
end
def E1(P:Program)(TB:Bh)(Γ:Ctx)(ops:Array Oper)(o:Oper)(fl:Fl)(i n:Nat)(K:Env→Ab→Nat→Prop)(L:List (Nat×E))(σ:Ab)(nx:Nat):Prop:=
 Br ops o (look L)=some true→Bj P TB Γ ops o fl i n K L σ nx
def xE:Bool×List C→Option E
 | (false,[c])=>some (.o c)
 | (true,cs)=>some (.a cs)
 | _=>none
def cS(f:Env):Op→Option E
 | .move x=>ev f x
 | .pick c x y=>match ev f c with
  | some (.o (.d (.v (.bool true))))=>ev f x
  | some (.o (.d (.v (.bool false))))=>ev f y
  | _=>none
 | .extract x k=>match ev f x with
  | some (.t xs)=>(xs[k]?).bind xE
  | _=>none
 | .nilCheck x=>match ev f x with
  | some (.o (.d (.p cs)))=>some (.o (.ip cs))
  | some (.o (.ptr id k i j))=>some (.o (.ptr id k i j))
  | some (.o (.fn gg cs))=>some (.o (.fn gg cs))
  | _=>none
 | _=>none
def Z7:IntKind→IntKind→Bool
 | .i64,.i64|.u8,.u8|.u64,.u64|.i32,.i32|.u16,.u16|.u32,.u32=>true
 | _,_=>false
theorem Mf{a b:IntKind}(h:Z7 a b=true):a=b:=by cases a<;>cases b<;>first|rfl|cases h
def aM(o:BinOp)(m n:Int):Option Bool:=match o with
 | .lss=>some (decide (m < n))
 | .leq=>some (decide (m≤n))
 | .gtr=>some (decide (m > n))
 | .geq=>some (decide (m≥n))
 | .eql=>some (decide (m=n))
 | .neq=>some (decide (m≠n))
 | _=>none
def aJ(o:BinOp)(a b:List UInt8):Option Bool:=match o with
 | .eql=>some (decide (a=b))
 | .neq=>some (decide (a≠b))
 | _=>none
def Zb(o:BinOp):E→E→Option Bool
 | .o (.d (.v (.int k m))),.o (.d (.v (.int k' n)))=>match Z7 k k' with
  | true=>aM o m n
  | false=>none
 | .o (.d (.v (.string ⟨⟨a⟩⟩))),.o (.d (.v (.string ⟨⟨b⟩⟩)))=>aJ o a b
 | _,_=>none
def UF:IntKind→Int→Option Prop
 | .i64,m=>some (-9223372036854775808≤m∧m≤9223372036854775807)
 | .u64,m=>some (0≤m∧m≤18446744073709551615)
 | .u8,m=>some (0≤m∧m≤255)
 | .i32,m=>some (-2147483648≤m∧m≤2147483647)
 | _,_=>none
def dC(o:BinOp)(k:IntKind)(m n:Int):Option (Prop×E):=match o with
 | .add=>(UF k (m+n)).map fun q=>(q,eI k (m+n))
 | .sub=>(UF k (m - n)).map fun q=>(q,eI k (m - n))
 | .mul=>(UF k (m*n)).map fun q=>(q,eI k (m*n))
 | .rem=>some (0≤m∧0 < n,eI k (m % n))
 | .and=>some (True,eI k (Ey k m n))
 | .or=>some (True,eI k (Ud k m n))
 | _=>none
def cL(o:BinOp):E→E→Option (Prop×E)
 | .o (.d (.v (.int k m))),.o (.d (.v (.int k' n)))=>match o with
  | .shr=>some (0≤n,eI k (m.fdiv (2 ^ (min n.toNat k.bits))))
  | .quo=>match Z7 k .i64,Z7 k' .i64 with
   | true,true=>some ((0≤m∧m≤9223372036854775807)∧0 < n,eI .i64 (m / n))
   | _,_=>none
  | o=>match Z7 k k' with
   | true=>dC o k m n
   | false=>none
 | .o (.d (.v (.string ⟨⟨a⟩⟩))),.o (.d (.v (.string ⟨⟨b⟩⟩)))=>match o with
  | .add=>some (a.length+b.length≤9223372036854775807,eT (a++b))
  | _=>none
 | _,_=>none
def Zk(off:Nat):E→Option E
 | .o (.d (.p cs))=>some (.o (.ip (cs.drop off)))
 | .o (.ptr id k i j)=>some (.o (.ptr id k i (j+off)))
 | _=>none
def cY(ag:Bool)(n:Nat):E→Option E
 | .o (.d (.p cs))=>match ag,cs with
  | false,c::_=>some (.o (.d c))
  | true,cs=>match Nat.ble n cs.length with
   | true=>some (.a ((cs.take n).map .d))
   | false=>none
  | _,_=>none
 | _=>none
def Zt(ag:Bool)(n j:Nat)(r:List C):Option E:=match ag with
 | false=>(r[j]?).map .o
 | true=>match Nat.ble (j+n) r.length with
  | true=>some (.a ((r.drop j).take n))
  | false=>none
def cV(ag:Bool)(off n:Nat)(cs:List C):Option E:=match ag with
 | false=>(cs[off]?).map .o
 | true=>match Nat.ble (off+n) cs.length with
  | true=>some (.a ((cs.drop off).take n))
  | false=>none
def cW(k:Nat)(n:Int):E→Option E
 | .o (.d (.p cs))=>some (.o (.ip (cs.drop (n.toNat*k))))
 | .o (.ptr id k' i j)=>some (.o (.ptr id k' i (j+n.toNat*k)))
 | _=>none
def cZ(k:Nat):E→Option E
 | .o (.d (.l rows))=>some (eI .i64 rows.length)
 | .o (.arr _ k' _ len)=>match Nat.beq k' k with
  | true=>some (eI .i64 len)
  | false=>none
 | _=>none
def tr:Option E→Option (Prop×E)
 | some e=>some (True,e)
 | none=>none
def ZD:Bool→E→E→Option (Prop×E)
 | true,.o (.d (.p _)),.o (.d (.v (.pointer none)))=>some (True,eB false)
 | true,.o (.d (.v (.pointer none))),.o (.d (.v (.pointer none)))=>some (True,eB true)
 | _,_,_=>none
def aH(pt:Bool)(o:BinOp)(a b:E):Option (Prop×E):=match o with
 | .eql=>ZD pt a b
 | o=>cL o a b
def Zo(i:TI):E→E→Option (Prop×E)
 | .o (.arr id k off len),.o (.d (.v (.int _ m)))=>match i.sl with
  | some (_,k',_)=>match Nat.beq k k' with
   | true=>some (0≤m∧m < len,.o (.ptr id k (off+m.toNat) 0))
   | false=>none
  | none=>none
 | a, .o (.d (.v (.int _ m)))=>match i.ar with
  | some (len,k)=>match cW k m a with
   | some e=>some (0≤m∧m < len,e)
   | none=>none
  | none=>none
 | _,_=>none
def Zv(i:TI):E→Option E
 | .o (.d (.v (.string ⟨⟨s⟩⟩)))=>match i.st with
  | true=>some (eI .i64 s.length)
  | false=>none
 | e=>match i.sl with
  | some (_,k,_)=>cZ k e
  | none=>none
def Zc(k k':IntKind):E→Option (Prop×E)
 | .o (.d (.v (.int k2 m)))=>match Z7 k2 k,UF k' m with
  | true,some q=>some (q,eI k' m)
  | _,_=>none
 | _=>none
def Xa(T:List (Nat×TI))(md:Bool)(f:Env):Op→Option (Prop×E)
 | .assign x=>match md,notNil x with
  | true,false=>none
  | _,_=>tr (ev f x)
 | .binOp o t x y _=>match ev f x,ev f y with
  | some a,some b=>aH (Ii T t).pt o a b
  | _,_=>none
 | .fieldAddr s x k=>match nth (Ii T s).fl k,ev f x with
  | some (some (off,_,_)),some a=>tr (Zk off a)
  | _,_=>none
 | .field t x k=>match nth (Ii T t).fl k,ev f x with
  | some (some (off,ag,n)),some (.a cs)=>tr (cV ag off n cs)
  | _,_=>none
 | .load t x=>match (Ii T t).ld,ev f x with
  | some (ag,n),some a=>tr (cY ag n a)
  | _,_=>none
 | .indexAddr t x y=>match ev f x,ev f y with
  | some a,some b=>Zo (Ii T t) a b
  | _,_=>none
 | .call ⟨.builtin .len,⟨[x]⟩,⟨[t]⟩⟩=>match ev f x with
  | some a=>tr (Zv (Ii T t) a)
  | none=>none
 | .convert s t x=>match (Ii T s).ik,(Ii T t).ik,ev f x with
  | some k,some k',some a=>Zc k k' a
  | _,_,_=>none
 | .makeFunc (.func gg) ⟨[]⟩ caps=>match HM f caps.toList with
  | some es=>match Xv es with
   | some cs=>some (True,.o (.fn gg cs))
   | none=>none
  | none=>none
 | op=>tr (cS f op)
def dD:BinOp→E→E→Option Bool
 | .eql,.o (.d (.v (.bool a))),.o (.d (.v (.bool b)))=>some (a == b)
 | .neq,.o (.d (.v (.bool a))),.o (.d (.v (.bool b)))=>some (a != b)
 | _,_,_=>none
def QE(T:List (Nat×TI))(f:Env):Op→Option Bool
 | .binOp o t x y _=>match ev f x,ev f y with
  | some a,some b=>match (Ii T t).bo with
   | true=>dD o a b
   | false=>Zb o a b
  | _,_=>none
 | .unOp .not _ x=>match ev f x with
  | some (.o (.d (.v (.bool b))))=>some (!b)
  | _=>none
 | _=>none
def KR(T:List (Nat×TI))(σ:Ab)(f:Env):Op→Option E
 | .load t x=>match (Ii T t).ld,ev f x with
  | some (ag,n),some (.o (.ptr id k i j))=>match look σ id with
   | some (.cells _ k' rows)=>match Nat.beq k k',nth rows i with
    | true,some r=>Zt ag n j r
    | _,_=>none
   | _=>none
  | _,_=>none
 | _=>none
def Ot(T:List (Nat×TI))(σ:Ab)(f:Env)(t:Nat)(x y:Operand):Option Ab:=
 match (Ii T t).ld,ev f x,ev f y with
 | some (_,n),some (.o (.ptr id k i j)),some e=>match look σ id with
  | some (.cells ct k' rows)=>match Nat.beq k k',nth rows i with
   | true,some r=>match PN e,Nat.beq (eC e).length n,Nat.ble (j+n) k with
    | true,true,true=>some ((id,.cells ct k (rows.set i (Ag r j (eC e))))::σ)
    | _,_,_=>none
   | _,_=>none
  | _=>none
 | _,_,_=>none
section
variable {P:Program}{TB:Bh}{Γ:Ctx}{d:Option Tmp}{ty:TypeId}{pos:String}{af:Array Edge}{g:Option (Nat×Bool)}{f:Env}{σ:Ab}{nx:Nat}
theorem TE{t:TypeId}{a b:Bool}(he:P.underlying t=some .bool)(w:World):(Op.equal t (.bool a) (.bool b)).run P w=.ok (a == b) w:=by
 unfold Op.equal Op.maxDepth
 rw [show 10000=9999+1 from rfl,Op.equalIn]
 simp [run_underlying he,go_sem]
theorem bz{t yt:TypeId}{x y:Operand}{a b:Bool}[hp:OF P t](hx:ev f x=some (eB a))(hy:ev f y=some (eB b)):A1 P TB Γ ⟨d,.binOp .eql t x y yt,ty,pos,af,g⟩ f σ nx (eB (a == b)):=
 Bz hx hy rfl fun w=>by
  have h6:binOp .eql t (.bool a) (.bool b)=(do pure (.bool (←Op.equal t (.bool a) (.bool b)))):=rfl
  have h7:eqGuard .eql t x y (.bool a) (.bool b)=pure ():=rfl
  rw [h6,h7]
  simp [TE hp.out w,go_sem]
theorem bK{t yt:TypeId}{x y:Operand}{a b:Bool}[hp:OF P t](hx:ev f x=some (eB a))(hy:ev f y=some (eB b)):A1 P TB Γ ⟨d,.binOp .neq t x y yt,ty,pos,af,g⟩ f σ nx (eB (a != b)):=
 Bz hx hy rfl fun w=>by
  have h6:binOp .neq t (.bool a) (.bool b)=(do pure (.bool (!(←Op.equal t (.bool a) (.bool b))))):=rfl
  have h7:eqGuard .neq t x y (.bool a) (.bool b)=pure ():=rfl
  rw [h6,h7]
  simp [TE hp.out w,go_sem,bne]
theorem dS{op:Op}{e:E}(h:cS f op=some e):A1 P TB Γ ⟨d,op,ty,pos,af,g⟩ f σ nx e:=by
 unfold cS at h
 split at h
 ·exact ZP h
 ·split at h
  ·rename_i h1;exact Yt h1 h
  ·rename_i h1;exact Ys h1 h
  ·cases h
 ·split at h
  ·rename_i h1
   refine Uy h1 ?_
   rw [←h]
   congr 1
  ·cases h
 ·split at h
  ·rename_i h1;injection h with h;subst h;exact Yr h1
  ·rename_i h1;injection h with h;subst h;exact ZQ h1
  ·rename_i h1;injection h with h;subst h;exact Yq h1
  ·cases h
 ·cases h
theorem bx{o:BinOp}{t yt:TypeId}{x y:Operand}{ex ey:E}{c:Bool}(hx:ev f x=some ex)(hy:ev f y=some ey)(hc:Zb o ex ey=some c) :
 A1 P TB Γ ⟨d,.binOp o t x y yt,ty,pos,af,g⟩ f σ nx (eB c):=by
 unfold Zb at hc
 split at hc
 ·split at hc
  ·rename_i hk
   have hk:=Mf hk
   subst hk
   unfold aM at hc
   split at hc<;>first|(injection hc with hc;subst hc)|cases hc
   ·exact bJ hx hy
   ·exact bI hx hy
   ·exact bG hx hy
   ·exact bF hx hy
   ·exact bC hx hy
   ·exact bM hx hy
  ·cases hc
 ·unfold aJ at hc
  split at hc<;>first|(injection hc with hc;subst hc)|cases hc
  ·exact bA hx hy
  ·exact bL hx hy
 ·cases hc
theorem Pf{k:IntKind}{m:Int}{q:Prop}(h:UF k m=some q)(hq:q):k.wrap m=m:=by
 unfold UF at h
 split at h<;>first|(injection h with h;subst h)|cases h
 ·exact IntWalk.i64_in _ hq
 ·exact IntWalk.u64_in _ hq
 ·exact IntWalk.u8_in _ hq
 ·exact IntWalk.i32_in _ hq
theorem db{o:BinOp}{t yt:TypeId}{x y:Operand}{ex ey e:E}{q:Prop}(hx:ev f x=some ex)(hy:ev f y=some ey)(hc:cL o ex ey=some (q,e))(hq:q) :
 A1 P TB Γ ⟨d,.binOp o t x y yt,ty,pos,af,g⟩ f σ nx e:=by
 unfold cL at hc
 split at hc
 ·split at hc
  ·injection hc with hc;injection hc with h1 h2;subst h1;subst h2;exact bQ hx hy hq rfl
  ·split at hc
   ·rename_i hk hk'
    have hk:=Mf hk
    have hk':=Mf hk'
    subst hk;subst hk'
    injection hc with hc;injection hc with h1 h2;subst h1;subst h2;exact ZS hx hy hq.1.1 hq.1.2 hq.2
   ·cases hc
  ·split at hc
   ·rename_i hk
    have hk:=Mf hk
    subst hk
    unfold dC at hc
    split at hc
    ·obtain⟨q',hr,he⟩:=Option.map_eq_some_iff.1 hc
     injection he with h1 h2;subst h1;subst h2;exact br hx hy (Pf hr hq)
    ·obtain⟨q',hr,he⟩:=Option.map_eq_some_iff.1 hc
     injection he with h1 h2;subst h1;subst h2;exact bR hx hy (Pf hr hq)
    ·obtain⟨q',hr,he⟩:=Option.map_eq_some_iff.1 hc
     injection he with h1 h2;subst h1;subst h2;exact YV hx hy (Pf hr hq)
    ·injection hc with hc;injection hc with h1 h2;subst h1;subst h2;exact ZT hx hy hq.1 hq.2
    ·injection hc with hc;injection hc with h1 h2;subst h2;exact bt hx hy rfl
    ·injection hc with hc;injection hc with h1 h2;subst h2;exact ZR hx hy rfl
    ·cases hc
   ·cases hc
 ·split at hc
  ·injection hc with hc;injection hc with h1 h2;subst h1;subst h2;exact bu hx hy hq
  ·cases hc
 ·cases hc
theorem bE{s k off:Nat}{x:Operand}{ex e:E}[hf:OG P s k off](hx:ev f x=some ex)(h:Zk off ex=some e):A1 P TB Γ ⟨d,.fieldAddr s x k,ty,pos,af,g⟩ f σ nx e:=by
 unfold Zk at h
 split at h<;>first|(injection h with h;subst h)|cases h
 ·exact Uz hx
 ·exact WN hx
theorem dg{t:TypeId}{x:Operand}{ex e:E}{ag:Bool}{n:Nat}[hl:DJ P t ag n](hx:ev f x=some ex)(h:cY ag n ex=some e):A1 P TB Γ ⟨d,.load t x,ty,pos,af,g⟩ f σ nx e:=by
 unfold cY at h
 split at h
 ·split at h
  ·injection h with h;subst h;exact Qz hx
  ·split at h
   ·rename_i hb;injection h with h;subst h;exact UB hx (Nat.le_of_ble_eq_true hb)
   ·cases h
  ·cases h
 ·cases h
theorem Qy{t:TypeId}{x:Operand}{id k i j:Nat}{T:TypeId}{rows:List (List C)}{r:List C}{e:E}{ag:Bool}{n:Nat}[hl:DJ P t ag n](hx:ev f x=some (.o (.ptr id k i j)))(ho:look σ id=some (.cells T k rows))(hr:rows[i]? = some r)
 (h:Zt ag n j r=some e):A1 P TB Γ ⟨d,.load t x,ty,pos,af,g⟩ f σ nx e:=by
 unfold Zt at h
 split at h
 ·obtain⟨c,hc,he⟩:=Option.map_eq_some_iff.1 h
  subst he
  exact Tv hx ho hr hc
 ·split at h
  ·rename_i hb;injection h with h;subst h;exact WY hx ho hr (Nat.le_of_ble_eq_true hb)
  ·cases h
theorem de{t:TypeId}{x:Operand}{k off n:Nat}{ag:Bool}{cs:List C}{e:E}[hf:Lc P t k off ag n](hx:ev f x=some (.a cs))(h:cV ag off n cs=some e):A1 P TB Γ ⟨d,.field t x k,ty,pos,af,g⟩ f σ nx e:=by
 unfold cV at h
 split at h
 ·obtain⟨c,hc,he⟩:=Option.map_eq_some_iff.1 h
  subst he
  exact Yn hx hc
 ·split at h
  ·rename_i hb;injection h with h;subst h;exact WM hx (Nat.le_of_ble_eq_true hb)
  ·cases h
theorem df{t:TypeId}{x y:Operand}{ex e:E}{n:Int}{len k:Nat}{ik:IntKind}[hl:NG P t len k](hx:ev f x=some ex)(hy:ev f y=some (eI ik n))(h:cW k n ex=some e)(hn:0≤n∧n < len) :
 A1 P TB Γ ⟨d,.indexAddr t x y,ty,pos,af,g⟩ f σ nx e:=by
 unfold cW at h
 split at h<;>first|(injection h with h;subst h)|cases h
 ·exact UA hx hy hn.1 hn.2
 ·exact WS hx hy hn.1 hn.2
theorem bH{t e:TypeId}{x:Operand}{ex r:E}{k b:Nat}[hl:Cb P t e k b](hx:ev f x=some ex)(h:cZ k ex=some r):A1 P TB Γ ⟨d,.call ⟨.builtin .len,#[x],#[t]⟩,ty,pos,af,g⟩ f σ nx r:=by
 unfold cZ at h
 split at h
 ·injection h with h;subst h;exact WW hx
 ·split at h
  ·injection h with h;subst h;exact WV hx
  ·cases h
 ·cases h
theorem KC{x:Option E}{q:Prop}{e:E}(h:tr x=some (q,e)):x=some e:=by
 cases x with
 | none=>cases h
 | some y=>injection h with h;injection h with _ h;rw [h]
theorem Zw{i:TI}{t:TypeId}{x:Operand}{a e:E}(hi:Ec P t i)(hx:ev f x=some a)(h:Zv i a=some e):A1 P TB Γ ⟨d,.call ⟨.builtin .len,#[x],#[t]⟩,ty,pos,af,g⟩ f σ nx e:=by
 unfold Zv at h
 split at h
 ·split at h
  ·rename_i hs
   injection h with h;subst h
   haveI:=hi.VX hs
   exact ZO hx
  ·cases h
 ·split at h
  ·rename_i hs
   haveI:=hi.PY hs
   exact bH hx h
  ·cases h
theorem Zr{i:TI}{t:TypeId}{x y:Operand}{a b e:E}{q:Prop}(hi:Ec P t i)(hx:ev f x=some a)(hy:ev f y=some b)(h:Zo i a b=some (q,e))(hq:q):A1 P TB Γ ⟨d,.indexAddr t x y,ty,pos,af,g⟩ f σ nx e:=by
 unfold Zo at h
 split at h
 ·split at h
  ·rename_i hs
   split at h
   ·rename_i hk
    injection h with h;injection h with h1 h2;subst h1;subst h2
    have:=Nat.eq_of_beq_eq_true hk
    subst this
    haveI:=hi.PY hs
    exact WO hx hy hq.1 hq.2
   ·cases h
  ·cases h
 ·split at h
  ·rename_i hs
   split at h
   ·rename_i hv
    injection h with h;injection h with h1 h2;subst h1;subst h2
    haveI:=hi.aW hs
    exact df hx hy hv hq
   ·cases h
  ·cases h
 ·cases h
theorem ZE{i:TI}{t yt:TypeId}{x y:Operand}{a b e:E}{q:Prop}(hi:Ec P t i)(hx:ev f x=some a)(hy:ev f y=some b)(h:ZD i.pt a b=some (q,e)):A1 P TB Γ ⟨d,.binOp .eql t x y yt,ty,pos,af,g⟩ f σ nx e:=by
 unfold ZD at h
 split at h
 ·rename_i hp
  injection h with h;injection h with h1 h2;subst h2
  haveI:=hi.VW hp
  exact Ux hx hy
 ·rename_i hp
  injection h with h;injection h with h1 h2;subst h2
  haveI:=hi.VW hp
  exact RT hx hy
 ·cases h
theorem Zd{i i':TI}{s t:TypeId}{k k':IntKind}{x:Operand}{a e:E}{q:Prop}(hi:Ec P s i)(hi':Ec P t i')(hk:i.ik=some k)(hk':i'.ik=some k')(hx:ev f x=some a)(h:Zc k k' a=some (q,e))(hq:q):A1 P TB Γ ⟨d,.convert s t x,ty,pos,af,g⟩ f σ nx e:=by
 unfold Zc at h
 split at h
 ·split at h
  ·rename_i h1 hr
   injection h with h;injection h with h2 h3;subst h2;subst h3
   have h1:=Mf h1
   subst h1
   haveI:=hi.VV hk
   haveI:=hi'.VV hk'
   exact Pb hx (Pf hr hq)
  ·cases h
 ·cases h
theorem TA[hT:CN P]{md:Bool}{op:Op}{q:Prop}{e:E}(h:Xa hT.T md f op=some (q,e))(hq:q):A1 P TB Γ ⟨d,op,ty,pos,af,g⟩ f σ nx e:=by
 have hty:=fun t=>Ds (P:=P) t hT.ok
 unfold Xa at h
 split at h
 ·split at h
  ·cases h
  ·exact DA (KC h)
 ·rename_i o t x y yt
  split at h
  ·rename_i hx hy
   unfold aH at h
   split at h
   ·exact ZE (hty t) hx hy h
   ·exact db hx hy h hq
  ·cases h
 ·rename_i s x k
  split at h
  ·rename_i hf hx
   haveI:=(hty s).Zn hf
   exact bE hx (KC h)
  ·cases h
 ·rename_i t x k
  split at h
  ·rename_i hf hx
   haveI:=(hty t).XV hf
   exact de hx (KC h)
  ·cases h
 ·rename_i t x
  split at h
  ·rename_i hl hx
   haveI:=(hty t).KK hl
   exact dg hx (KC h)
  ·cases h
 ·rename_i t x y
  split at h
  ·rename_i hx hy
   exact Zr (hty t) hx hy h hq
  ·cases h
 ·rename_i x t
  split at h
  ·rename_i hx
   exact Zw (hty t) hx (KC h)
  ·cases h
 ·rename_i s t x
  split at h
  ·rename_i h1 h2 hx
   exact Zd (hty s) (hty t) h1 h2 hx h hq
  ·cases h
 ·split at h
  ·rename_i h1
   split at h
   ·rename_i h2
    injection h with h;injection h with _ h;subst h
    exact dc h1 h2
   ·cases h
  ·cases h
 ·exact dS (KC h)
theorem QF[hT:CN P]{op:Op}{c:Bool}(h:QE hT.T f op=some c):A1 P TB Γ ⟨d,op,ty,pos,af,g⟩ f σ nx (eB c):=by
 have hty:=fun t=>Ds (P:=P) t hT.ok
 unfold QE at h
 split at h
 ·rename_i o t x y yt
  split at h
  ·rename_i hx hy
   split at h
   ·rename_i hb
    haveI:=(hty t).XU hb
    unfold dD at h
    split at h
    ·injection h with h;subst h;exact bz hx hy
    ·injection h with h;subst h;exact bK hx hy
    ·cases h
   ·exact bx hx hy h
  ·cases h
 ·split at h
  ·rename_i hx
   injection h with h;subst h
   exact bN hx
  ·cases h
 ·cases h
theorem MG[hT:CN P]{op:Op}{e:E}(h:KR hT.T σ f op=some e):A1 P TB Γ ⟨d,op,ty,pos,af,g⟩ f σ nx e:=by
 have hty:=fun t=>Ds (P:=P) t hT.ok
 unfold KR at h
 split at h
 ·rename_i t x
  split at h
  ·rename_i hl hx
   split at h
   ·rename_i ho
    split at h
    ·rename_i hk hr
     have hk:=Nat.eq_of_beq_eq_true hk
     subst hk
     haveI:=(hty t).KK hl
     rw [Lo] at hr
     exact Qy hx ho hr h
    ·cases h
   ·cases h
  ·cases h
 ·cases h
theorem MH[hT:CN P]{t:TypeId}{x y:Operand}{σ':Ab}{K:E→Ab→Nat→Prop}(h:Ot hT.T σ f t x y=some σ')(hK:K (.t []) σ' nx):BZ P TB Γ ⟨d,.store t x y,ty,pos,af,g⟩ f σ nx K:=by
 have hty:=fun t=>Ds (P:=P) t hT.ok
 unfold Ot at h
 split at h
 ·rename_i hl hx hy
  split at h
  ·rename_i ho
   split at h
   ·rename_i hk hr
    split at h
    ·rename_i h1 h2 h3
     have hk:=Nat.eq_of_beq_eq_true hk
     subst hk
     haveI:=(hty t).KK hl
     rw [Lo] at hr
     injection h with h
     subst h
     exact Di hx hy h1 ho hr (Nat.eq_of_beq_eq_true h2) (Nat.le_of_ble_eq_true h3) hK
    ·cases h
   ·cases h
  ·cases h
 ·cases h
end
section
variable {P:Program}{TB:Bh}{Γ:Ctx}{ops:Array Oper}{fl:Fl}{i n:Nat}{L:List (Nat×E)}{σ:Ab}{nx:Nat}{K:Env→Ab→Nat→Prop}{d:Tmp}{ty:TypeId}{pos:String}{af:Array Edge}{g:Option (Nat×Bool)}{op:Op}
theorem gA{d:Option Tmp}(hg:Br ops ⟨d,op,ty,pos,af,g⟩ (look L)=some true)(h:E1 P TB Γ ops ⟨d,op,ty,pos,af,g⟩ fl i n K L σ nx):Bj P TB Γ ops ⟨d,op,ty,pos,af,g⟩ fl i n K L σ nx:=h hg
theorem gS{x:E}(hq:∀σ nx,A1 P TB Γ ⟨some d,op,ty,pos,af,g⟩ (look L) σ nx x)(h:Lex P TB Γ ops (Al fl (i+1) n) K (look ((d,x)::L)) σ nx):E1 P TB Γ ops ⟨some d,op,ty,pos,af,g⟩ fl i n K L σ nx:=fun hg=>Ci hq hg h
theorem gQ{x:E}(hq:A1 P TB Γ ⟨some d,op,ty,pos,af,g⟩ (look L) σ nx x)(hf:OM (fl i)=true)(h:Lex P TB Γ ops (Al fl (i+1) n) K (look ((d,x)::L)) σ nx):E1 P TB Γ ops ⟨some d,op,ty,pos,af,g⟩ fl i n K L σ nx:=fun hg=>Ym hq hg hf h
theorem gB{c:Bool}(hq:∀σ nx,A1 P TB Γ ⟨some d,op,ty,pos,af,g⟩ (look L) σ nx (eB c))(h:∀b,c=b→Lex P TB Γ ops (Al fl (i+1) n) K (look ((d,eB b)::L)) σ nx):E1 P TB Γ ops ⟨some d,op,ty,pos,af,g⟩ fl i n K L σ nx:=fun hg=>Uw hq hg h
theorem dF{c:Bool}(hq:A1 P TB Γ ⟨some d,op,ty,pos,af,g⟩ (look L) σ nx (eB c))(hf:OM (fl i)=true)(h:∀b,c=b→Lex P TB Γ ops (Al fl (i+1) n) K (look ((d,eB b)::L)) σ nx):E1 P TB Γ ops ⟨some d,op,ty,pos,af,g⟩ fl i n K L σ nx:=fun hg=>Ym hq hg hf (h c rfl)
theorem gW(h:BZ P TB Γ ⟨some d,op,ty,pos,af,g⟩ (look L) σ nx (fun x σ' nx'=>Lex P TB Γ ops (Al fl (i+1) n) K (look ((d,x)::L)) σ' nx'))(hf:fl i=1):E1 P TB Γ ops ⟨some d,op,ty,pos,af,g⟩ fl i n K L σ nx:=fun hg=>Ih h hg hf
theorem dG(h:BZ P TB Γ ⟨none,op,ty,pos,af,g⟩ (look L) σ nx (fun _ σ' nx'=>Lex P TB Γ ops (Al fl (i+1) n) K (look L) σ' nx'))(hf:fl i=1):E1 P TB Γ ops ⟨none,op,ty,pos,af,g⟩ fl i n K L σ nx:=fun hg=>Gm h hg hf
theorem yQ{md:Bool}[hT:CN P]{q:Prop}{x:E}(h:Xa hT.T md (look L) op=some (q,x))(hq:q)(hk:Lex P TB Γ ops (Al fl (i+1) n) K (look ((d,x)::L)) σ nx):E1 P TB Γ ops ⟨some d,op,ty,pos,af,g⟩ fl i n K L σ nx:=gS (fun _ _=>TA h hq) hk
theorem yB[hT:CN P]{c:Bool}(h:QE hT.T (look L) op=some c)(hk:∀b,c=b→Lex P TB Γ ops (Al fl (i+1) n) K (look ((d,eB b)::L)) σ nx):E1 P TB Γ ops ⟨some d,op,ty,pos,af,g⟩ fl i n K L σ nx:=gB (fun _ _=>QF h) hk
theorem yS[hT:CN P]{x:E}(h:KR hT.T σ (look L) op=some x)(hf:OM (fl i)=true)(hk:Lex P TB Γ ops (Al fl (i+1) n) K (look ((d,x)::L)) σ nx):E1 P TB Γ ops ⟨some d,op,ty,pos,af,g⟩ fl i n K L σ nx:=gQ (MG h) hf hk
theorem yW[hT:CN P]{t:TypeId}{x y:Operand}{σ':Ab}(h:Ot hT.T σ (look L) t x y=some σ')(hf:fl i=1)(hk:Lex P TB Γ ops (Al fl (i+1) n) K (look L) σ' nx):E1 P TB Γ ops ⟨none,.store t x y,ty,pos,af,g⟩ fl i n K L σ nx:=dG (MH h hk) hf
theorem yO[hT:CN P]{T:TypeId}{z:List Value}(h:(Ii hT.T T).ze=some z)(hok:z.all Ng=true)(hf:fl i=1)(hK:Lex P TB Γ ops (Al fl (i+1) n) K (look ((d,.o (.ptr nx z.length 0 0))::L)) ((nx,.cells T z.length [z.map zC])::σ) (nx+1)):E1 P TB Γ ops ⟨some d,.alloc T,ty,pos,af,g⟩ fl i n K L σ nx:=
 haveI:=(Ds (P:=P) T hT.ok).VY h
 gW (Ya hok hK) hf
theorem yM[hT:CN P]{t:TypeId}{x:Operand}{id k i' j:Nat}{T:TypeId}{rows:List (List C)}{r:List C}{e:E}{ag:Bool}{m:Nat}(hx:ev (look L) x=some (.o (.ptr id k i' j)))(ho:look σ id=some (.cells T k rows))(hr:rows[i']? = some r)(hl:(Ii hT.T t).ld=some (ag,m))
 (h:Zt ag m j r=some e) (hf:OM (fl i)=true) (hk:Lex P TB Γ ops (Al fl (i+1) n) K (look ((d,e)::L)) σ nx):E1 P TB Γ ops ⟨some d,.load t x,ty,pos,af,g⟩ fl i n K L σ nx:=
 haveI:=(Ds (P:=P) t hT.ok).KK hl
 gQ (Qy hx ho hr h) hf hk
theorem yV[hT:CN P]{t:TypeId}{x y:Operand}{id k i' j m:Nat}{T:TypeId}{rows:List (List C)}{r:List C}{e:E}{ag:Bool}(hx:ev (look L) x=some (.o (.ptr id k i' j)))(hy:ev (look L) y=some e)(ho:PN e=true)(hlk:look σ id=some (.cells T k rows))(hr:rows[i']? = some r)
 (hl:(Ii hT.T t).ld=some (ag,m)) (hn:(eC e).length=m) (hj:Nat.ble (j+m) k=true) (hf:fl i=1) (hk:Lex P TB Γ ops (Al fl (i+1) n) K (look L) ((id,.cells T k (rows.set i' (Ag r j (eC e))))::σ) nx):E1 P TB Γ ops ⟨none,.store t x y,ty,pos,af,g⟩ fl i n K L σ nx:=
 haveI:=(Ds (P:=P) t hT.ok).KK hl
 dG (Di hx hy ho hlk hr hn (Nat.le_of_ble_eq_true hj) hk) hf
theorem dU[hT:CN P]{α:Type}{t e:TypeId}{x:Operand}{l:List α}{g1:α→List D}{k b:Nat}(hx:ev (look L) x=some (.o (.d (.l (l.map g1)))))(hl:(Ii hT.T t).sl=some (e,k,b))(hk:Lex P TB Γ ops (Al fl (i+1) n) K (look ((d,eI .i64 l.length)::L)) σ nx):E1 P TB Γ ops ⟨some d,.call ⟨.builtin .len,#[x],#[t]⟩,ty,pos,af,g⟩ fl i n K L σ nx:=
 haveI:=(Ds (P:=P) t hT.ok).PY hl
 gS (fun _ _=>ZM hx) hk
theorem yL[hT:CN P]{t e:TypeId}{x y:Operand}{rows:List (List D)}{row:List D}{m:Int}{k b:Nat}{ik:IntKind}(hx:ev (look L) x=some (.o (.d (.l rows))))(hy:ev (look L) y=some (eI ik m))(hr:rows[m.toNat]? = some row)(hl:(Ii hT.T t).sl=some (e,k,b))(hn:row.length=k)(h0:0≤m)
 (hk:Lex P TB Γ ops (Al fl (i+1) n) K (look ((d,.o (.ip row))::L)) σ nx):E1 P TB Γ ops ⟨some d,.indexAddr t x y,ty,pos,af,g⟩ fl i n K L σ nx:=
 haveI:=(Ds (P:=P) t hT.ok).PY hl
 gS (fun _ _=>WR hx hy h0 hr hn) hk
theorem yT[hT:CN P]{t:TypeId}{x y:Operand}{s:List UInt8}{m:Int}{c:UInt8}{ik:IntKind}(hx:ev (look L) x=some (eT s))(hy:ev (look L) y=some (eI ik m))(hc:s[m.toNat]? = some c)(hl:(Ii hT.T t).st=true)(h0:0≤m)
 (hk:Lex P TB Γ ops (Al fl (i+1) n) K (look ((d,eI .u8 (c.toNat:Int))::L)) σ nx):E1 P TB Γ ops ⟨some d,.index t x y,ty,pos,af,g⟩ fl i n K L σ nx:=
 haveI:=(Ds (P:=P) t hT.ok).VX hl
 gS (fun _ _=>WU hx hy h0 hc) hk
def dj(k m:Nat)(z:List Value)(es:List E):Option (List (List D)):=match es.all PN,Na es with
 | true,some rows=>match rows.all fun r=>Nat.beq r.length k,Nat.beq z.length k,z.all Ng,Nat.ble 1 k,Nat.ble (m*k) 16777216 with
  | true,true,true,true,true=>some rows
  | _,_,_,_,_=>none
 | _,_=>none
theorem yZ[hT:CN P]{t e:TypeId}{k b m:Nat}{z:List Value}{parts:Array (Nat×Operand)}{es:List E}{rows:List (List D)}(hl:(Ii hT.T t).sl=some (e,k,b))(hz:(Ii hT.T e).ze=some z)(hp:C4 0 (parts.toList.map (·.2))=parts.toList)(hn:parts.toList.length=m)
 (hes:HM (look L) (parts.toList.map (·.2))=some es) (hv:dj k m z es=some rows)
 (h:Lex P TB Γ ops (Al fl (i+1) n) K (look ((d,.o (.d (.l rows)))::L)) σ nx):E1 P TB Γ ops ⟨some d,.buildSlice t m parts,ty,pos,af,g⟩ fl i n K L σ nx:=by
 haveI:=(Ds (P:=P) t hT.ok).PY hl
 haveI:=(Ds (P:=P) e hT.ok).VY hz
 unfold dj at hv
 split at hv
 ·rename_i h1 h2
  split at hv
  ·rename_i h3 h4 h5 h6 h7
   injection hv with hv
   subst hv
   exact gS (fun _ _=>Hw hp hn hes h1 h2 h3 (Nat.eq_of_beq_eq_true h4) h5 h6 h7) h
  ·cases hv
 ·cases hv
theorem yY{T:TypeId}{x:Operand}{e:E}{ds:List D}(hx:ev (look L) x=some e)(ho:PN e=true)(hd:NF (eC e)=some ds)(h:Lex P TB Γ ops (Al fl (i+1) n) K (look ((d,.o (.ip ds))::L)) σ nx):E1 P TB Γ ops ⟨some d,.box T x,ty,pos,af,g⟩ fl i n K L σ nx:=gS (fun _ _=>C0 hx ho hd) h
def Ye:Nat→List (Nat×Operand)→Bool
 | _,[]=>true
 | k,(i,_)::r=>Nat.beq i k && Ye (k+1) r
theorem Tl:∀(l:List (Nat×Operand)) (k:Nat),Ye k l=true→C4 k (l.map (·.2))=l
 | [],_,_=>rfl
 | (i,x)::r,k,h=>by
  unfold Ye at h
  rw [Bool.and_eq_true] at h
  have h1:=Nat.eq_of_beq_eq_true h.1
  subst h1
  have:=Tl r (i+1) h.2
  simp [C4,this]
def Yg(c:Nat):Option E→Bool
 | some (.o (.ptr id _ _ _))=>OM c || (Nat.beq c (10+id) && !Nat.ble 1000 c)
 | _=>OM c
theorem Xb{T:List (Nat×TI)}{σ σ':Ab}{f:Env}{t:TypeId}{x:Operand}{id k i j:Nat}(hx:ev f x=some (.o (.ptr id k i j)))(h:look σ' id=look σ id):KR T σ' f (.load t x)=KR T σ f (.load t x):=by
 unfold KR
 simp only [hx]
 cases (Ii T t).ld with
 | none=>rfl
 | some p=>obtain⟨ag,n⟩:=p;simp only [h]
def Tz(T:List (Nat×TI))(sl:Bool)(c nx:Nat)(σ:Ab)(L:List (Nat×E)):Option Tmp→Op→Option (List (Nat×E)×Ab×Nat)
 | some d,.alloc t=>match Nat.beq c 1,(Ii T t).ze with
  | true,some z=>match z.all Ng with
   | true=>some ((d,.o (.ptr nx z.length 0 0))::L,(nx,.cells t z.length [z.map zC])::σ,nx+1)
   | false=>none
  | _,_=>none
 | none,.store t x y=>match Nat.beq c 1,Ot T σ (look L) t x y with
  | true,some σ'=>some (L,σ',nx)
  | _,_=>none
 | some d,.load t x=>match Yg c (ev (look L) x),KR T σ (look L) (.load t x) with
  | true,some e=>some ((d,e)::L,σ,nx)
  | _,_=>none
 | some d,.box _ x=>match sl,ev (look L) x with
  | true,some e=>match PN e,NF (eC e) with
   | true,some ds=>some ((d,.o (.ip ds))::L,σ,nx)
   | _,_=>none
  | _,_=>none
 | some d,.buildSlice t m parts=>match sl,(Ii T t).sl with
  | true,some (e,k,_)=>match (Ii T e).ze,HM (look L) (parts.toList.map (·.2)) with
   | some z,some es=>match dj k m z es,Ye 0 parts.toList,Nat.beq parts.toList.length m with
    | some rows,true,true=>some ((d,.o (.d (.l rows)))::L,σ,nx)
    | _,_,_=>none
   | _,_=>none
  | _,_=>none
 | _,_=>none
theorem yU[hT:CN P]{sl:Bool}{d:Option Tmp}{L':List (Nat×E)}{σ':Ab}{nx':Nat}(h:Tz hT.T sl (fl i) nx σ L d op=some (L',σ',nx'))(hk:Lex P TB Γ ops (Al fl (i+1) n) K (look L') σ' nx'):E1 P TB Γ ops ⟨d,op,ty,pos,af,g⟩ fl i n K L σ nx:=by
 unfold Tz at h
 split at h
 ·split at h
  ·rename_i h1 h2
   split at h
   ·rename_i h3
    injection h with h;injection h with e1 h;injection h with e2 e3;subst e1;subst e2;subst e3
    exact yO h2 h3 (Nat.eq_of_beq_eq_true h1) hk
   ·cases h
  ·cases h
 ·split at h
  ·rename_i h1 h2
   injection h with h;injection h with e1 h;injection h with e2 e3;subst e1;subst e2;subst e3
   exact yW h2 (Nat.eq_of_beq_eq_true h1) hk
  ·cases h
 ·split at h
  ·rename_i h1 h2
   injection h with h;injection h with e1 h;injection h with e2 e3;subst e1;subst e2;subst e3
   unfold Yg at h1
   split at h1
   ·rename_i hx
    rw [Bool.or_eq_true] at h1
    rcases h1 with h1|h1
    ·exact yS h2 h1 hk
    ·rw [Bool.and_eq_true] at h1
     have h3:=Nat.eq_of_beq_eq_true h1.1
     refine fun hg=>bp (fun σ' nx' hs=>MG (by rw [h3,Nat.add_sub_cancel_left] at hs;rw [Xb (σ:=σ) (σ':=σ') hx hs];exact h2)) hg ⟨Nat.ble_eq_true_of_le (by omega),by simpa using h1.2⟩ hk
   ·exact yS h2 h1 hk
  ·cases h
 ·split at h
  ·rename_i h1
   split at h
   ·rename_i h2 h3
    injection h with h;injection h with e1 h;injection h with e2 e3;subst e1;subst e2;subst e3
    exact yY h1 h2 h3 hk
   ·cases h
  ·cases h
 ·split at h
  ·rename_i h1
   split at h
   ·rename_i h2 h3
    split at h
    ·rename_i h4 h5 h6
     injection h with h;injection h with e1 h;injection h with e2 e3;subst e1;subst e2;subst e3
     exact yZ h1 h2 (Tl _ _ h5) (Nat.eq_of_beq_eq_true h6) h3 h4 hk
    ·cases h
   ·cases h
  ·cases h
 ·cases h
theorem yP{x:Operand}{args:Array Operand}{tys:Array TypeId}{gg:FuncId}{cap:List C}{es:List E}{r:E}(hx:ev (look L) x=some (.o (.fn gg cap)))(hes:HM (look L) args.toList=some es)(hp:(es.all E.AS && C.Be cap)=true)
 (hs:Pure P TB gg (es++cap.map .o) r) (hr:r.AS=true) (h:Lex P TB Γ ops (Al fl (i+1) n) K (look ((d,r)::L)) σ nx):E1 P TB Γ ops ⟨some d,.call ⟨.value x,args,tys⟩,ty,pos,af,g⟩ fl i n K L σ nx:=gS (fun _ _=>AJ hx hes hp hs hr) h
theorem yC{x:Operand}{args:Array Operand}{tys:Array TypeId}{gg:FuncId}{cap:List C}{es:List E}{c:Bool}(hx:ev (look L) x=some (.o (.fn gg cap)))(hes:HM (look L) args.toList=some es)(hp:(es.all E.AS && C.Be cap)=true)
 (hs:Pure P TB gg (es++cap.map .o) (eB c)) (h:∀b,c=b→Lex P TB Γ ops (Al fl (i+1) n) K (look ((d,eB b)::L)) σ nx):E1 P TB Γ ops ⟨some d,.call ⟨.value x,args,tys⟩,ty,pos,af,g⟩ fl i n K L σ nx:=gB (fun _ _=>AJ hx hes hp hs rfl) h
end
end Go.Am
namespace Go.Am
open Go Go.ChangeShapes Go.WideShapes Go.RowKit
def below(w:World)(b:Nat):Prop:=b < w.heap.size
def Rd{α:Type}(P:Program)(w:World)(t:TypeId)(k:Nat)(f:α→List D):Prop:=
 ∀ {H:Type} (enc:TypeId×Value→H) (fuel:Nat) (cs:List Value) (x:DataW H×List MemPlace),DataW.trod enc P w 0 (fun _=>true) true fuel t cs=some x→
  ∃y:α,cs.length=k∧(f y).length=k∧∀(j:Nat) c d,cs[j]? = some c→(f y)[j]? = some d→C7 (below w) w d c
section
variable {P:Program}{w:World}{t e:TypeId}{k:Nat}
theorem Jy{c0:Value}{d0:D}(h:C7 (below w) w d0 c0):∀(j:Nat) c d,[c0][j]? = some c→[d0][j]? = some d→C7 (below w) w d c:=by
 intro j c d hc hd
 match j with
 | 0=>simp at hc hd;subst hc;subst hd;exact h
 | j+1=>simp at hc
theorem dK(ht:P.underlying t=some (.int .u8)):Rd P w t 1 (fun n:UInt8=>[.v (.int .u8 n.toNat)]):=fun enc fuel cs x hx=>by
 obtain⟨n,rfl,_,hw⟩:=DataW.trod_int ht hx
 have hb:=bounds_u8 hw
 refine⟨UInt8.ofNat n.toNat,rfl,rfl,Jy ?_⟩
 have:((UInt8.ofNat n.toNat).toNat:Int)=n:=by
  simp
  omega
 rw [this]
 exact .v rfl
theorem NR{a:Addr}{n:Nat}{cs:List Value}(h:w.cells? 0 a n=some cs):cs.length=n∧∀(j:Nat) c,cs[j]? = some c→w.cell? (a.add j)=some c:=by
 unfold World.cells? at h
 rw [if_pos (Nat.zero_le _)] at h
 have hl:=mapM_some_length h
 simp at hl
 refine⟨hl,fun j c hc=>?_⟩
 have hlt:=(List.getElem?_eq_some_iff.1 hc).1
 have:=mapM_some_get h j j (by rw [List.getElem?_range (by omega)])
 rw [this];exact hc
theorem bT{α:Type}{f:α→List D}(ht:P.underlying t=some (.slice e))(hk:P.cellsOf e=k)(h0:0 < k)(hf:Rd P w e k f):Rd P w t 1 (fun l:List α=>[.l (l.map f)]):=fun enc fuel cs x hx=>by
 rcases DataW.trod_slice ht hx with ⟨rfl,_⟩|⟨a,len,cap,elems,rest,n,rfl,rfl,_,_,hlc,hcm,hel,hget,_,_⟩
 ·exact⟨[],rfl,rfl,Jy .nil⟩
 ·rw [hk] at hget
  rcases Nat.eq_zero_or_pos len with hl0|hl0
  ·subst hl0
   exact⟨[],rfl,rfl,Jy (.e hcm)⟩
  have key:∀i,i < len→∃(y:α) (cs:List Value),w.cells? 0 (a.add (i*k)) k=some cs∧cs.length=k∧(f y).length=k∧∀(j:Nat) c d,cs[j]? = some c→(f y)[j]? = some d→C7 (below w) w d c:=by
   intro i hi
   have h1:=hget i hi
   have hie:i < elems.length:=by omega
   rw [List.getElem?_eq_getElem hie] at h1
   simp only [Option.bind_eq_some_iff] at h1
   obtain⟨cs,h2,h3⟩:=h1
   obtain⟨y,h4,h5,h6⟩:=hf enc n cs _ h3
   exact⟨y,cs,h2,h4,h5,h6⟩
  obtain⟨b,o,rfl,hb⟩:∃b o,a=⟨b,o,none⟩∧b < w.heap.size:=by
   obtain⟨y,cs,h2,h4,_,_⟩:=key 0 hl0
   have h7:=(NR h2).2 0 (cs[0]'(by omega)) (by simp)
   rw [Nat.zero_mul] at h7
   have h8:∀a:Addr,a.add 0=a:=fun a=>by simp [Addr.add]
   rw [h8,h8] at h7
   unfold World.cell? at h7
   obtain⟨b,o,sp⟩:=a
   split at h7
   ·rename_i c _ _ hh
    split at h7
    ·cases h7
    ·rename_i hs
     cases sp with
     | none=>exact⟨b,o,rfl,(Array.getElem?_eq_some_iff.1 hh).1⟩
     | some s=>simp at hs
   ·cases h7
  have hlist:∀m,m≤len→∃l:List α,l.length=m∧∀(i:Nat) y,l[i]? = some y→(f y).length=k∧∀(j:Nat) d,(f y)[j]? = some d→∃c,w.cell? ⟨b,o+i*k+j,none⟩=some c∧C7 (below w) w d c:=by
   intro m
   induction m with
   | zero=>intro _;exact⟨[],rfl,fun i y h=>by simp at h⟩
   | succ m ih=>
    intro hm
    obtain⟨l,hl,hall⟩:=ih (by omega)
    obtain⟨y,cs,h2,h4,h5,h6⟩:=key m (by omega)
    refine⟨l++[y],by simp [hl],fun i z hz=>?_⟩
    by_cases hi:i < l.length
    ·rw [List.getElem?_append_left hi] at hz;exact hall i z hz
    ·rw [List.getElem?_append_right (by omega)] at hz
     have hi0:i=m:=by
      have:=(List.getElem?_eq_some_iff.1 hz).1
      simp at this;omega
     subst hi0
     rw [hl,Nat.sub_self] at hz
     simp at hz
     subst hz
     refine⟨h5,fun j d hj=>?_⟩
     have hjl:j < cs.length:=by rw [h4,←h5];exact(List.getElem?_eq_some_iff.1 hj).1
     have h7:=(NR h2).2 j cs[j] (List.getElem?_eq_getElem hjl)
     rw [Bx,Bx] at h7
     exact⟨cs[j],h7,h6 j _ d (List.getElem?_eq_getElem hjl) hj⟩
  obtain⟨l,hl,hall⟩:=hlist len (Nat.le_refl _)
  refine⟨l,rfl,rfl,Jy ?_⟩
  have hll:(l.map f).length=len:=by simp [hl]
  rw [←hll]
  refine .l (b:=b) (o:=o) (k:=k) (vs:=fun i j=>(w.cell? ⟨b,o+i*k+j,none⟩).getD undef) hb (by simpa [hl] using hlc) hcm (fun i r hr=>?_) (fun i r j d hr hd=>?_) (fun i r j d hr hd=>?_)
  all_goals
   rw [List.getElem?_map,Option.map_eq_some_iff] at hr
   obtain⟨y,hy,rfl⟩:=hr
  ·exact(hall i y hy).1
  ·obtain⟨c,h1,_⟩:=(hall i y hy).2 j d hd
   rw [h1];rfl
  ·obtain⟨c,h1,h2⟩:=(hall i y hy).2 j d hd
   rw [h1];exact h2
end
def SD(w:World):View:=⟨below w,id,fun _=>0,fun _=>True,0,w⟩
section
variable {P:Program}{w:World}{t:TypeId}{k:Nat}{H:Type}{enc:TypeId×Value→H}
theorem aD{α:Type}{f:α→List D}{e:TypeId}(ht:P.underlying t=some (.slice e))(h:Rd P w t 1 (fun l:List α=>[.l (l.map f)])){v:Value}{d:DataW H}{ps:List MemPlace}{base:Nat}(hv:Value.okWide P w .any base t v)(hd:DataW.Trod enc P w 0 (fun _=>true) true t v d ps) :
 ∃l:List α,Bc (SD w) (.o (.d (.l (l.map f)))) v:=by
 obtain⟨m,hm⟩:=hd
 obtain⟨l,h1,h2,h3⟩:=h enc m _ _ hm
 refine⟨l,?_⟩
 have:v.cells.toList=[v]:=by
  unfold Value.okWide Cell.okWide Cell.ok at hv
  simp only [ht] at hv
  split at hv<;>simp_all [Value.cells]
 rw [this] at h3
 exact .d (h3 0 v _ rfl rfl)
structure Gw (W W':World):Prop where
 os:W'.os=W.os
 output:W'.output=W.output
 size:W.heap.size≤W'.heap.size
 old:∀b,b < W.heap.size→W'.heap[b]? = W.heap[b]?
theorem Gw.sameAt{W W':World}(h:Gw W W'){p:MemPlace}(hp:p.block < W.heap.size):W.sameAt W' p:=by
 cases p with
 | cell b off=>show W'.cell? _=W.cell? _;simp only [World.cell?,h.old b hp]
 | map b=>exact h.old b hp
theorem Gw.kept{W W':World}(h:Gw W W')(may:MemPlace→Prop):W.keptBut W' may:=by
 refine⟨h.os,h.output,fun i hi=>?_⟩
 rw [h.old i hi]
 split
 ·rename_i h1 h2
  rw [h1] at h2
  injection h2 with h2;injection h2 with h3 h4 h5
  exact⟨h4.symm,h5.symm,by rw [h3],fun j _=>by rw [h3]⟩
 ·rename_i h1 h2
  rw [h1] at h2
  injection h2 with h2;injection h2 with h3 h4
  exact .inr ⟨h3.symm,h4.symm⟩
 ·rfl
theorem JN{W W':World}(hl:laidOutB P=true)(h:Gw W W'){sp:Nat→Bool}:∀ {ts:List TypeId} {vs:List Value} {ds:List (DataW H)} {ps:List MemPlace},(ts.all fun t=>P.readableRec t && decide (t < P.types.size))=true→
 DataW.TrodAll enc P W 0 (fun _=>true) true ts vs ds ps→(∀p∈ps,p.block < W.heap.size)→(∀p∈ps,sp p.block=true)→DataW.TrodAll enc P W' 0 sp true ts vs ds ps
 | [],vs,ds,ps,_,h1,_,_=>by obtain⟨rfl,rfl,rfl⟩:=trodAll_nil h1;exact rfl
 | t::ts,vs,ds,ps,ha,h1,h2,h3=>by
  obtain⟨v,vs',d,ds',p,q,rfl,rfl,rfl,h4,h5⟩:=trodAll_cons h1
  simp only [List.all_cons,Bool.and_eq_true,decide_eq_true_eq] at ha
  refine⟨p,q,Go.WideElems.Trod_stays hl ha.1.1 ha.1.2 h4 (fun x hx=>h.sameAt (h2 x (List.mem_append_left _ hx))) (fun x hx=>h3 x (List.mem_append_left _ hx)),JN hl h (by simpa using ha.2) h5 (fun x hx=>h2 x (List.mem_append_right _ hx)) (fun x hx=>h3 x (List.mem_append_right _ hx)),rfl⟩
theorem ab{f:Func}{s:ChangeSpec}{again:Bool}{W W':World}{args:Array Value}{ds gs:List (DataW H)}{before:List MemPlace}{tb:TypeId}(hl:laidOutB P=true)(hts:(f.params.toList.all fun t=>P.readableRec t && decide (t < P.types.size))=true)
 (hW:DataW.Whole enc P f.params.toList s.vars false W args.toList ds gs before) (hs:Gw W W') (hv:s.vars=[]) (hr:f.resultTypes = #[tb]) (htb:P.underlying tb=some .bool) (hone:(Value.bool true).resultList 1=[.bool true])
 (hfn:s.fn H (ds++gs) = { results:=[.lit (.bool true)],args:=ds }):s.post enc P f false true false again W args (.bool true) W':=by
 have hlt:=hW.lt
 have hW':=hW
 obtain⟨p,q,hA,hV,he,hz,hn⟩:=hW
 rw [hv] at hV
 obtain⟨rfl,rfl⟩:=trodVars_none hV
 rw [List.append_nil] at he
 subst he
 have hres:∀(b:Nat) (sp:Nat→Bool) (hd:Bool),DataW.TrodAll enc P W' b sp hd f.resultTypes.toList ((Value.bool true).resultList f.resultTypes.size) (s.fn H (ds++[])).results []:=fun b sp hd=>by
  rw [hr,hfn]
  show DataW.TrodAll enc P W' b sp hd [tb] ((Value.bool true).resultList 1) [.lit (.bool true)] []
  rw [hone]
  exact trodAll_mk1 (RowKit.shut_bool htb true)
 have hargs:∀sp:Nat→Bool,(∀x∈before,sp x.block=true)→DataW.TrodAll enc P W' 0 sp true f.params.toList args.toList (s.fn H (ds++[])).args before:=fun sp hsp=>by
  rw [hfn]
  exact JN hl hs hts hA hlt hsp
 have hvars:∀sp:Nat→Bool,DataW.TrodVars enc P W' sp s.vars (s.fn H (ds++[])).vars []:=fun sp=>by
  rw [hv,hfn];exact rfl
 refine⟨ds,[],before,[],before,[],hW',hres _ _ _,hargs _ fun x hx=>by simpa using hlt x hx,hvars _,hs.kept _,fun _=>?_⟩
 refine⟨ok_one hr hone (okWide_bool_mk htb true),_,_,([]++before)++[],⟨[]++before,[],trodAll_append (hargs _ (fun _ _=>rfl)) (hres _ _ _),hvars _,rfl,?_,fun ha=>by cases ha⟩,fun x hx _=>by simpa using hx⟩
 intro b off hp
 have hp':MemPlace.cell b off∈before:=by simpa using hp
 have h1:=hz b off hp'
 have h2:b < W.heap.size:=hlt _ hp'
 simpa [World.frozen?,hs.old b h2] using h1
end
end Go.Am
namespace Go.Am
open Go
def Ei(s:Int)(n:Nat):Bool:=decide (Ey .i64 (s.fdiv (2 ^ min n 64)) 1=1)
def hasB(s n:Int):Bool:=decide (0≤n) && Ei s n.toNat
def Bo(n:Int):Bool:=decide (0≤n∧n≤63)
abbrev iD(n:Int):D:=.v (.int .i64 n)
abbrev bD(b:Bool):D:=.v (.bool b)
abbrev tD(s:List UInt8):D:=.v (.string ⟨s.toArray⟩)
abbrev Bv(n:Int):List D:=[iD n]
abbrev Ja(b:Bool):List D:=[bD b]
abbrev BD(s:List UInt8):List D:=[tD s]
abbrev Ez(l:List Int):D:=.l (l.map Bv)
abbrev Fu(l:List Bool):D:=.l (l.map Ja)
abbrev AM(l:List (List UInt8)):D:=.l (l.map BD)
abbrev AQ(n:Int):List C:=[.d (iD n)]
abbrev AZ(b:Bool):List C:=[.d (bD b)]
abbrev AP(s:List UInt8):List C:=[.d (tD s)]
abbrev E8(l:List Int):List D:=[Ez l]
abbrev CX(l:List (List Int)):D:=.l (l.map E8)
abbrev Rq(l:List Int):List C:=[.d (Ez l)]
abbrev IF(l:List (List Int)):List D:=[CX l]
abbrev XZ(l:List (List (List Int))):D:=.l (l.map IF)
structure Eb where
 f:Int
 l:Int
 t:Int
 deriving DecidableEq
structure Sys where
 al:Int
 st:Int
 es:List Eb
structure BT where
 al:Int
 nx:List (List Int)
 ac:List Bool
abbrev Dk(e:Eb):List D:=[iD e.f,iD e.l,iD e.t]
abbrev Bf(e:Eb):List C:=[.d (iD e.f),.d (iD e.l),.d (iD e.t)]
abbrev VP(e:Eb):E:=.a [.d (iD e.f),.d (iD e.l),.d (iD e.t)]
abbrev FK(l:List Eb):D:=.l (l.map Dk)
abbrev B9(s:Sys):List D:=[iD s.al,iD s.st,FK s.es]
abbrev Dr(s:Sys):E:=.a [.d (iD s.al),.d (iD s.st),.d (FK s.es)]
abbrev Xq(l:List Sys):D:=.l (l.map B9)
abbrev BF(a:BT):List D:=[iD a.al,CX a.nx,Fu a.ac]
abbrev BL(a:BT):E:=.a [.d (iD a.al),.d (CX a.nx),.d (Fu a.ac)]
abbrev Rh(l:List BT):D:=.l (l.map BF)
abbrev Ay(l:List Int):E:=.o (.d (Ez l))
abbrev EJ(l:List (List Int)):E:=.o (.d (CX l))
abbrev Bp(l:List (List UInt8)):E:=.o (.d (AM l))
abbrev YQ(l:List Eb):E:=.o (.d (FK l))
def AG(s:Int)(k:Nat):List Int:=((List.range k).filter (Ei s)).map Int.ofNat
theorem AR(s:Int)(k:Nat):(AG s k).length≤k:=by
 unfold AG;rw [List.length_map];exact Nat.le_trans (List.length_filter_le _ _) (by simp)
theorem CB(s:Int)(k:Nat):AG s (k+1)=AG s k++if Ei s k then [(k:Int)] else []:=by
 unfold AG
 rw [List.range_succ,List.filter_append,List.map_append]
 cases h:Ei s k<;>simp [h]
abbrev Ac(s:Int):List Int:=AG s 6
def Dc(al st:Int)(e:Eb):Bool:=decide (0≤e.f∧e.f < st∧0≤e.t∧e.t < st∧0≤e.l∧e.l < 6) && Ei al e.l.toNat
def IB(e f:Eb):Bool:=if e.f≠f.f then decide (e.f < f.f) else if e.l≠f.l then decide (e.l < f.l) else decide (e.t < f.t)
def HC(s:Sys)(i:Nat):Bool:=match s.es[i]? with
 | none=>true
 | some e=>Dc s.al s.st e && match i with
  | 0=>true
  | j+1=>match s.es[j]? with
   | none=>true
   | some p=>IB p e
def Bw(s:Sys):Bool:=Bo s.al && decide (1≤s.st∧s.st≤16) && (List.range s.es.length).all (HC s)
theorem E4{α:Type}{l:List α}{f:α→Bool}{k:Nat}{x:α}(h:l[k]? = some x)(h1:(l.take k).all f=true)(h2:f x=true):(l.take (k+1)).all f=true:=by
 rw [List.take_add_one,h];simp [List.all_append,h1,h2]
theorem Gx{α:Type}{l:List α}{f:α→Bool}{k:Nat}{x:α}(h:l[k]? = some x)(h2:f x=false):l.all f=false:=by
 rw [List.all_eq_false];exact⟨x,List.mem_of_getElem? h,by simp [h2]⟩
theorem E3{α:Type}{l:List α}{f:α→Bool}{k:Nat}(h:(l.take k).all f=true)(hk:l.length≤k):l.all f=true:=by
 rwa [List.take_of_length_le hk] at h
theorem get_map{α β:Type}{l:List α}{g:α→β}{k:Nat}{x:α}(h:l[k]? = some x):(l.map g)[((k:Nat):Int).toNat]? = some (g x):=by simp [h]
theorem get_some{α:Type}{l:List α}{k:Nat}(h:k < l.length):∃x,l[k]? = some x:=⟨_,List.getElem?_eq_getElem h⟩
def Pk(n:Int)(q:Int):Bool:=decide (0≤q∧q < n)
def EN(ls n:Int)(row:List Int):Bool:=decide ((row.length:Int)=ls) && row.all (Pk n)
def A5(a:BT):Bool:=Bo a.al && decide (1≤a.nx.length∧a.nx.length≤12) && decide (a.ac.length=a.nx.length) && a.nx.all (EN (Ac a.al).length a.nx.length)
end Go.Am
