/-
  The steps of a walk, few and short: what an operation gives is reckoned.
-/
import Derived.Test.YtkkihplpglchjaaGreatDoorPart5
import Derived.ProofKit
import Derived.OpenShut
import Derived.WideKeyArgs
import Derived.Deep.DeepHandedRow
import Derived.Lib.LaidTab
set_option linter.constructorNameAsVariable false
set_option linter.unusedSimpArgs false
set_option linter.unusedVariables false
namespace Go.Am
open Go
class Mp (P:Program) (t:TypeId):Prop where
  out:P.underlying t=some .bool
theorem oA {p:Prop} [Decidable p]:(decide p=true)=p:=decide_eq_true_eq
theorem oB {p:Prop} [Decidable p]:decide p=false↔¬p:=decide_eq_false_iff_not
theorem oC {α β:Type} {l:List α} {f:α→β}:(l.map f).length=l.length:=List.length_map f
theorem oD {α:Type} {l m:List α}:(l++m).length=l.length+m.length:=List.length_append
theorem oE {α:Type} {n:Nat} {x:α}:(List.replicate n x).length=n:=List.length_replicate
theorem oF {α:Type} {x:α} {l:List α}:(x::l).length=l.length+1:=List.length_cons
theorem oG {α:Type}:([]:List α).length=0:=List.length_nil
theorem oZ:(∀(p:Prop) [Decidable p],(decide p=true)=p)∧(∀(p:Prop) [Decidable p],decide p=false↔¬p)∧(∀(α β:Type) (l:List α) (f:α→β),(l.map f).length=l.length)∧(∀(α:Type) (l m:List α),(l++m).length=l.length+m.length)∧(∀(α:Type) (n:Nat) (x:α),(List.replicate n x).length=n)∧(∀(α:Type) (x:α) (l:List α),(x::l).length=l.length+1)∧∀(α:Type),([]:List α).length=0:=
  ⟨fun _ _=>oA,fun _ _=>oB,fun _ _ _ _=>oC,fun _ _ _=>oD,fun _ _ _=>oE,fun _ _ _=>oF,fun _=>oG⟩
structure TI where
  ld:Option (Bool×Nat):=none
  ik:Option IntKind:=none
  st:Bool:=false
  sl:Option (Nat×Nat×Nat):=none
  ar:Option (Nat×Nat):=none
  fl:List (Option (Nat×Bool×Nat)):=[]
  pt:Bool:=false
  bo:Bool:=false
  ze:Option (List Value):=none
def Ns (P:Program) (t:Nat):Nat→List (Option (Nat×Bool×Nat))→Prop
  | _,[]=>True
  | k,none::r=>Ns P t (k+1) r
  | k,some x::r=>(Rf P t k=some x.1∧Rg P t k=some x)∧Ns P t (k+1) r
structure Dq (P:Program) (t:Nat) (i:TI):Prop where
  ld:i.ld=none∨WC P t=i.ld
  ik:i.ik=none∨P.underlying t=i.ik.map .int
  st:i.st=false∨P.underlying t=some .string
  sl:i.sl=none∨Xb P t=i.sl
  ar:i.ar=none∨XI P t=i.ar
  fl:Ns P t 0 i.fl
  pt:i.pt=false∨∃e,P.underlying t=some (.pointer e)
  bo:i.bo=false∨P.underlying t=some .bool
  ze:i.ze=none∨RS P t=i.ze
def PN (P:Program):List (Nat×TI)→Prop
  | []=>True
  | (t,i)::r=>Dq P t i∧PN P r
def Zx:Value→Value→Bool
  | .int k n,.int k' n'=>decide (k=k') && decide (n=n')
  | .bool a,.bool b=>decide (a=b)
  | .string ⟨⟨a⟩⟩,.string ⟨⟨b⟩⟩=>a.isEmpty && b.isEmpty
  | .slice none 0 0,.slice none 0 0=>true
  | .pointer none,.pointer none=>true
  | .map none,.map none=>true
  | .nilFunc,.nilFunc=>true
  | .nilIface,.nilIface=>true
  | _,_=>false
theorem Xj:∀ {a b:Value},Zx a b=true→a=b:=by
  intro a b h
  unfold Zx at h
  split at h<;>simp_all
def YW:List Value→List Value→Bool
  | [],[]=>true
  | a::l,b::m=>Zx a b && YW l m
  | _,_=>false
theorem Um:∀ {l m:List Value},YW l m=true→l=m
  | [],[],_=>rfl
  | a::l,b::m,h=>by
    unfold YW at h
    rw [Bool.and_eq_true] at h
    rw [Xj h.1,Um h.2]
  | [],_::_,h=>by cases h
  | _::_,[],h=>by cases h
def XU (P:Program) (t:Nat):Nat→List (Option (Nat×Bool×Nat))→Bool
  | _,[]=>true
  | k,none::r=>XU P t (k+1) r
  | k,some x::r=>decide (Rf P t k=some x.1) && decide (Rg P t k=some x) && XU P t (k+1) r
theorem O3 {P:Program} {t:Nat}:∀ {l:List (Option (Nat×Bool×Nat))} {k:Nat},XU P t k l=true→Ns P t k l
  | [],_,_=>trivial
  | none::r,k,h=>O3 (l:=r) (k:=k+1) h
  | some x::r,k,h=>by
    unfold XU at h
    simp only [Bool.and_eq_true,decide_eq_true_eq] at h
    exact ⟨h.1,O3 h.2⟩
def ZL (d:Option TypeDesc) (i:TI):Bool:=match d with
  | some (.int k)=>(match i.ik with|none=>true|some k'=>decide (k=k')) && !i.st && !i.pt && !i.bo
  | some .string=>i.ik.isNone && !i.pt && !i.bo
  | some (.pointer _)=>i.ik.isNone && !i.st && !i.bo
  | some .bool=>i.ik.isNone && !i.st && !i.pt
  | _=>i.ik.isNone && !i.st && !i.pt && !i.bo
def Zs (P:Program) (t:Nat) (i:TI):Bool:=
  (i.ld.isNone || decide (WC P t=i.ld)) && (ZL (P.underlying t) i && ((i.sl.isNone || decide (Xb P t=i.sl)) && ((i.ar.isNone || decide (XI P t=i.ar)) && (XU P t 0 i.fl && match i.ze with
    | none=>true
    | some l=>match RS P t with
      | some l'=>YW l' l
      | none=>false))))
theorem or_none {α:Type} [DecidableEq α] {a b:Option α} (h:(b.isNone || decide (a=b))=true):b=none∨a=b:=by
  rw [Bool.or_eq_true] at h
  rcases h with h|h
  · left;cases b<;>simp_all
  · right;exact of_decide_eq_true h
theorem Xg {P:Program} {t:Nat} {i:TI} (h:Zs P t i=true):Dq P t i:=by
  unfold Zs at h
  simp only [Bool.and_eq_true] at h
  obtain ⟨h1,h2,h3,h4,h5,h6⟩:=h
  have hd:(i.ik=none∨P.underlying t=i.ik.map .int)∧(i.st=false∨P.underlying t=some .string)∧(i.pt=false∨∃e,P.underlying t=some (.pointer e))∧(i.bo=false∨P.underlying t=some .bool):=by
    unfold ZL at h2
    split at h2
    · rename_i k hk
      cases hik:i.ik<;>simp_all
    all_goals simp_all
  refine ⟨or_none h1,hd.1,hd.2.1,or_none h3,or_none h4,O3 h5,hd.2.2.1,hd.2.2.2,?_⟩
  split at h6
  · rename_i hz;exact .inl hz
  · rename_i l hz
    split at h6
    · rename_i l' hz'
      right;rw [hz',hz,Um h6]
    · cases h6
def Wi (P:Program):List (Nat×TI)→Bool
  | []=>true
  | (t,i)::r=>Zs P t i && Wi P r
theorem PY {P:Program}:∀ {l:List (Nat×TI)},Wi P l=true→PN P l
  | [],_=>trivial
  | (t,i)::r,h=>by
    unfold Wi at h
    rw [Bool.and_eq_true] at h
    exact ⟨Xg h.1,PY h.2⟩
class Cf (P:Program) where
  T:List (Nat×TI)
  ok:PN P T
def GP:List (Nat×TI)→Nat→TI
  | [],_=>{}
  | (k,x)::r,t=>bif Nat.beq k t then x else GP r t
def nth {α:Type}:List α→Nat→Option α
  | [],_=>none
  | x::_,0=>some x
  | _::r,n+1=>nth r n
theorem JO {α:Type}:∀(l:List α) (i:Nat),nth l i=l[i]?
  | [],_=>by simp [nth]
  | o::_,0=>by simp [nth]
  | _::r,n+1=>by simp [nth,JO r n]
theorem CQ {P:Program} (t:Nat):∀ {T:List (Nat×TI)},PN P T→Dq P t (GP T t)
  | [],_=>⟨.inl rfl,.inl rfl,.inl rfl,.inl rfl,.inl rfl,trivial,.inl rfl,.inl rfl,.inl rfl⟩
  | (k,x)::r,h=>by
    unfold GP
    cases hb:Nat.beq k t
    · exact CQ t h.2
    · have:=Nat.eq_of_beq_eq_true hb
      subst this
      exact h.1
section
variable {P:Program} {t:Nat} {i:TI}
theorem Dq.Jj (h:Dq P t i) {ag:Bool} {n:Nat} (e:i.ld=some (ag,n)):Da P t ag n:=⟨by rcases h.ld with h|h<;>simp_all⟩
theorem Dq.SF (h:Dq P t i) {k:IntKind} (e:i.ik=some k):GZ P t k:=⟨by rcases h.ik with h|h<;>simp_all⟩
theorem Dq.SH (h:Dq P t i) (e:i.st=true):CL P t:=⟨by rcases h.st with h|h<;>simp_all⟩
theorem Dq.NP (h:Dq P t i) {e k b:Nat} (he:i.sl=some (e,k,b)):BS P t e k b:=⟨by rcases h.sl with h|h<;>simp_all⟩
theorem Dq.XX (h:Dq P t i) {n k:Nat} (he:i.ar=some (n,k)):Lw P t n k:=⟨by rcases h.ar with h|h<;>simp_all⟩
theorem Dq.SG (h:Dq P t i) (e:i.pt=true):OP P t:=⟨h.pt.resolve_left (by simp [e])⟩
theorem Dq.UJ (h:Dq P t i) (e:i.bo=true):Mp P t:=⟨by rcases h.bo with h|h<;>simp_all⟩
theorem Dq.SI (h:Dq P t i) {z:List Value} (e:i.ze=some z):Bw P t z:=⟨by rcases h.ze with h|h<;>simp_all⟩
theorem Ns.get:∀ {l:List (Option (Nat×Bool×Nat))} {k j:Nat} {x:Nat×Bool×Nat},Ns P t k l→nth l j=some (some x)→Rf P t (k+j)=some x.1∧Rg P t (k+j)=some x
  | [],_,_,_,_,h=>by simp [nth] at h
  | none::r,k,0,x,_,h=>by simp [nth] at h
  | some y::r,k,0,x,hf,h=>by simp [nth] at h;subst h;exact hf.1
  | none::r,k,j+1,x,hf,h=>by
    have:=Ns.get (l:=r) (k:=k+1) (j:=j) (x:=x) hf h
    rwa [show k+(j+1)=k+1+j by omega]
  | some y::r,k,j+1,x,hf,h=>by
    have:=Ns.get (l:=r) (k:=k+1) (j:=j) (x:=x) hf.2 h
    rwa [show k+(j+1)=k+1+j by omega]
theorem Dq.Ww (h:Dq P t i) {j off n:Nat} {ag:Bool} (e:nth i.fl j=some (some (off,ag,n))):Mq P t j off:=⟨by have:=(h.fl.get e).1;rwa [Nat.zero_add] at this⟩
theorem Dq.UK (h:Dq P t i) {j off n:Nat} {ag:Bool} (e:nth i.fl j=some (some (off,ag,n))):JE P t j off ag n:=⟨by have:=(h.fl.get e).2;rwa [Nat.zero_add] at this⟩
end
def Es (P:Program) (TB:Ba) (Γ:Ctx) (ops:Array Oper) (o:Oper) (fl:Fl) (i n:Nat) (K:Env→Ab→Nat→Prop) (L:List (Nat×E)) (σ:Ab) (nx:Nat):Prop:=
  A8 ops o (look L)=some true→Bm P TB Γ ops o fl i n K L σ nx
def xE:Bool×List C→Option E
  | (false,[c])=>some (.o c)
  | (true,cs)=>some (.a cs)
  | _=>none
def Y9 (f:Env):Op→Option E
  | .move x=>ev f x
  | .pick c x y=>match ev f c with
    | some (.o (.d (.v (.bool true))))=>ev f x
    | some (.o (.d (.v (.bool false))))=>ev f y
    | _=>none
  | .extract x k=>match ev f x with
    | some (.t xs)=>(xs[k]?).bind xE
    | _=>none
  | .nilCheck x=>match ev f x with
    | some (.o (.d (.p cs)))=>some (.o (.ip cs))
    | some (.o (.ptr id k i j))=>some (.o (.ptr id k i j))
    | some (.o (.fn gg cs))=>some (.o (.fn gg cs))
    | _=>none
  | _=>none
def Xq:IntKind→IntKind→Bool
  | .i64,.i64|.u8,.u8|.u64,.u64|.i32,.i32|.u16,.u16|.u32,.u32=>true
  | _,_=>false
theorem Kl {a b:IntKind} (h:Xq a b=true):a=b:=by cases a<;>cases b<;>first|rfl|cases h
def XP (o:BinOp) (m n:Int):Option Bool:=match o with
  | .lss=>some (decide (m < n))
  | .leq=>some (decide (m≤n))
  | .gtr=>some (decide (m > n))
  | .geq=>some (decide (m≥n))
  | .eql=>some (decide (m=n))
  | .neq=>some (decide (m≠n))
  | _=>none
def XO (o:BinOp) (a b:List UInt8):Option Bool:=match o with
  | .eql=>some (decide (a=b))
  | .neq=>some (decide (a≠b))
  | _=>none
def Wo (o:BinOp):E→E→Option Bool
  | .o (.d (.v (.int k m))),.o (.d (.v (.int k' n)))=>match Xq k k' with
    | true=>XP o m n
    | false=>none
  | .o (.d (.v (.string ⟨⟨a⟩⟩))),.o (.d (.v (.string ⟨⟨b⟩⟩)))=>XO o a b
  | _,_=>none
def RF:IntKind→Int→Option Prop
  | .i64,m=>some (-9223372036854775808≤m∧m≤9223372036854775807)
  | .u64,m=>some (0≤m∧m≤18446744073709551615)
  | .u8,m=>some (0≤m∧m≤255)
  | .i32,m=>some (-2147483648≤m∧m≤2147483647)
  | _,_=>none
def ZE (o:BinOp) (k:IntKind) (m n:Int):Option (Prop×E):=match o with
  | .add=>(RF k (m+n)).map fun q=>(q,eI k (m+n))
  | .sub=>(RF k (m - n)).map fun q=>(q,eI k (m - n))
  | .mul=>(RF k (m*n)).map fun q=>(q,eI k (m*n))
  | .rem=>some (0≤m∧0 < n,eI k (m % n))
  | .and=>some (True,eI k (DC k m n))
  | .or=>some (True,eI k (Ri k m n))
  | _=>none
def Y2 (o:BinOp):E→E→Option (Prop×E)
  | .o (.d (.v (.int k m))),.o (.d (.v (.int k' n)))=>match o with
    | .shr=>some (0≤n,eI k (m.fdiv (2 ^ (min n.toNat k.bits))))
    | .quo=>match Xq k .i64,Xq k' .i64 with
      | true,true=>some ((0≤m∧m≤9223372036854775807)∧0 < n,eI .i64 (m / n))
      | _,_=>none
    | o=>match Xq k k' with
      | true=>ZE o k m n
      | false=>none
  | .o (.d (.v (.string ⟨⟨a⟩⟩))),.o (.d (.v (.string ⟨⟨b⟩⟩)))=>match o with
    | .add=>some (a.length+b.length≤9223372036854775807,eT (a++b))
    | _=>none
  | _,_=>none
def Wu (off:Nat):E→Option E
  | .o (.d (.p cs))=>some (.o (.ip (cs.drop off)))
  | .o (.ptr id k i j)=>some (.o (.ptr id k i (j+off)))
  | _=>none
def Zc (ag:Bool) (n:Nat):E→Option E
  | .o (.d (.p cs))=>match ag,cs with
    | false,c::_=>some (.o (.d c))
    | true,cs=>match Nat.ble n cs.length with
      | true=>some (.a ((cs.take n).map .d))
      | false=>none
    | _,_=>none
  | _=>none
def WD (ag:Bool) (n j:Nat) (r:List C):Option E:=match ag with
  | false=>(r[j]?).map .o
  | true=>match Nat.ble (j+n) r.length with
    | true=>some (.a ((r.drop j).take n))
    | false=>none
def Za (ag:Bool) (off n:Nat) (cs:List C):Option E:=match ag with
  | false=>(cs[off]?).map .o
  | true=>match Nat.ble (off+n) cs.length with
    | true=>some (.a ((cs.drop off).take n))
    | false=>none
def Zb (k:Nat) (n:Int):E→Option E
  | .o (.d (.p cs))=>some (.o (.ip (cs.drop (n.toNat*k))))
  | .o (.ptr id k' i j)=>some (.o (.ptr id k' i (j+n.toNat*k)))
  | _=>none
def Zd (k:Nat):E→Option E
  | .o (.d (.l rows))=>some (eI .i64 rows.length)
  | .o (.arr _ k' _ len)=>match Nat.beq k' k with
    | true=>some (eI .i64 len)
    | false=>none
  | _=>none
def tr:Option E→Option (Prop×E)
  | some e=>some (True,e)
  | none=>none
def WN:Bool→E→E→Option (Prop×E)
  | true,.o (.d (.p _)),.o (.d (.v (.pointer none)))=>some (True,eB false)
  | true,.o (.d (.v (.pointer none))),.o (.d (.v (.pointer none)))=>some (True,eB true)
  | _,_,_=>none
def XM (pt:Bool) (o:BinOp) (a b:E):Option (Prop×E):=match o with
  | .eql=>WN pt a b
  | o=>Y2 o a b
def Wy (i:TI):E→E→Option (Prop×E)
  | .o (.arr id k off len),.o (.d (.v (.int _ m)))=>match i.sl with
    | some (_,k',_)=>match Nat.beq k k' with
      | true=>some (0≤m∧m < len,.o (.ptr id k (off+m.toNat) 0))
      | false=>none
    | none=>none
  | a, .o (.d (.v (.int _ m)))=>match i.ar with
    | some (len,k)=>match Zb k m a with
      | some e=>some (0≤m∧m < len,e)
      | none=>none
    | none=>none
  | _,_=>none
def WG (i:TI):E→Option E
  | .o (.d (.v (.string ⟨⟨s⟩⟩)))=>match i.st with
    | true=>some (eI .i64 s.length)
    | false=>none
  | e=>match i.sl with
    | some (_,k,_)=>Zd k e
    | none=>none
def Wp (k k':IntKind):E→Option (Prop×E)
  | .o (.d (.v (.int k2 m)))=>match Xq k2 k,RF k' m with
    | true,some q=>some (q,eI k' m)
    | _,_=>none
  | _=>none
def TU (T:List (Nat×TI)) (md:Bool) (f:Env):Op→Option (Prop×E)
  | .assign x=>match md,notNil x with
    | true,false=>none
    | _,_=>tr (ev f x)
  | .binOp o t x y _=>match ev f x,ev f y with
    | some a,some b=>XM (GP T t).pt o a b
    | _,_=>none
  | .fieldAddr s x k=>match nth (GP T s).fl k,ev f x with
    | some (some (off,_,_)),some a=>tr (Wu off a)
    | _,_=>none
  | .field t x k=>match nth (GP T t).fl k,ev f x with
    | some (some (off,ag,n)),some (.a cs)=>tr (Za ag off n cs)
    | _,_=>none
  | .load t x=>match (GP T t).ld,ev f x with
    | some (ag,n),some a=>tr (Zc ag n a)
    | _,_=>none
  | .indexAddr t x y=>match ev f x,ev f y with
    | some a,some b=>Wy (GP T t) a b
    | _,_=>none
  | .call ⟨.builtin .len,⟨[x]⟩,⟨[t]⟩⟩=>match ev f x with
    | some a=>tr (WG (GP T t) a)
    | none=>none
  | .convert s t x=>match (GP T s).ik,(GP T t).ik,ev f x with
    | some k,some k',some a=>Wp k k' a
    | _,_,_=>none
  | .makeFunc (.func gg) ⟨[]⟩ caps=>match Gw f caps.toList with
    | some es=>match Uk es with
      | some cs=>some (True,.o (.fn gg cs))
      | none=>none
    | none=>none
  | op=>tr (Y9 f op)
def ZF:BinOp→E→E→Option Bool
  | .eql,.o (.d (.v (.bool a))),.o (.d (.v (.bool b)))=>some (a == b)
  | .neq,.o (.d (.v (.bool a))),.o (.d (.v (.bool b)))=>some (a != b)
  | _,_,_=>none
def Om (T:List (Nat×TI)) (f:Env):Op→Option Bool
  | .binOp o t x y _=>match ev f x,ev f y with
    | some a,some b=>match (GP T t).bo with
      | true=>ZF o a b
      | false=>Wo o a b
    | _,_=>none
  | .unOp .not _ x=>match ev f x with
    | some (.o (.d (.v (.bool b))))=>some (!b)
    | _=>none
  | _=>none
def Jo (T:List (Nat×TI)) (σ:Ab) (f:Env):Op→Option E
  | .load t x=>match (GP T t).ld,ev f x with
    | some (ag,n),some (.o (.ptr id k i j))=>match look σ id with
      | some (.cells _ k' rows)=>match Nat.beq k k',nth rows i with
        | true,some r=>WD ag n j r
        | _,_=>none
      | _=>none
    | _,_=>none
  | _=>none
def Mj (T:List (Nat×TI)) (σ:Ab) (f:Env) (t:Nat) (x y:Operand):Option Ab:=
  match (GP T t).ld,ev f x,ev f y with
  | some (_,n),some (.o (.ptr id k i j)),some e=>match look σ id with
    | some (.cells ct k' rows)=>match Nat.beq k k',nth rows i with
      | true,some r=>match NH e,Nat.beq (eC e).length n,Nat.ble (j+n) k with
        | true,true,true=>some ((id,.cells ct k (rows.set i (Ae r j (eC e))))::σ)
        | _,_,_=>none
      | _,_=>none
    | _=>none
  | _,_,_=>none
section
variable {P:Program} {TB:Ba} {Γ:Ctx} {d:Option Tmp} {ty:TypeId} {pos:String} {af:Array Edge} {g:Option (Nat×Bool)} {f:Env} {σ:Ab} {nx:Nat}
theorem QF {t:TypeId} {a b:Bool} (he:P.underlying t=some .bool) (w:World):(Op.equal t (.bool a) (.bool b)).run P w=.ok (a == b) w:=by
  unfold Op.equal Op.maxDepth
  rw [show 10000=9999+1 from rfl,Op.equalIn]
  simp [run_underlying he,go_sem]
theorem Yh {t yt:TypeId} {x y:Operand} {a b:Bool} [hp:Mp P t] (hx:ev f x=some (eB a)) (hy:ev f y=some (eB b)):AR P TB Γ ⟨d,.binOp .eql t x y yt,ty,pos,af,g⟩ f σ nx (eB (a == b)):=
  Bj hx hy rfl fun w=>by
    have h6:binOp .eql t (.bool a) (.bool b)=(do pure (.bool (←Op.equal t (.bool a) (.bool b)))):=rfl
    have h7:eqGuard .eql t x y (.bool a) (.bool b)=pure ():=rfl
    rw [h6,h7]
    simp [QF hp.out w,go_sem]
theorem Ys {t yt:TypeId} {x y:Operand} {a b:Bool} [hp:Mp P t] (hx:ev f x=some (eB a)) (hy:ev f y=some (eB b)):AR P TB Γ ⟨d,.binOp .neq t x y yt,ty,pos,af,g⟩ f σ nx (eB (a != b)):=
  Bj hx hy rfl fun w=>by
    have h6:binOp .neq t (.bool a) (.bool b)=(do pure (.bool (!(←Op.equal t (.bool a) (.bool b))))):=rfl
    have h7:eqGuard .neq t x y (.bool a) (.bool b)=pure ():=rfl
    rw [h6,h7]
    simp [QF hp.out w,go_sem,bne]
theorem ZV {op:Op} {e:E} (h:Y9 f op=some e):AR P TB Γ ⟨d,op,ty,pos,af,g⟩ f σ nx e:=by
  unfold Y9 at h
  split at h
  · exact W0 h
  · split at h
    · rename_i h1;exact Vr h1 h
    · rename_i h1;exact Vq h1 h
    · cases h
  · split at h
    · rename_i h1
      refine Rz h1 ?_
      rw [←h]
      congr 1
    · cases h
  · split at h
    · rename_i h1;injection h with h;subst h;exact Vp h1
    · rename_i h1;injection h with h;subst h;exact W6 h1
    · rename_i h1;injection h with h;subst h;exact Vo h1
    · cases h
  · cases h
theorem Yg {o:BinOp} {t yt:TypeId} {x y:Operand} {ex ey:E} {c:Bool} (hx:ev f x=some ex) (hy:ev f y=some ey) (hc:Wo o ex ey=some c) :
    AR P TB Γ ⟨d,.binOp o t x y yt,ty,pos,af,g⟩ f σ nx (eB c):=by
  unfold Wo at hc
  split at hc
  · split at hc
    · rename_i hk
      have hk:=Kl hk
      subst hk
      unfold XP at hc
      split at hc<;>first|(injection hc with hc;subst hc)|cases hc
      · exact Yr hx hy
      · exact Yq hx hy
      · exact Yo hx hy
      · exact Yn hx hy
      · exact Yk hx hy
      · exact Yu hx hy
    · cases hc
  · unfold XO at hc
    split at hc<;>first|(injection hc with hc;subst hc)|cases hc
    · exact Yi hx hy
    · exact Yt hx hy
  · cases hc
theorem Na {k:IntKind} {m:Int} {q:Prop} (h:RF k m=some q) (hq:q):k.wrap m=m:=by
  unfold RF at h
  split at h<;>first|(injection h with h;subst h)|cases h
  · exact IntWalk.i64_in _ hq
  · exact IntWalk.u64_in _ hq
  · exact IntWalk.u8_in _ hq
  · exact IntWalk.i32_in _ hq
theorem Zj {o:BinOp} {t yt:TypeId} {x y:Operand} {ex ey e:E} {q:Prop} (hx:ev f x=some ex) (hy:ev f y=some ey) (hc:Y2 o ex ey=some (q,e)) (hq:q) :
    AR P TB Γ ⟨d,.binOp o t x y yt,ty,pos,af,g⟩ f σ nx e:=by
  unfold Y2 at hc
  split at hc
  · split at hc
    · injection hc with hc;injection hc with h1 h2;subst h1;subst h2;exact Yy hx hy hq rfl
    · split at hc
      · rename_i hk hk'
        have hk:=Kl hk
        have hk':=Kl hk'
        subst hk;subst hk'
        injection hc with hc;injection hc with h1 h2;subst h1;subst h2;exact W8 hx hy hq.1.1 hq.1.2 hq.2
      · cases hc
    · split at hc
      · rename_i hk
        have hk:=Kl hk
        subst hk
        unfold ZE at hc
        split at hc
        · obtain ⟨q',hr,he⟩:=Option.map_eq_some_iff.1 hc
          injection he with h1 h2;subst h1;subst h2;exact Yd hx hy (Na hr hq)
        · obtain ⟨q',hr,he⟩:=Option.map_eq_some_iff.1 hc
          injection he with h1 h2;subst h1;subst h2;exact Yz hx hy (Na hr hq)
        · obtain ⟨q',hr,he⟩:=Option.map_eq_some_iff.1 hc
          injection he with h1 h2;subst h1;subst h2;exact VU hx hy (Na hr hq)
        · injection hc with hc;injection hc with h1 h2;subst h1;subst h2;exact W9 hx hy hq.1 hq.2
        · injection hc with hc;injection hc with h1 h2;subst h2;exact Ye hx hy rfl
        · injection hc with hc;injection hc with h1 h2;subst h2;exact W7 hx hy rfl
        · cases hc
      · cases hc
  · split at hc
    · injection hc with hc;injection hc with h1 h2;subst h1;subst h2;exact Yf hx hy hq
    · cases hc
  · cases hc
theorem Ym {s k off:Nat} {x:Operand} {ex e:E} [hf:Mq P s k off] (hx:ev f x=some ex) (h:Wu off ex=some e):AR P TB Γ ⟨d,.fieldAddr s x k,ty,pos,af,g⟩ f σ nx e:=by
  unfold Wu at h
  split at h<;>first|(injection h with h;subst h)|cases h
  · exact RA hx
  · exact TA hx
theorem Zn {t:TypeId} {x:Operand} {ex e:E} {ag:Bool} {n:Nat} [hl:Da P t ag n] (hx:ev f x=some ex) (h:Zc ag n ex=some e):AR P TB Γ ⟨d,.load t x,ty,pos,af,g⟩ f σ nx e:=by
  unfold Zc at h
  split at h
  · split at h
    · injection h with h;subst h;exact Oj hx
    · split at h
      · rename_i hb;injection h with h;subst h;exact RC hx (Nat.le_of_ble_eq_true hb)
      · cases h
    · cases h
  · cases h
theorem Oi {t:TypeId} {x:Operand} {id k i j:Nat} {T:TypeId} {rows:List (List C)} {r:List C} {e:E} {ag:Bool} {n:Nat} [hl:Da P t ag n] (hx:ev f x=some (.o (.ptr id k i j))) (ho:look σ id=some (.cells T k rows)) (hr:rows[i]? = some r)
    (h:WD ag n j r=some e):AR P TB Γ ⟨d,.load t x,ty,pos,af,g⟩ f σ nx e:=by
  unfold WD at h
  split at h
  · obtain ⟨c,hc,he⟩:=Option.map_eq_some_iff.1 h
    subst he
    exact MV hx ho hr hc
  · split at h
    · rename_i hb;injection h with h;subst h;exact TM hx ho hr (Nat.le_of_ble_eq_true hb)
    · cases h
theorem Zl {t:TypeId} {x:Operand} {k off n:Nat} {ag:Bool} {cs:List C} {e:E} [hf:JE P t k off ag n] (hx:ev f x=some (.a cs)) (h:Za ag off n cs=some e):AR P TB Γ ⟨d,.field t x k,ty,pos,af,g⟩ f σ nx e:=by
  unfold Za at h
  split at h
  · obtain ⟨c,hc,he⟩:=Option.map_eq_some_iff.1 h
    subst he
    exact Vl hx hc
  · split at h
    · rename_i hb;injection h with h;subst h;exact Tz hx (Nat.le_of_ble_eq_true hb)
    · cases h
theorem Zm {t:TypeId} {x y:Operand} {ex e:E} {n:Int} {len k:Nat} {ik:IntKind} [hl:Lw P t len k] (hx:ev f x=some ex) (hy:ev f y=some (eI ik n)) (h:Zb k n ex=some e) (hn:0≤n∧n < len) :
    AR P TB Γ ⟨d,.indexAddr t x y,ty,pos,af,g⟩ f σ nx e:=by
  unfold Zb at h
  split at h<;>first|(injection h with h;subst h)|cases h
  · exact RB hx hy hn.1 hn.2
  · exact TF hx hy hn.1 hn.2
theorem Yp {t e:TypeId} {x:Operand} {ex r:E} {k b:Nat} [hl:BS P t e k b] (hx:ev f x=some ex) (h:Zd k ex=some r):AR P TB Γ ⟨d,.call ⟨.builtin .len,#[x],#[t]⟩,ty,pos,af,g⟩ f σ nx r:=by
  unfold Zd at h
  split at h
  · injection h with h;subst h;exact TK hx
  · split at h
    · injection h with h;subst h;exact TJ hx
    · cases h
  · cases h
theorem Ja {x:Option E} {q:Prop} {e:E} (h:tr x=some (q,e)):x=some e:=by
  cases x with
  | none=>cases h
  | some y=>injection h with h;injection h with _ h;rw [h]
theorem WH {i:TI} {t:TypeId} {x:Operand} {a e:E} (hi:Dq P t i) (hx:ev f x=some a) (h:WG i a=some e):AR P TB Γ ⟨d,.call ⟨.builtin .len,#[x],#[t]⟩,ty,pos,af,g⟩ f σ nx e:=by
  unfold WG at h
  split at h
  · split at h
    · rename_i hs
      injection h with h;subst h
      haveI:=hi.SH hs
      exact WZ hx
    · cases h
  · split at h
    · rename_i hs
      haveI:=hi.NP hs
      exact Yp hx h
    · cases h
theorem WB {i:TI} {t:TypeId} {x y:Operand} {a b e:E} {q:Prop} (hi:Dq P t i) (hx:ev f x=some a) (hy:ev f y=some b) (h:Wy i a b=some (q,e)) (hq:q):AR P TB Γ ⟨d,.indexAddr t x y,ty,pos,af,g⟩ f σ nx e:=by
  unfold Wy at h
  split at h
  · split at h
    · rename_i hs
      split at h
      · rename_i hk
        injection h with h;injection h with h1 h2;subst h1;subst h2
        have:=Nat.eq_of_beq_eq_true hk
        subst this
        haveI:=hi.NP hs
        exact TC hx hy hq.1 hq.2
      · cases h
    · cases h
  · split at h
    · rename_i hs
      split at h
      · rename_i hv
        injection h with h;injection h with h1 h2;subst h1;subst h2
        haveI:=hi.XX hs
        exact Zm hx hy hv hq
      · cases h
    · cases h
  · cases h
theorem WO {i:TI} {t yt:TypeId} {x y:Operand} {a b e:E} {q:Prop} (hi:Dq P t i) (hx:ev f x=some a) (hy:ev f y=some b) (h:WN i.pt a b=some (q,e)):AR P TB Γ ⟨d,.binOp .eql t x y yt,ty,pos,af,g⟩ f σ nx e:=by
  unfold WN at h
  split at h
  · rename_i hp
    injection h with h;injection h with h1 h2;subst h2
    haveI:=hi.SG hp
    exact Ry hx hy
  · rename_i hp
    injection h with h;injection h with h1 h2;subst h2
    haveI:=hi.SG hp
    exact Pt hx hy
  · cases h
theorem Wq {i i':TI} {s t:TypeId} {k k':IntKind} {x:Operand} {a e:E} {q:Prop} (hi:Dq P s i) (hi':Dq P t i') (hk:i.ik=some k) (hk':i'.ik=some k') (hx:ev f x=some a) (h:Wp k k' a=some (q,e)) (hq:q):AR P TB Γ ⟨d,.convert s t x,ty,pos,af,g⟩ f σ nx e:=by
  unfold Wp at h
  split at h
  · split at h
    · rename_i h1 hr
      injection h with h;injection h with h2 h3;subst h2;subst h3
      have h1:=Kl h1
      subst h1
      haveI:=hi.SF hk
      haveI:=hi'.SF hk'
      exact MU hx (Na hr hq)
    · cases h
  · cases h
theorem QB [hT:Cf P] {md:Bool} {op:Op} {q:Prop} {e:E} (h:TU hT.T md f op=some (q,e)) (hq:q):AR P TB Γ ⟨d,op,ty,pos,af,g⟩ f σ nx e:=by
  have hty:=fun t=>CQ (P:=P) t hT.ok
  unfold TU at h
  split at h
  · split at h
    · cases h
    · exact KG (Ja h)
  · rename_i o t x y yt
    split at h
    · rename_i hx hy
      unfold XM at h
      split at h
      · exact WO (hty t) hx hy h
      · exact Zj hx hy h hq
    · cases h
  · rename_i s x k
    split at h
    · rename_i hf hx
      haveI:=(hty s).Ww hf
      exact Ym hx (Ja h)
    · cases h
  · rename_i t x k
    split at h
    · rename_i hf hx
      haveI:=(hty t).UK hf
      exact Zl hx (Ja h)
    · cases h
  · rename_i t x
    split at h
    · rename_i hl hx
      haveI:=(hty t).Jj hl
      exact Zn hx (Ja h)
    · cases h
  · rename_i t x y
    split at h
    · rename_i hx hy
      exact WB (hty t) hx hy h hq
    · cases h
  · rename_i x t
    split at h
    · rename_i hx
      exact WH (hty t) hx (Ja h)
    · cases h
  · rename_i s t x
    split at h
    · rename_i h1 h2 hx
      exact Wq (hty s) (hty t) h1 h2 hx h hq
    · cases h
  · split at h
    · rename_i h1
      split at h
      · rename_i h2
        injection h with h;injection h with _ h;subst h
        exact Zk h1 h2
      · cases h
    · cases h
  · exact ZV (Ja h)
theorem On [hT:Cf P] {op:Op} {c:Bool} (h:Om hT.T f op=some c):AR P TB Γ ⟨d,op,ty,pos,af,g⟩ f σ nx (eB c):=by
  have hty:=fun t=>CQ (P:=P) t hT.ok
  unfold Om at h
  split at h
  · rename_i o t x y yt
    split at h
    · rename_i hx hy
      split at h
      · rename_i hb
        haveI:=(hty t).UJ hb
        unfold ZF at h
        split at h
        · injection h with h;subst h;exact Yh hx hy
        · injection h with h;subst h;exact Ys hx hy
        · cases h
      · exact Yg hx hy h
    · cases h
  · split at h
    · rename_i hx
      injection h with h;subst h
      exact Yv hx
    · cases h
  · cases h
theorem KL [hT:Cf P] {op:Op} {e:E} (h:Jo hT.T σ f op=some e):AR P TB Γ ⟨d,op,ty,pos,af,g⟩ f σ nx e:=by
  have hty:=fun t=>CQ (P:=P) t hT.ok
  unfold Jo at h
  split at h
  · rename_i t x
    split at h
    · rename_i hl hx
      split at h
      · rename_i ho
        split at h
        · rename_i hk hr
          have hk:=Nat.eq_of_beq_eq_true hk
          subst hk
          haveI:=(hty t).Jj hl
          rw [JO] at hr
          exact Oi hx ho hr h
        · cases h
      · cases h
    · cases h
  · cases h
theorem KM [hT:Cf P] {t:TypeId} {x y:Operand} {σ':Ab} {K:E→Ab→Nat→Prop} (h:Mj hT.T σ f t x y=some σ') (hK:K (.t []) σ' nx):BZ P TB Γ ⟨d,.store t x y,ty,pos,af,g⟩ f σ nx K:=by
  have hty:=fun t=>CQ (P:=P) t hT.ok
  unfold Mj at h
  split at h
  · rename_i hl hx hy
    split at h
    · rename_i ho
      split at h
      · rename_i hk hr
        split at h
        · rename_i h1 h2 h3
          have hk:=Nat.eq_of_beq_eq_true hk
          subst hk
          haveI:=(hty t).Jj hl
          rw [JO] at hr
          injection h with h
          subst h
          exact Df hx hy h1 ho hr (Nat.eq_of_beq_eq_true h2) (Nat.le_of_ble_eq_true h3) hK
        · cases h
      · cases h
    · cases h
  · cases h
end
section
variable {P:Program} {TB:Ba} {Γ:Ctx} {ops:Array Oper} {fl:Fl} {i n:Nat} {L:List (Nat×E)} {σ:Ab} {nx:Nat} {K:Env→Ab→Nat→Prop} {d:Tmp} {ty:TypeId} {pos:String} {af:Array Edge} {g:Option (Nat×Bool)} {op:Op}
theorem gA {d:Option Tmp} (hg:A8 ops ⟨d,op,ty,pos,af,g⟩ (look L)=some true) (h:Es P TB Γ ops ⟨d,op,ty,pos,af,g⟩ fl i n K L σ nx):Bm P TB Γ ops ⟨d,op,ty,pos,af,g⟩ fl i n K L σ nx:=h hg
theorem gS {x:E} (hq:∀σ nx,AR P TB Γ ⟨some d,op,ty,pos,af,g⟩ (look L) σ nx x) (h:Lex P TB Γ ops (Ai fl (i+1) n) K (look ((d,x)::L)) σ nx):Es P TB Γ ops ⟨some d,op,ty,pos,af,g⟩ fl i n K L σ nx:=fun hg=>Di hq hg h
theorem gQ {x:E} (hq:AR P TB Γ ⟨some d,op,ty,pos,af,g⟩ (look L) σ nx x) (hf:NA (fl i)=true) (h:Lex P TB Γ ops (Ai fl (i+1) n) K (look ((d,x)::L)) σ nx):Es P TB Γ ops ⟨some d,op,ty,pos,af,g⟩ fl i n K L σ nx:=fun hg=>WV hq hg hf h
theorem gB {c:Bool} (hq:∀σ nx,AR P TB Γ ⟨some d,op,ty,pos,af,g⟩ (look L) σ nx (eB c)) (h:∀b,c=b→Lex P TB Γ ops (Ai fl (i+1) n) K (look ((d,eB b)::L)) σ nx):Es P TB Γ ops ⟨some d,op,ty,pos,af,g⟩ fl i n K L σ nx:=fun hg=>Rx hq hg h
theorem gW (h:BZ P TB Γ ⟨some d,op,ty,pos,af,g⟩ (look L) σ nx (fun x σ' nx'=>Lex P TB Γ ops (Ai fl (i+1) n) K (look ((d,x)::L)) σ' nx')) (hf:fl i=1):Es P TB Γ ops ⟨some d,op,ty,pos,af,g⟩ fl i n K L σ nx:=fun hg=>HZ h hg hf
theorem ZH (h:BZ P TB Γ ⟨none,op,ty,pos,af,g⟩ (look L) σ nx (fun _ σ' nx'=>Lex P TB Γ ops (Ai fl (i+1) n) K (look L) σ' nx')) (hf:fl i=1):Es P TB Γ ops ⟨none,op,ty,pos,af,g⟩ fl i n K L σ nx:=fun hg=>FD h hg hf
theorem yQ {md:Bool} [hT:Cf P] {q:Prop} {x:E} (h:TU hT.T md (look L) op=some (q,x)) (hq:q) (hk:Lex P TB Γ ops (Ai fl (i+1) n) K (look ((d,x)::L)) σ nx):Es P TB Γ ops ⟨some d,op,ty,pos,af,g⟩ fl i n K L σ nx:=gS (fun _ _=>QB h hq) hk
theorem yB [hT:Cf P] {c:Bool} (h:Om hT.T (look L) op=some c) (hk:∀b,c=b→Lex P TB Γ ops (Ai fl (i+1) n) K (look ((d,eB b)::L)) σ nx):Es P TB Γ ops ⟨some d,op,ty,pos,af,g⟩ fl i n K L σ nx:=gB (fun _ _=>On h) hk
theorem yS [hT:Cf P] {x:E} (h:Jo hT.T σ (look L) op=some x) (hf:NA (fl i)=true) (hk:Lex P TB Γ ops (Ai fl (i+1) n) K (look ((d,x)::L)) σ nx):Es P TB Γ ops ⟨some d,op,ty,pos,af,g⟩ fl i n K L σ nx:=gQ (KL h) hf hk
theorem yW [hT:Cf P] {t:TypeId} {x y:Operand} {σ':Ab} (h:Mj hT.T σ (look L) t x y=some σ') (hf:fl i=1) (hk:Lex P TB Γ ops (Ai fl (i+1) n) K (look L) σ' nx):Es P TB Γ ops ⟨none,.store t x y,ty,pos,af,g⟩ fl i n K L σ nx:=ZH (KM h hk) hf
theorem yO [hT:Cf P] {T:TypeId} {z:List Value} (h:(GP hT.T T).ze=some z) (hok:z.all Ld=true) (hf:fl i=1) (hK:Lex P TB Γ ops (Ai fl (i+1) n) K (look ((d,.o (.ptr nx z.length 0 0))::L)) ((nx,.cells T z.length [z.map zC])::σ) (nx+1)):Es P TB Γ ops ⟨some d,.alloc T,ty,pos,af,g⟩ fl i n K L σ nx:=
  haveI:=(CQ (P:=P) T hT.ok).SI h
  gW (U0 hok hK) hf
theorem yM [hT:Cf P] {t:TypeId} {x:Operand} {id k i' j:Nat} {T:TypeId} {rows:List (List C)} {r:List C} {e:E} {ag:Bool} {m:Nat} (hx:ev (look L) x=some (.o (.ptr id k i' j))) (ho:look σ id=some (.cells T k rows)) (hr:rows[i']? = some r) (hl:(GP hT.T t).ld=some (ag,m))
    (h:WD ag m j r=some e) (hf:NA (fl i)=true) (hk:Lex P TB Γ ops (Ai fl (i+1) n) K (look ((d,e)::L)) σ nx):Es P TB Γ ops ⟨some d,.load t x,ty,pos,af,g⟩ fl i n K L σ nx:=
  haveI:=(CQ (P:=P) t hT.ok).Jj hl
  gQ (Oi hx ho hr h) hf hk
theorem yV [hT:Cf P] {t:TypeId} {x y:Operand} {id k i' j m:Nat} {T:TypeId} {rows:List (List C)} {r:List C} {e:E} {ag:Bool} (hx:ev (look L) x=some (.o (.ptr id k i' j))) (hy:ev (look L) y=some e) (ho:NH e=true) (hlk:look σ id=some (.cells T k rows)) (hr:rows[i']? = some r)
    (hl:(GP hT.T t).ld=some (ag,m)) (hn:(eC e).length=m) (hj:Nat.ble (j+m) k=true) (hf:fl i=1) (hk:Lex P TB Γ ops (Ai fl (i+1) n) K (look L) ((id,.cells T k (rows.set i' (Ae r j (eC e))))::σ) nx):Es P TB Γ ops ⟨none,.store t x y,ty,pos,af,g⟩ fl i n K L σ nx:=
  haveI:=(CQ (P:=P) t hT.ok).Jj hl
  ZH (Df hx hy ho hlk hr hn (Nat.le_of_ble_eq_true hj) hk) hf
theorem ZX [hT:Cf P] {α:Type} {t e:TypeId} {x:Operand} {l:List α} {g1:α→List D} {k b:Nat} (hx:ev (look L) x=some (.o (.d (.l (l.map g1))))) (hl:(GP hT.T t).sl=some (e,k,b)) (hk:Lex P TB Γ ops (Ai fl (i+1) n) K (look ((d,eI .i64 l.length)::L)) σ nx):Es P TB Γ ops ⟨some d,.call ⟨.builtin .len,#[x],#[t]⟩,ty,pos,af,g⟩ fl i n K L σ nx:=
  haveI:=(CQ (P:=P) t hT.ok).NP hl
  gS (fun _ _=>WX hx) hk
theorem yL [hT:Cf P] {t e:TypeId} {x y:Operand} {rows:List (List D)} {row:List D} {m:Int} {k b:Nat} {ik:IntKind} (hx:ev (look L) x=some (.o (.d (.l rows)))) (hy:ev (look L) y=some (eI ik m)) (hr:rows[m.toNat]? = some row) (hl:(GP hT.T t).sl=some (e,k,b)) (hn:row.length=k) (h0:0≤m)
    (hk:Lex P TB Γ ops (Ai fl (i+1) n) K (look ((d,.o (.ip row))::L)) σ nx):Es P TB Γ ops ⟨some d,.indexAddr t x y,ty,pos,af,g⟩ fl i n K L σ nx:=
  haveI:=(CQ (P:=P) t hT.ok).NP hl
  gS (fun _ _=>TE hx hy h0 hr hn) hk
theorem yT [hT:Cf P] {t:TypeId} {x y:Operand} {s:List UInt8} {m:Int} {c:UInt8} {ik:IntKind} (hx:ev (look L) x=some (eT s)) (hy:ev (look L) y=some (eI ik m)) (hc:s[m.toNat]? = some c) (hl:(GP hT.T t).st=true) (h0:0≤m)
    (hk:Lex P TB Γ ops (Ai fl (i+1) n) K (look ((d,eI .u8 (c.toNat:Int))::L)) σ nx):Es P TB Γ ops ⟨some d,.index t x y,ty,pos,af,g⟩ fl i n K L σ nx:=
  haveI:=(CQ (P:=P) t hT.ok).SH hl
  gS (fun _ _=>TH hx hy h0 hc) hk
def Zp (k m:Nat) (z:List Value) (es:List E):Option (List (List D)):=match es.all NH,K7 es with
  | true,some rows=>match rows.all fun r=>Nat.beq r.length k,Nat.beq z.length k,z.all Ld,Nat.ble 1 k,Nat.ble (m*k) 16777216 with
    | true,true,true,true,true=>some rows
    | _,_,_,_,_=>none
  | _,_=>none
theorem yZ [hT:Cf P] {t e:TypeId} {k b m:Nat} {z:List Value} {parts:Array (Nat×Operand)} {es:List E} {rows:List (List D)} (hl:(GP hT.T t).sl=some (e,k,b)) (hz:(GP hT.T e).ze=some z) (hp:Cs 0 (parts.toList.map (·.2))=parts.toList) (hn:parts.toList.length=m)
    (hes:Gw (look L) (parts.toList.map (·.2))=some es) (hv:Zp k m z es=some rows)
    (h:Lex P TB Γ ops (Ai fl (i+1) n) K (look ((d,.o (.d (.l rows)))::L)) σ nx):Es P TB Γ ops ⟨some d,.buildSlice t m parts,ty,pos,af,g⟩ fl i n K L σ nx:=by
  haveI:=(CQ (P:=P) t hT.ok).NP hl
  haveI:=(CQ (P:=P) e hT.ok).SI hz
  unfold Zp at hv
  split at hv
  · rename_i h1 h2
    split at hv
    · rename_i h3 h4 h5 h6 h7
      injection hv with hv
      subst hv
      exact gS (fun _ _=>KJ hp hn hes h1 h2 h3 (Nat.eq_of_beq_eq_true h4) h5 h6 h7) h
    · cases hv
  · cases hv
theorem yY {T:TypeId} {x:Operand} {e:E} {ds:List D} (hx:ev (look L) x=some e) (ho:NH e=true) (hd:Lv (eC e)=some ds) (h:Lex P TB Γ ops (Ai fl (i+1) n) K (look ((d,.o (.ip ds))::L)) σ nx):Es P TB Γ ops ⟨some d,.box T x,ty,pos,af,g⟩ fl i n K L σ nx:=gS (fun _ _=>Ek hx ho hd) h
def U7:Nat→List (Nat×Operand)→Bool
  | _,[]=>true
  | k,(i,_)::r=>Nat.beq i k && U7 (k+1) r
theorem Qp:∀(l:List (Nat×Operand)) (k:Nat),U7 k l=true→Cs k (l.map (·.2))=l
  | [],_,_=>rfl
  | (i,x)::r,k,h=>by
    unfold U7 at h
    rw [Bool.and_eq_true] at h
    have h1:=Nat.eq_of_beq_eq_true h.1
    subst h1
    have:=Qp r (i+1) h.2
    simp [Cs,this]
def U9 (c:Nat):Option E→Bool
  | some (.o (.ptr id _ _ _))=>NA c || (Nat.beq c (10+id) && !Nat.ble 1000 c)
  | _=>NA c
theorem TV {T:List (Nat×TI)} {σ σ':Ab} {f:Env} {t:TypeId} {x:Operand} {id k i j:Nat} (hx:ev f x=some (.o (.ptr id k i j))) (h:look σ' id=look σ id):Jo T σ' f (.load t x)=Jo T σ f (.load t x):=by
  unfold Jo
  simp only [hx]
  cases (GP T t).ld with
  | none=>rfl
  | some p=>obtain ⟨ag,n⟩:=p;simp only [h]
def QA (T:List (Nat×TI)) (sl:Bool) (c nx:Nat) (σ:Ab) (L:List (Nat×E)):Option Tmp→Op→Option (List (Nat×E)×Ab×Nat)
  | some d,.alloc t=>match Nat.beq c 1,(GP T t).ze with
    | true,some z=>match z.all Ld with
      | true=>some ((d,.o (.ptr nx z.length 0 0))::L,(nx,.cells t z.length [z.map zC])::σ,nx+1)
      | false=>none
    | _,_=>none
  | none,.store t x y=>match Nat.beq c 1,Mj T σ (look L) t x y with
    | true,some σ'=>some (L,σ',nx)
    | _,_=>none
  | some d,.load t x=>match U9 c (ev (look L) x),Jo T σ (look L) (.load t x) with
    | true,some e=>some ((d,e)::L,σ,nx)
    | _,_=>none
  | some d,.box _ x=>match sl,ev (look L) x with
    | true,some e=>match NH e,Lv (eC e) with
      | true,some ds=>some ((d,.o (.ip ds))::L,σ,nx)
      | _,_=>none
    | _,_=>none
  | some d,.buildSlice t m parts=>match sl,(GP T t).sl with
    | true,some (e,k,_)=>match (GP T e).ze,Gw (look L) (parts.toList.map (·.2)) with
      | some z,some es=>match Zp k m z es,U7 0 parts.toList,Nat.beq parts.toList.length m with
        | some rows,true,true=>some ((d,.o (.d (.l rows)))::L,σ,nx)
        | _,_,_=>none
      | _,_=>none
    | _,_=>none
  | _,_=>none
theorem yU [hT:Cf P] {sl:Bool} {d:Option Tmp} {L':List (Nat×E)} {σ':Ab} {nx':Nat} (h:QA hT.T sl (fl i) nx σ L d op=some (L',σ',nx')) (hk:Lex P TB Γ ops (Ai fl (i+1) n) K (look L') σ' nx'):Es P TB Γ ops ⟨d,op,ty,pos,af,g⟩ fl i n K L σ nx:=by
  unfold QA at h
  split at h
  · split at h
    · rename_i h1 h2
      split at h
      · rename_i h3
        injection h with h;injection h with e1 h;injection h with e2 e3;subst e1;subst e2;subst e3
        exact yO h2 h3 (Nat.eq_of_beq_eq_true h1) hk
      · cases h
    · cases h
  · split at h
    · rename_i h1 h2
      injection h with h;injection h with e1 h;injection h with e2 e3;subst e1;subst e2;subst e3
      exact yW h2 (Nat.eq_of_beq_eq_true h1) hk
    · cases h
  · split at h
    · rename_i h1 h2
      injection h with h;injection h with e1 h;injection h with e2 e3;subst e1;subst e2;subst e3
      unfold U9 at h1
      split at h1
      · rename_i hx
        rw [Bool.or_eq_true] at h1
        rcases h1 with h1|h1
        · exact yS h2 h1 hk
        · rw [Bool.and_eq_true] at h1
          have h3:=Nat.eq_of_beq_eq_true h1.1
          refine fun hg=>Yb (fun σ' nx' hs=>KL (by rw [h3,Nat.add_sub_cancel_left] at hs;rw [TV (σ:=σ) (σ':=σ') hx hs];exact h2)) hg ⟨Nat.ble_eq_true_of_le (by omega),by simpa using h1.2⟩ hk
      · exact yS h2 h1 hk
    · cases h
  · split at h
    · rename_i h1
      split at h
      · rename_i h2 h3
        injection h with h;injection h with e1 h;injection h with e2 e3;subst e1;subst e2;subst e3
        exact yY h1 h2 h3 hk
      · cases h
    · cases h
  · split at h
    · rename_i h1
      split at h
      · rename_i h2 h3
        split at h
        · rename_i h4 h5 h6
          injection h with h;injection h with e1 h;injection h with e2 e3;subst e1;subst e2;subst e3
          exact yZ h1 h2 (Qp _ _ h5) (Nat.eq_of_beq_eq_true h6) h3 h4 hk
        · cases h
      · cases h
    · cases h
  · cases h
theorem yP {x:Operand} {args:Array Operand} {tys:Array TypeId} {gg:FuncId} {cap:List C} {es:List E} {r:E} (hx:ev (look L) x=some (.o (.fn gg cap))) (hes:Gw (look L) args.toList=some es) (hp:(es.all E.Bc && C.BR cap)=true)
    (hs:Pure P TB gg (es++cap.map .o) r) (hr:r.Bc=true) (h:Lex P TB Γ ops (Ai fl (i+1) n) K (look ((d,r)::L)) σ nx):Es P TB Γ ops ⟨some d,.call ⟨.value x,args,tys⟩,ty,pos,af,g⟩ fl i n K L σ nx:=gS (fun _ _=>Bb hx hes hp hs hr) h
theorem yC {x:Operand} {args:Array Operand} {tys:Array TypeId} {gg:FuncId} {cap:List C} {es:List E} {c:Bool} (hx:ev (look L) x=some (.o (.fn gg cap))) (hes:Gw (look L) args.toList=some es) (hp:(es.all E.Bc && C.BR cap)=true)
    (hs:Pure P TB gg (es++cap.map .o) (eB c)) (h:∀b,c=b→Lex P TB Γ ops (Ai fl (i+1) n) K (look ((d,eB b)::L)) σ nx):Es P TB Γ ops ⟨some d,.call ⟨.value x,args,tys⟩,ty,pos,af,g⟩ fl i n K L σ nx:=gB (fun _ _=>Bb hx hes hp hs rfl) h
end
end Go.Am
namespace Go.Am
open Go Go.ChangeShapes Go.WideShapes Go.RowKit
def below (w:World) (b:Nat):Prop:=b < w.heap.size
def Rd {α:Type} (P:Program) (w:World) (t:TypeId) (k:Nat) (f:α→List D):Prop:=
  ∀ {H:Type} (enc:TypeId×Value→H) (fuel:Nat) (cs:List Value) (x:DataW H×List MemPlace),DataW.trod enc P w 0 (fun _=>true) true fuel t cs=some x→
    ∃y:α,cs.length=k∧(f y).length=k∧∀(j:Nat) c d,cs[j]? = some c→(f y)[j]? = some d→Cv (below w) w d c
section
variable {P:Program} {w:World} {t e:TypeId} {k:Nat}
theorem HV {c0:Value} {d0:D} (h:Cv (below w) w d0 c0):∀(j:Nat) c d,[c0][j]? = some c→[d0][j]? = some d→Cv (below w) w d c:=by
  intro j c d hc hd
  match j with
  | 0=>simp at hc hd;subst hc;subst hd;exact h
  | j+1=>simp at hc
theorem ZK (ht:P.underlying t=some (.int .u8)):Rd P w t 1 (fun n:UInt8=>[.v (.int .u8 n.toNat)]):=fun enc fuel cs x hx=>by
  obtain ⟨n,rfl,_,hw⟩:=DataW.trod_int ht hx
  have hb:=bounds_u8 hw
  refine ⟨UInt8.ofNat n.toNat,rfl,rfl,HV ?_⟩
  have:((UInt8.ofNat n.toNat).toNat:Int)=n:=by
    simp
    omega
  rw [this]
  exact .v rfl
theorem LJ {a:Addr} {n:Nat} {cs:List Value} (h:w.cells? 0 a n=some cs):cs.length=n∧∀(j:Nat) c,cs[j]? = some c→w.cell? (a.add j)=some c:=by
  unfold World.cells? at h
  rw [if_pos (Nat.zero_le _)] at h
  have hl:=mapM_some_length h
  simp at hl
  refine ⟨hl,fun j c hc=>?_⟩
  have hlt:=(List.getElem?_eq_some_iff.1 hc).1
  have:=mapM_some_get h j j (by rw [List.getElem?_range (by omega)])
  rw [this];exact hc
theorem YB {α:Type} {f:α→List D} (ht:P.underlying t=some (.slice e)) (hk:P.cellsOf e=k) (h0:0 < k) (hf:Rd P w e k f):Rd P w t 1 (fun l:List α=>[.l (l.map f)]):=fun enc fuel cs x hx=>by
  rcases DataW.trod_slice ht hx with ⟨rfl,_⟩|⟨a,len,cap,elems,rest,n,rfl,rfl,_,_,hlc,hcm,hel,hget,_,_⟩
  · exact ⟨[],rfl,rfl,HV .nil⟩
  · rw [hk] at hget
    rcases Nat.eq_zero_or_pos len with hl0|hl0
    · subst hl0
      exact ⟨[],rfl,rfl,HV (.e hcm)⟩
    have key:∀i,i < len→∃(y:α) (cs:List Value),w.cells? 0 (a.add (i*k)) k=some cs∧cs.length=k∧(f y).length=k∧∀(j:Nat) c d,cs[j]? = some c→(f y)[j]? = some d→Cv (below w) w d c:=by
      intro i hi
      have h1:=hget i hi
      have hie:i < elems.length:=by omega
      rw [List.getElem?_eq_getElem hie] at h1
      simp only [Option.bind_eq_some_iff] at h1
      obtain ⟨cs,h2,h3⟩:=h1
      obtain ⟨y,h4,h5,h6⟩:=hf enc n cs _ h3
      exact ⟨y,cs,h2,h4,h5,h6⟩
    obtain ⟨b,o,rfl,hb⟩:∃b o,a=⟨b,o,none⟩∧b < w.heap.size:=by
      obtain ⟨y,cs,h2,h4,_,_⟩:=key 0 hl0
      have h7:=(LJ h2).2 0 (cs[0]'(by omega)) (by simp)
      rw [Nat.zero_mul] at h7
      have h8:∀a:Addr,a.add 0=a:=fun a=>by simp [Addr.add]
      rw [h8,h8] at h7
      unfold World.cell? at h7
      obtain ⟨b,o,sp⟩:=a
      split at h7
      · rename_i c _ _ hh
        split at h7
        · cases h7
        · rename_i hs
          cases sp with
          | none=>exact ⟨b,o,rfl,(Array.getElem?_eq_some_iff.1 hh).1⟩
          | some s=>simp at hs
      · cases h7
    have hlist:∀m,m≤len→∃l:List α,l.length=m∧∀(i:Nat) y,l[i]? = some y→(f y).length=k∧∀(j:Nat) d,(f y)[j]? = some d→∃c,w.cell? ⟨b,o+i*k+j,none⟩=some c∧Cv (below w) w d c:=by
      intro m
      induction m with
      | zero=>intro _;exact ⟨[],rfl,fun i y h=>by simp at h⟩
      | succ m ih=>
        intro hm
        obtain ⟨l,hl,hall⟩:=ih (by omega)
        obtain ⟨y,cs,h2,h4,h5,h6⟩:=key m (by omega)
        refine ⟨l++[y],by simp [hl],fun i z hz=>?_⟩
        by_cases hi:i < l.length
        · rw [List.getElem?_append_left hi] at hz;exact hall i z hz
        · rw [List.getElem?_append_right (by omega)] at hz
          have hi0:i=m:=by
            have:=(List.getElem?_eq_some_iff.1 hz).1
            simp at this;omega
          subst hi0
          rw [hl,Nat.sub_self] at hz
          simp at hz
          subst hz
          refine ⟨h5,fun j d hj=>?_⟩
          have hjl:j < cs.length:=by rw [h4,←h5];exact (List.getElem?_eq_some_iff.1 hj).1
          have h7:=(LJ h2).2 j cs[j] (List.getElem?_eq_getElem hjl)
          rw [Bi,Bi] at h7
          exact ⟨cs[j],h7,h6 j _ d (List.getElem?_eq_getElem hjl) hj⟩
    obtain ⟨l,hl,hall⟩:=hlist len (Nat.le_refl _)
    refine ⟨l,rfl,rfl,HV ?_⟩
    have hll:(l.map f).length=len:=by simp [hl]
    rw [←hll]
    refine .l (b:=b) (o:=o) (k:=k) (vs:=fun i j=>(w.cell? ⟨b,o+i*k+j,none⟩).getD undef) hb (by simpa [hl] using hlc) hcm (fun i r hr=>?_) (fun i r j d hr hd=>?_) (fun i r j d hr hd=>?_)
    all_goals
      rw [List.getElem?_map,Option.map_eq_some_iff] at hr
      obtain ⟨y,hy,rfl⟩:=hr
    · exact (hall i y hy).1
    · obtain ⟨c,h1,_⟩:=(hall i y hy).2 j d hd
      rw [h1];rfl
    · obtain ⟨c,h1,h2⟩:=(hall i y hy).2 j d hd
      rw [h1];exact h2
end
def P5 (w:World):View:=⟨below w,id,fun _=>0,fun _=>True,0,w⟩
section
variable {P:Program} {w:World} {t:TypeId} {k:Nat} {H:Type} {enc:TypeId×Value→H}
theorem XJ {α:Type} {f:α→List D} {e:TypeId} (ht:P.underlying t=some (.slice e)) (h:Rd P w t 1 (fun l:List α=>[.l (l.map f)])) {v:Value} {d:DataW H} {ps:List MemPlace} {base:Nat} (hv:Value.okWide P w .any base t v) (hd:DataW.Trod enc P w 0 (fun _=>true) true t v d ps) :
    ∃l:List α,AX (P5 w) (.o (.d (.l (l.map f)))) v:=by
  obtain ⟨m,hm⟩:=hd
  obtain ⟨l,h1,h2,h3⟩:=h enc m _ _ hm
  refine ⟨l,?_⟩
  have:v.cells.toList=[v]:=by
    unfold Value.okWide Cell.okWide Cell.ok at hv
    simp only [ht] at hv
    split at hv<;>simp_all [Value.cells]
  rw [this] at h3
  exact .d (h3 0 v _ rfl rfl)
structure Ff (W W':World):Prop where
  os:W'.os=W.os
  output:W'.output=W.output
  size:W.heap.size≤W'.heap.size
  old:∀b,b < W.heap.size→W'.heap[b]? = W.heap[b]?
theorem Ff.sameAt {W W':World} (h:Ff W W') {p:MemPlace} (hp:p.block < W.heap.size):W.sameAt W' p:=by
  cases p with
  | cell b off=>show W'.cell? _=W.cell? _;simp only [World.cell?,h.old b hp]
  | map b=>exact h.old b hp
theorem Ff.kept {W W':World} (h:Ff W W') (may:MemPlace→Prop):W.keptBut W' may:=by
  refine ⟨h.os,h.output,fun i hi=>?_⟩
  rw [h.old i hi]
  split
  · rename_i h1 h2
    rw [h1] at h2
    injection h2 with h2;injection h2 with h3 h4 h5
    exact ⟨h4.symm,h5.symm,by rw [h3],fun j _=>by rw [h3]⟩
  · rename_i h1 h2
    rw [h1] at h2
    injection h2 with h2;injection h2 with h3 h4
    exact .inr ⟨h3.symm,h4.symm⟩
  · rfl
theorem Io {W W':World} (hl:laidOutB P=true) (h:Ff W W') {sp:Nat→Bool}:∀ {ts:List TypeId} {vs:List Value} {ds:List (DataW H)} {ps:List MemPlace},(ts.all fun t=>P.readableRec t && decide (t < P.types.size))=true→
    DataW.TrodAll enc P W 0 (fun _=>true) true ts vs ds ps→(∀p∈ps,p.block < W.heap.size)→(∀p∈ps,sp p.block=true)→DataW.TrodAll enc P W' 0 sp true ts vs ds ps
  | [],vs,ds,ps,_,h1,_,_=>by obtain ⟨rfl,rfl,rfl⟩:=trodAll_nil h1;exact rfl
  | t::ts,vs,ds,ps,ha,h1,h2,h3=>by
    obtain ⟨v,vs',d,ds',p,q,rfl,rfl,rfl,h4,h5⟩:=trodAll_cons h1
    simp only [List.all_cons,Bool.and_eq_true,decide_eq_true_eq] at ha
    refine ⟨p,q,Go.WideElems.Trod_stays hl ha.1.1 ha.1.2 h4 (fun x hx=>h.sameAt (h2 x (List.mem_append_left _ hx))) (fun x hx=>h3 x (List.mem_append_left _ hx)),Io hl h (by simpa using ha.2) h5 (fun x hx=>h2 x (List.mem_append_right _ hx)) (fun x hx=>h3 x (List.mem_append_right _ hx)),rfl⟩
theorem Xu {f:Func} {s:ChangeSpec} {again:Bool} {W W':World} {args:Array Value} {ds gs:List (DataW H)} {before:List MemPlace} {tb:TypeId} (hl:laidOutB P=true) (hts:(f.params.toList.all fun t=>P.readableRec t && decide (t < P.types.size))=true)
    (hW:DataW.Whole enc P f.params.toList s.vars false W args.toList ds gs before) (hs:Ff W W') (hv:s.vars=[]) (hr:f.resultTypes = #[tb]) (htb:P.underlying tb=some .bool) (hone:(Value.bool true).resultList 1=[.bool true])
    (hfn:s.fn H (ds++gs) = { results:=[.lit (.bool true)],args:=ds }):s.post enc P f false true false again W args (.bool true) W':=by
  have hlt:=hW.lt
  have hW':=hW
  obtain ⟨p,q,hA,hV,he,hz,hn⟩:=hW
  rw [hv] at hV
  obtain ⟨rfl,rfl⟩:=trodVars_none hV
  rw [List.append_nil] at he
  subst he
  have hres:∀(b:Nat) (sp:Nat→Bool) (hd:Bool),DataW.TrodAll enc P W' b sp hd f.resultTypes.toList ((Value.bool true).resultList f.resultTypes.size) (s.fn H (ds++[])).results []:=fun b sp hd=>by
    rw [hr,hfn]
    show DataW.TrodAll enc P W' b sp hd [tb] ((Value.bool true).resultList 1) [.lit (.bool true)] []
    rw [hone]
    exact trodAll_mk1 (RowKit.shut_bool htb true)
  have hargs:∀sp:Nat→Bool,(∀x∈before,sp x.block=true)→DataW.TrodAll enc P W' 0 sp true f.params.toList args.toList (s.fn H (ds++[])).args before:=fun sp hsp=>by
    rw [hfn]
    exact Io hl hs hts hA hlt hsp
  have hvars:∀sp:Nat→Bool,DataW.TrodVars enc P W' sp s.vars (s.fn H (ds++[])).vars []:=fun sp=>by
    rw [hv,hfn];exact rfl
  refine ⟨ds,[],before,[],before,[],hW',hres _ _ _,hargs _ fun x hx=>by simpa using hlt x hx,hvars _,hs.kept _,fun _=>?_⟩
  refine ⟨ok_one hr hone (okWide_bool_mk htb true),_,_,([]++before)++[],⟨[]++before,[],trodAll_append (hargs _ (fun _ _=>rfl)) (hres _ _ _),hvars _,rfl,?_,fun ha=>by cases ha⟩,fun x hx _=>by simpa using hx⟩
  intro b off hp
  have hp':MemPlace.cell b off∈before:=by simpa using hp
  have h1:=hz b off hp'
  have h2:b < W.heap.size:=hlt _ hp'
  simpa [World.frozen?,hs.old b h2] using h1
end
end Go.Am
namespace Go.Am
open Go
def DK (s:Int) (n:Nat):Bool:=decide (DC .i64 (s.fdiv (2 ^ min n 64)) 1=1)
def hasB (s n:Int):Bool:=decide (0≤n) && DK s n.toNat
def Bq (n:Int):Bool:=decide (0≤n∧n≤63)
abbrev iD (n:Int):D:=.v (.int .i64 n)
abbrev bD (b:Bool):D:=.v (.bool b)
abbrev tD (s:List UInt8):D:=.v (.string ⟨s.toArray⟩)
abbrev CC (n:Int):List D:=[iD n]
abbrev HB (b:Bool):List D:=[bD b]
abbrev BH (s:List UInt8):List D:=[tD s]
abbrev E0 (l:List Int):D:=.l (l.map CC)
abbrev Ew (l:List Bool):D:=.l (l.map HB)
abbrev AZ (l:List (List UInt8)):D:=.l (l.map BH)
abbrev AU (n:Int):List C:=[.d (iD n)]
abbrev AH (b:Bool):List C:=[.d (bD b)]
abbrev AJ (s:List UInt8):List C:=[.d (tD s)]
abbrev FY (l:List Int):List D:=[E0 l]
abbrev C1 (l:List (List Int)):D:=.l (l.map FY)
abbrev SM (l:List Int):List C:=[.d (E0 l)]
structure Dp where
  f:Int
  l:Int
  t:Int
  deriving DecidableEq
structure Sys where
  al:Int
  st:Int
  es:List Dp
structure B6 where
  al:Int
  nx:List (List Int)
  ac:List Bool
abbrev CS (e:Dp):List D:=[iD e.f,iD e.l,iD e.t]
abbrev A0 (e:Dp):List C:=[.d (iD e.f),.d (iD e.l),.d (iD e.t)]
abbrev Sx (e:Dp):E:=.a [.d (iD e.f),.d (iD e.l),.d (iD e.t)]
abbrev EF (l:List Dp):D:=.l (l.map CS)
abbrev B5 (s:Sys):List D:=[iD s.al,iD s.st,EF s.es]
abbrev CN (s:Sys):E:=.a [.d (iD s.al),.d (iD s.st),.d (EF s.es)]
abbrev BF (a:B6):List D:=[iD a.al,C1 a.nx,Ew a.ac]
abbrev BC (a:B6):E:=.a [.d (iD a.al),.d (C1 a.nx),.d (Ew a.ac)]
abbrev AW (l:List Int):E:=.o (.d (E0 l))
abbrev Mz (l:List Bool):E:=.o (.d (Ew l))
abbrev Kd (l:List (List Int)):E:=.o (.d (C1 l))
abbrev Bk (l:List (List UInt8)):E:=.o (.d (AZ l))
abbrev XR (l:List Dp):E:=.o (.d (EF l))
def AA (s:Int) (k:Nat):List Int:=((List.range k).filter (DK s)).map Int.ofNat
theorem AI (s:Int) (k:Nat):(AA s k).length≤k:=by
  unfold AA;rw [List.length_map];exact Nat.le_trans (List.length_filter_le _ _) (by simp)
theorem B8 (s:Int) (k:Nat):AA s (k+1)=AA s k++if DK s k then [(k:Int)] else []:=by
  unfold AA
  rw [List.range_succ,List.filter_append,List.map_append]
  cases h:DK s k<;>simp [h]
abbrev Af (s:Int):List Int:=AA s 6
def CO (al st:Int) (e:Dp):Bool:=decide (0≤e.f∧e.f < st∧0≤e.t∧e.t < st∧0≤e.l∧e.l < 6) && DK al e.l.toNat
def HC (e f:Dp):Bool:=if e.f≠f.f then decide (e.f < f.f) else if e.l≠f.l then decide (e.l < f.l) else decide (e.t < f.t)
def Gn (s:Sys) (i:Nat):Bool:=match s.es[i]? with
  | none=>true
  | some e=>CO s.al s.st e && match i with
    | 0=>true
    | j+1=>match s.es[j]? with
      | none=>true
      | some p=>HC p e
def BB (s:Sys):Bool:=Bq s.al && decide (1≤s.st∧s.st≤16) && (List.range s.es.length).all (Gn s)
theorem ER {α:Type} {l:List α} {f:α→Bool} {k:Nat} {x:α} (h:l[k]? = some x) (h1:(l.take k).all f=true) (h2:f x=true):(l.take (k+1)).all f=true:=by
  rw [List.take_add_one,h];simp [List.all_append,h1,h2]
theorem Gq {α:Type} {l:List α} {f:α→Bool} {k:Nat} {x:α} (h:l[k]? = some x) (h2:f x=false):l.all f=false:=by
  rw [List.all_eq_false];exact ⟨x,List.mem_of_getElem? h,by simp [h2]⟩
theorem EP {α:Type} {l:List α} {f:α→Bool} {k:Nat} (h:(l.take k).all f=true) (hk:l.length≤k):l.all f=true:=by
  rwa [List.take_of_length_le hk] at h
theorem get_map {α β:Type} {l:List α} {g:α→β} {k:Nat} {x:α} (h:l[k]? = some x):(l.map g)[((k:Nat):Int).toNat]? = some (g x):=by simp [h]
theorem get_some {α:Type} {l:List α} {k:Nat} (h:k < l.length):∃x,l[k]? = some x:=⟨_,List.getElem?_eq_getElem h⟩
def Nf (n:Int) (q:Int):Bool:=decide (0≤q∧q < n)
def DS (ls n:Int) (row:List Int):Bool:=decide ((row.length:Int)=ls) && row.all (Nf n)
def A6 (a:B6):Bool:=Bq a.al && decide (1≤a.nx.length∧a.nx.length≤12) && decide (a.ac.length=a.nx.length) && a.nx.all (DS (Af a.al).length a.nx.length)
end Go.Am
