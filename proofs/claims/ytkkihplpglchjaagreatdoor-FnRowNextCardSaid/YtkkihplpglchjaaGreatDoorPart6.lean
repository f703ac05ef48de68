/-
  The steps of a walk, few and short: what an operation gives is reckoned.
-/
import Derived.Test.YtkkihplpglchjaaGreatDoorPart5
import Derived.ProofKit
import Derived.OpenShut
import Derived.WideKeyArgs
import Derived.Deep.DeepHandedRow
import Derived.Lib.LaidTab
set_option linter.constructorNameAsVariable false
set_option linter.unusedSimpArgs false
set_option linter.unusedVariables false
namespace Go.Am
open Go
class MM (P:Program) (t:TypeId):Prop where
  out:P.underlying t=some .bool
theorem oA {p:Prop} [Decidable p]:(decide p=true)=p:=decide_eq_true_eq
theorem oB {p:Prop} [Decidable p]:decide p=false↔¬p:=decide_eq_false_iff_not
theorem oC {α β:Type} {l:List α} {f:α→β}:(l.map f).length=l.length:=List.length_map f
theorem oD {α:Type} {l m:List α}:(l++m).length=l.length+m.length:=List.length_append
theorem oE {α:Type} {n:Nat} {x:α}:(List.replicate n x).length=n:=List.length_replicate
theorem oF {α:Type} {x:α} {l:List α}:(x::l).length=l.length+1:=List.length_cons
theorem oG {α:Type}:([]:List α).length=0:=List.length_nil
theorem oZ:(∀(p:Prop) [Decidable p],(decide p=true)=p)∧(∀(p:Prop) [Decidable p],decide p=false↔¬p)∧(∀(α β:Type) (l:List α) (f:α→β),(l.map f).length=l.length)∧(∀(α:Type) (l m:List α),(l++m).length=l.length+m.length)∧(∀(α:Type) (n:Nat) (x:α),(List.replicate n x).length=n)∧(∀(α:Type) (x:α) (l:List α),(x::l).length=l.length+1)∧∀(α:Type),([]:List α).length=0:=
  ⟨fun _ _=>oA,fun _ _=>oB,fun _ _ _ _=>oC,fun _ _ _=>oD,fun _ _ _=>oE,fun _ _ _=>oF,fun _=>oG⟩
structure TI where
  ld:Option (Bool×Nat):=none
  ik:Option IntKind:=none
  st:Bool:=false
  sl:Option (Nat×Nat×Nat):=none
  ar:Option (Nat×Nat):=none
  fl:List (Option (Nat×Bool×Nat)):=[]
  pt:Bool:=false
  bo:Bool:=false
  ze:Option (List Value):=none
def NQ (P:Program) (t:Nat):Nat→List (Option (Nat×Bool×Nat))→Prop
  | _,[]=>True
  | k,none::r=>NQ P t (k+1) r
  | k,some x::r=>(Ru P t k=some x.1∧Rv P t k=some x)∧NQ P t (k+1) r
structure Dx (P:Program) (t:Nat) (i:TI):Prop where
  ld:i.ld=none∨WZ P t=i.ld
  ik:i.ik=none∨P.underlying t=i.ik.map .int
  st:i.st=false∨P.underlying t=some .string
  sl:i.sl=none∨Xz P t=i.sl
  ar:i.ar=none∨X6 P t=i.ar
  fl:NQ P t 0 i.fl
  pt:i.pt=false∨∃e,P.underlying t=some (.pointer e)
  bo:i.bo=false∨P.underlying t=some .bool
  ze:i.ze=none∨Sl P t=i.ze
def P4 (P:Program):List (Nat×TI)→Prop
  | []=>True
  | (t,i)::r=>Dx P t i∧P4 P r
def Z4:Value→Value→Bool
  | .int k n,.int k' n'=>decide (k=k') && decide (n=n')
  | .bool a,.bool b=>decide (a=b)
  | .string ⟨⟨a⟩⟩,.string ⟨⟨b⟩⟩=>a.isEmpty && b.isEmpty
  | .slice none 0 0,.slice none 0 0=>true
  | .pointer none,.pointer none=>true
  | .map none,.map none=>true
  | .nilFunc,.nilFunc=>true
  | .nilIface,.nilIface=>true
  | _,_=>false
theorem XG:∀ {a b:Value},Z4 a b=true→a=b:=by
  intro a b h
  unfold Z4 at h
  split at h<;>simp_all
def Zq:List Value→List Value→Bool
  | [],[]=>true
  | a::l,b::m=>Z4 a b && Zq l m
  | _,_=>false
theorem UF:∀ {l m:List Value},Zq l m=true→l=m
  | [],[],_=>rfl
  | a::l,b::m,h=>by
    unfold Zq at h
    rw [Bool.and_eq_true] at h
    rw [XG h.1,UF h.2]
  | [],_::_,h=>by cases h
  | _::_,[],h=>by cases h
def Yk (P:Program) (t:Nat):Nat→List (Option (Nat×Bool×Nat))→Bool
  | _,[]=>true
  | k,none::r=>Yk P t (k+1) r
  | k,some x::r=>decide (Ru P t k=some x.1) && decide (Rv P t k=some x) && Yk P t (k+1) r
theorem Ph {P:Program} {t:Nat}:∀ {l:List (Option (Nat×Bool×Nat))} {k:Nat},Yk P t k l=true→NQ P t k l
  | [],_,_=>trivial
  | none::r,k,h=>Ph (l:=r) (k:=k+1) h
  | some x::r,k,h=>by
    unfold Yk at h
    simp only [Bool.and_eq_true,decide_eq_true_eq] at h
    exact ⟨h.1,Ph h.2⟩
def av (d:Option TypeDesc) (i:TI):Bool:=match d with
  | some (.int k)=>(match i.ik with|none=>true|some k'=>decide (k=k')) && !i.st && !i.pt && !i.bo
  | some .string=>i.ik.isNone && !i.pt && !i.bo
  | some (.pointer _)=>i.ik.isNone && !i.st && !i.bo
  | some .bool=>i.ik.isNone && !i.st && !i.pt
  | _=>i.ik.isNone && !i.st && !i.pt && !i.bo
def ZZ (P:Program) (t:Nat) (i:TI):Bool:=
  (i.ld.isNone || decide (WZ P t=i.ld)) && (av (P.underlying t) i && ((i.sl.isNone || decide (Xz P t=i.sl)) && ((i.ar.isNone || decide (X6 P t=i.ar)) && (Yk P t 0 i.fl && match i.ze with
    | none=>true
    | some l=>match Sl P t with
      | some l'=>Zq l' l
      | none=>false))))
theorem or_none {α:Type} [DecidableEq α] {a b:Option α} (h:(b.isNone || decide (a=b))=true):b=none∨a=b:=by
  rw [Bool.or_eq_true] at h
  rcases h with h|h
  · left;cases b<;>simp_all
  · right;exact of_decide_eq_true h
theorem XD {P:Program} {t:Nat} {i:TI} (h:ZZ P t i=true):Dx P t i:=by
  unfold ZZ at h
  simp only [Bool.and_eq_true] at h
  obtain ⟨h1,h2,h3,h4,h5,h6⟩:=h
  have hd:(i.ik=none∨P.underlying t=i.ik.map .int)∧(i.st=false∨P.underlying t=some .string)∧(i.pt=false∨∃e,P.underlying t=some (.pointer e))∧(i.bo=false∨P.underlying t=some .bool):=by
    unfold av at h2
    split at h2
    · rename_i k hk
      cases hik:i.ik<;>simp_all
    all_goals simp_all
  refine ⟨or_none h1,hd.1,hd.2.1,or_none h3,or_none h4,Ph h5,hd.2.2.1,hd.2.2.2,?_⟩
  split at h6
  · rename_i hz;exact .inl hz
  · rename_i l hz
    split at h6
    · rename_i l' hz'
      right;rw [hz',hz,UF h6]
    · cases h6
def WG (P:Program):List (Nat×TI)→Bool
  | []=>true
  | (t,i)::r=>ZZ P t i && WG P r
theorem Qf {P:Program}:∀ {l:List (Nat×TI)},WG P l=true→P4 P l
  | [],_=>trivial
  | (t,i)::r,h=>by
    unfold WG at h
    rw [Bool.and_eq_true] at h
    exact ⟨XD h.1,Qf h.2⟩
class Cj (P:Program) where
  T:List (Nat×TI)
  ok:P4 P T
def Hf:List (Nat×TI)→Nat→TI
  | [],_=>{}
  | (k,x)::r,t=>bif Nat.beq k t then x else Hf r t
def nth {α:Type}:List α→Nat→Option α
  | [],_=>none
  | x::_,0=>some x
  | _::r,n+1=>nth r n
theorem J0 {α:Type}:∀(l:List α) (i:Nat),nth l i=l[i]?
  | [],_=>by simp [nth]
  | o::_,0=>by simp [nth]
  | _::r,n+1=>by simp [nth,J0 r n]
theorem CY {P:Program} (t:Nat):∀ {T:List (Nat×TI)},P4 P T→Dx P t (Hf T t)
  | [],_=>⟨.inl rfl,.inl rfl,.inl rfl,.inl rfl,.inl rfl,trivial,.inl rfl,.inl rfl,.inl rfl⟩
  | (k,x)::r,h=>by
    unfold Hf
    cases hb:Nat.beq k t
    · exact CY t h.2
    · have:=Nat.eq_of_beq_eq_true hb
      subst this
      exact h.1
section
variable {P:Program} {t:Nat} {i:TI}
theorem Dx.Js (h:Dx P t i) {ag:Bool} {n:Nat} (e:i.ld=some (ag,n)):Df P t ag n:=⟨by rcases h.ld with h|h<;>simp_all⟩
theorem Dx.Tf (h:Dx P t i) {k:IntKind} (e:i.ik=some k):Ho P t k:=⟨by rcases h.ik with h|h<;>simp_all⟩
theorem Dx.Th (h:Dx P t i) (e:i.st=true):CR P t:=⟨by rcases h.st with h|h<;>simp_all⟩
theorem Dx.Oh (h:Dx P t i) {e k b:Nat} (he:i.sl=some (e,k,b)):BS P t e k b:=⟨by rcases h.sl with h|h<;>simp_all⟩
theorem Dx.Yo (h:Dx P t i) {n k:Nat} (he:i.ar=some (n,k)):LP P t n k:=⟨by rcases h.ar with h|h<;>simp_all⟩
theorem Dx.Tg (h:Dx P t i) (e:i.pt=true):O7 P t:=⟨h.pt.resolve_left (by simp [e])⟩
theorem Dx.Vi (h:Dx P t i) (e:i.bo=true):MM P t:=⟨by rcases h.bo with h|h<;>simp_all⟩
theorem Dx.Ti (h:Dx P t i) {z:List Value} (e:i.ze=some z):Bz P t z:=⟨by rcases h.ze with h|h<;>simp_all⟩
theorem NQ.get:∀ {l:List (Option (Nat×Bool×Nat))} {k j:Nat} {x:Nat×Bool×Nat},NQ P t k l→nth l j=some (some x)→Ru P t (k+j)=some x.1∧Rv P t (k+j)=some x
  | [],_,_,_,_,h=>by simp [nth] at h
  | none::r,k,0,x,_,h=>by simp [nth] at h
  | some y::r,k,0,x,hf,h=>by simp [nth] at h;subst h;exact hf.1
  | none::r,k,j+1,x,hf,h=>by
    have:=NQ.get (l:=r) (k:=k+1) (j:=j) (x:=x) hf h
    rwa [show k+(j+1)=k+1+j by omega]
  | some y::r,k,j+1,x,hf,h=>by
    have:=NQ.get (l:=r) (k:=k+1) (j:=j) (x:=x) hf.2 h
    rwa [show k+(j+1)=k+1+j by omega]
theorem Dx.WU (h:Dx P t i) {j off n:Nat} {ag:Bool} (e:nth i.fl j=some (some (off,ag,n))):MN P t j off:=⟨by have:=(h.fl.get e).1;rwa [Nat.zero_add] at this⟩
theorem Dx.Vj (h:Dx P t i) {j off n:Nat} {ag:Bool} (e:nth i.fl j=some (some (off,ag,n))):JO P t j off ag n:=⟨by have:=(h.fl.get e).2;rwa [Nat.zero_add] at this⟩
end
def EA (P:Program) (TB:Bc) (Γ:Ctx) (ops:Array Oper) (o:Oper) (fl:Fl) (i n:Nat) (K:Env→Ab→Nat→Prop) (L:List (Nat×E)) (σ:Ab) (nx:Nat):Prop:=
  Bf ops o (look L)=some true→Br P TB Γ ops o fl i n K L σ nx
def xE:Bool×List C→Option E
  | (false,[c])=>some (.o c)
  | (true,cs)=>some (.a cs)
  | _=>none
def ZF (f:Env):Op→Option E
  | .move x=>ev f x
  | .pick c x y=>match ev f c with
    | some (.o (.d (.v (.bool true))))=>ev f x
    | some (.o (.d (.v (.bool false))))=>ev f y
    | _=>none
  | .extract x k=>match ev f x with
    | some (.t xs)=>(xs[k]?).bind xE
    | _=>none
  | .nilCheck x=>match ev f x with
    | some (.o (.d (.p cs)))=>some (.o (.ip cs))
    | some (.o (.ptr id k i j))=>some (.o (.ptr id k i j))
    | some (.o (.fn gg cs))=>some (.o (.fn gg cs))
    | _=>none
  | _=>none
def XO:IntKind→IntKind→Bool
  | .i64,.i64|.u8,.u8|.u64,.u64|.i32,.i32|.u16,.u16|.u32,.u32=>true
  | _,_=>false
theorem Kw {a b:IntKind} (h:XO a b=true):a=b:=by cases a<;>cases b<;>first|rfl|cases h
def Yg (o:BinOp) (m n:Int):Option Bool:=match o with
  | .lss=>some (decide (m < n))
  | .leq=>some (decide (m≤n))
  | .gtr=>some (decide (m > n))
  | .geq=>some (decide (m≥n))
  | .eql=>some (decide (m=n))
  | .neq=>some (decide (m≠n))
  | _=>none
def Yf (o:BinOp) (a b:List UInt8):Option Bool:=match o with
  | .eql=>some (decide (a=b))
  | .neq=>some (decide (a≠b))
  | _=>none
def WL (o:BinOp):E→E→Option Bool
  | .o (.d (.v (.int k m))),.o (.d (.v (.int k' n)))=>match XO k k' with
    | true=>Yg o m n
    | false=>none
  | .o (.d (.v (.string ⟨⟨a⟩⟩))),.o (.d (.v (.string ⟨⟨b⟩⟩)))=>Yf o a b
  | _,_=>none
def RT:IntKind→Int→Option Prop
  | .i64,m=>some (-9223372036854775808≤m∧m≤9223372036854775807)
  | .u64,m=>some (0≤m∧m≤18446744073709551615)
  | .u8,m=>some (0≤m∧m≤255)
  | .i32,m=>some (-2147483648≤m∧m≤2147483647)
  | _,_=>none
def aa (o:BinOp) (k:IntKind) (m n:Int):Option (Prop×E):=match o with
  | .add=>(RT k (m+n)).map fun q=>(q,eI k (m+n))
  | .sub=>(RT k (m - n)).map fun q=>(q,eI k (m - n))
  | .mul=>(RT k (m*n)).map fun q=>(q,eI k (m*n))
  | .rem=>some (0≤m∧0 < n,eI k (m % n))
  | .and=>some (True,eI k (DH k m n))
  | .or=>some (True,eI k (Ry k m n))
  | _=>none
def Zw (o:BinOp):E→E→Option (Prop×E)
  | .o (.d (.v (.int k m))),.o (.d (.v (.int k' n)))=>match o with
    | .shr=>some (0≤n,eI k (m.fdiv (2 ^ (min n.toNat k.bits))))
    | .quo=>match XO k .i64,XO k' .i64 with
      | true,true=>some ((0≤m∧m≤9223372036854775807)∧0 < n,eI .i64 (m / n))
      | _,_=>none
    | o=>match XO k k' with
      | true=>aa o k m n
      | false=>none
  | .o (.d (.v (.string ⟨⟨a⟩⟩))),.o (.d (.v (.string ⟨⟨b⟩⟩)))=>match o with
    | .add=>some (a.length+b.length≤9223372036854775807,eT (a++b))
    | _=>none
  | _,_=>none
def WS (off:Nat):E→Option E
  | .o (.d (.p cs))=>some (.o (.ip (cs.drop off)))
  | .o (.ptr id k i j)=>some (.o (.ptr id k i (j+off)))
  | _=>none
def ZJ (ag:Bool) (n:Nat):E→Option E
  | .o (.d (.p cs))=>match ag,cs with
    | false,c::_=>some (.o (.d c))
    | true,cs=>match Nat.ble n cs.length with
      | true=>some (.a ((cs.take n).map .d))
      | false=>none
    | _,_=>none
  | _=>none
def W0 (ag:Bool) (n j:Nat) (r:List C):Option E:=match ag with
  | false=>(r[j]?).map .o
  | true=>match Nat.ble (j+n) r.length with
    | true=>some (.a ((r.drop j).take n))
    | false=>none
def ZH (ag:Bool) (off n:Nat) (cs:List C):Option E:=match ag with
  | false=>(cs[off]?).map .o
  | true=>match Nat.ble (off+n) cs.length with
    | true=>some (.a ((cs.drop off).take n))
    | false=>none
def ZI (k:Nat) (n:Int):E→Option E
  | .o (.d (.p cs))=>some (.o (.ip (cs.drop (n.toNat*k))))
  | .o (.ptr id k' i j)=>some (.o (.ptr id k' i (j+n.toNat*k)))
  | _=>none
def ZK (k:Nat):E→Option E
  | .o (.d (.l rows))=>some (eI .i64 rows.length)
  | .o (.arr _ k' _ len)=>match Nat.beq k' k with
    | true=>some (eI .i64 len)
    | false=>none
  | _=>none
def tr:Option E→Option (Prop×E)
  | some e=>some (True,e)
  | none=>none
def Xf:Bool→E→E→Option (Prop×E)
  | true,.o (.d (.p _)),.o (.d (.v (.pointer none)))=>some (True,eB false)
  | true,.o (.d (.v (.pointer none))),.o (.d (.v (.pointer none)))=>some (True,eB true)
  | _,_,_=>none
def Yc (pt:Bool) (o:BinOp) (a b:E):Option (Prop×E):=match o with
  | .eql=>Xf pt a b
  | o=>Zw o a b
def WV (i:TI):E→E→Option (Prop×E)
  | .o (.arr id k off len),.o (.d (.v (.int _ m)))=>match i.sl with
    | some (_,k',_)=>match Nat.beq k k' with
      | true=>some (0≤m∧m < len,.o (.ptr id k (off+m.toNat) 0))
      | false=>none
    | none=>none
  | a, .o (.d (.v (.int _ m)))=>match i.ar with
    | some (len,k)=>match ZI k m a with
      | some e=>some (0≤m∧m < len,e)
      | none=>none
    | none=>none
  | _,_=>none
def W7 (i:TI):E→Option E
  | .o (.d (.v (.string ⟨⟨s⟩⟩)))=>match i.st with
    | true=>some (eI .i64 s.length)
    | false=>none
  | e=>match i.sl with
    | some (_,k,_)=>ZK k e
    | none=>none
def WM (k k':IntKind):E→Option (Prop×E)
  | .o (.d (.v (.int k2 m)))=>match XO k2 k,RT k' m with
    | true,some q=>some (q,eI k' m)
    | _,_=>none
  | _=>none
def Uf (T:List (Nat×TI)) (md:Bool) (f:Env):Op→Option (Prop×E)
  | .assign x=>match md,notNil x with
    | true,false=>none
    | _,_=>tr (ev f x)
  | .binOp o t x y _=>match ev f x,ev f y with
    | some a,some b=>Yc (Hf T t).pt o a b
    | _,_=>none
  | .fieldAddr s x k=>match nth (Hf T s).fl k,ev f x with
    | some (some (off,_,_)),some a=>tr (WS off a)
    | _,_=>none
  | .field t x k=>match nth (Hf T t).fl k,ev f x with
    | some (some (off,ag,n)),some (.a cs)=>tr (ZH ag off n cs)
    | _,_=>none
  | .load t x=>match (Hf T t).ld,ev f x with
    | some (ag,n),some a=>tr (ZJ ag n a)
    | _,_=>none
  | .indexAddr t x y=>match ev f x,ev f y with
    | some a,some b=>WV (Hf T t) a b
    | _,_=>none
  | .call ⟨.builtin .len,⟨[x]⟩,⟨[t]⟩⟩=>match ev f x with
    | some a=>tr (W7 (Hf T t) a)
    | none=>none
  | .convert s t x=>match (Hf T s).ik,(Hf T t).ik,ev f x with
    | some k,some k',some a=>WM k k' a
    | _,_,_=>none
  | .makeFunc (.func gg) ⟨[]⟩ caps=>match GI f caps.toList with
    | some es=>match UD es with
      | some cs=>some (True,.o (.fn gg cs))
      | none=>none
    | none=>none
  | op=>tr (ZF f op)
def ab:BinOp→E→E→Option Bool
  | .eql,.o (.d (.v (.bool a))),.o (.d (.v (.bool b)))=>some (a == b)
  | .neq,.o (.d (.v (.bool a))),.o (.d (.v (.bool b)))=>some (a != b)
  | _,_,_=>none
def OL (T:List (Nat×TI)) (f:Env):Op→Option Bool
  | .binOp o t x y _=>match ev f x,ev f y with
    | some a,some b=>match (Hf T t).bo with
      | true=>ab o a b
      | false=>WL o a b
    | _,_=>none
  | .unOp .not _ x=>match ev f x with
    | some (.o (.d (.v (.bool b))))=>some (!b)
    | _=>none
  | _=>none
def JA (T:List (Nat×TI)) (σ:Ab) (f:Env):Op→Option E
  | .load t x=>match (Hf T t).ld,ev f x with
    | some (ag,n),some (.o (.ptr id k i j))=>match look σ id with
      | some (.cells _ k' rows)=>match Nat.beq k k',nth rows i with
        | true,some r=>W0 ag n j r
        | _,_=>none
      | _=>none
    | _,_=>none
  | _=>none
def MD (T:List (Nat×TI)) (σ:Ab) (f:Env) (t:Nat) (x y:Operand):Option Ab:=
  match (Hf T t).ld,ev f x,ev f y with
  | some (_,n),some (.o (.ptr id k i j)),some e=>match look σ id with
    | some (.cells ct k' rows)=>match Nat.beq k k',nth rows i with
      | true,some r=>match N9 e,Nat.beq (eC e).length n,Nat.ble (j+n) k with
        | true,true,true=>some ((id,.cells ct k (rows.set i (Ae r j (eC e))))::σ)
        | _,_,_=>none
      | _,_=>none
    | _=>none
  | _,_,_=>none
section
variable {P:Program} {TB:Bc} {Γ:Ctx} {d:Option Tmp} {ty:TypeId} {pos:String} {af:Array Edge} {g:Option (Nat×Bool)} {f:Env} {σ:Ab} {nx:Nat}
theorem QT {t:TypeId} {a b:Bool} (he:P.underlying t=some .bool) (w:World):(Op.equal t (.bool a) (.bool b)).run P w=.ok (a == b) w:=by
  unfold Op.equal Op.maxDepth
  rw [show 10000=9999+1 from rfl,Op.equalIn]
  simp [run_underlying he,go_sem]
theorem YK {t yt:TypeId} {x y:Operand} {a b:Bool} [hp:MM P t] (hx:ev f x=some (eB a)) (hy:ev f y=some (eB b)):AU P TB Γ ⟨d,.binOp .eql t x y yt,ty,pos,af,g⟩ f σ nx (eB (a == b)):=
  Bo hx hy rfl fun w=>by
    have h6:binOp .eql t (.bool a) (.bool b)=(do pure (.bool (←Op.equal t (.bool a) (.bool b)))):=rfl
    have h7:eqGuard .eql t x y (.bool a) (.bool b)=pure ():=rfl
    rw [h6,h7]
    simp [QT hp.out w,go_sem]
theorem YU {t yt:TypeId} {x y:Operand} {a b:Bool} [hp:MM P t] (hx:ev f x=some (eB a)) (hy:ev f y=some (eB b)):AU P TB Γ ⟨d,.binOp .neq t x y yt,ty,pos,af,g⟩ f σ nx (eB (a != b)):=
  Bo hx hy rfl fun w=>by
    have h6:binOp .neq t (.bool a) (.bool b)=(do pure (.bool (!(←Op.equal t (.bool a) (.bool b))))):=rfl
    have h7:eqGuard .neq t x y (.bool a) (.bool b)=pure ():=rfl
    rw [h6,h7]
    simp [QT hp.out w,go_sem,bne]
theorem aG {op:Op} {e:E} (h:ZF f op=some e):AU P TB Γ ⟨d,op,ty,pos,af,g⟩ f σ nx e:=by
  unfold ZF at h
  split at h
  · exact Xt h
  · split at h
    · rename_i h1;exact VL h1 h
    · rename_i h1;exact VK h1 h
    · cases h
  · split at h
    · rename_i h1
      refine RM h1 ?_
      rw [←h]
      congr 1
    · cases h
  · split at h
    · rename_i h1;injection h with h;subst h;exact VJ h1
    · rename_i h1;injection h with h;subst h;exact Xu h1
    · rename_i h1;injection h with h;subst h;exact VI h1
    · cases h
  · cases h
theorem YJ {o:BinOp} {t yt:TypeId} {x y:Operand} {ex ey:E} {c:Bool} (hx:ev f x=some ex) (hy:ev f y=some ey) (hc:WL o ex ey=some c) :
    AU P TB Γ ⟨d,.binOp o t x y yt,ty,pos,af,g⟩ f σ nx (eB c):=by
  unfold WL at hc
  split at hc
  · split at hc
    · rename_i hk
      have hk:=Kw hk
      subst hk
      unfold Yg at hc
      split at hc<;>first|(injection hc with hc;subst hc)|cases hc
      · exact YT hx hy
      · exact YS hx hy
      · exact YQ hx hy
      · exact YP hx hy
      · exact YN hx hy
      · exact YW hx hy
    · cases hc
  · unfold Yf at hc
    split at hc<;>first|(injection hc with hc;subst hc)|cases hc
    · exact YL hx hy
    · exact YV hx hy
  · cases hc
theorem Nv {k:IntKind} {m:Int} {q:Prop} (h:RT k m=some q) (hq:q):k.wrap m=m:=by
  unfold RT at h
  split at h<;>first|(injection h with h;subst h)|cases h
  · exact IntWalk.i64_in _ hq
  · exact IntWalk.u64_in _ hq
  · exact IntWalk.u8_in _ hq
  · exact IntWalk.i32_in _ hq
theorem ZQ {o:BinOp} {t yt:TypeId} {x y:Operand} {ex ey e:E} {q:Prop} (hx:ev f x=some ex) (hy:ev f y=some ey) (hc:Zw o ex ey=some (q,e)) (hq:q) :
    AU P TB Γ ⟨d,.binOp o t x y yt,ty,pos,af,g⟩ f σ nx e:=by
  unfold Zw at hc
  split at hc
  · split at hc
    · injection hc with hc;injection hc with h1 h2;subst h1;subst h2;exact Y0 hx hy hq rfl
    · split at hc
      · rename_i hk hk'
        have hk:=Kw hk
        have hk':=Kw hk'
        subst hk;subst hk'
        injection hc with hc;injection hc with h1 h2;subst h1;subst h2;exact Xw hx hy hq.1.1 hq.1.2 hq.2
      · cases hc
    · split at hc
      · rename_i hk
        have hk:=Kw hk
        subst hk
        unfold aa at hc
        split at hc
        · obtain ⟨q',hr,he⟩:=Option.map_eq_some_iff.1 hc
          injection he with h1 h2;subst h1;subst h2;exact YG hx hy (Nv hr hq)
        · obtain ⟨q',hr,he⟩:=Option.map_eq_some_iff.1 hc
          injection he with h1 h2;subst h1;subst h2;exact Y1 hx hy (Nv hr hq)
        · obtain ⟨q',hr,he⟩:=Option.map_eq_some_iff.1 hc
          injection he with h1 h2;subst h1;subst h2;exact Wo hx hy (Nv hr hq)
        · injection hc with hc;injection hc with h1 h2;subst h1;subst h2;exact Xx hx hy hq.1 hq.2
        · injection hc with hc;injection hc with h1 h2;subst h2;exact YH hx hy rfl
        · injection hc with hc;injection hc with h1 h2;subst h2;exact Xv hx hy rfl
        · cases hc
      · cases hc
  · split at hc
    · injection hc with hc;injection hc with h1 h2;subst h1;subst h2;exact YI hx hy hq
    · cases hc
  · cases hc
theorem YO {s k off:Nat} {x:Operand} {ex e:E} [hf:MN P s k off] (hx:ev f x=some ex) (h:WS off ex=some e):AU P TB Γ ⟨d,.fieldAddr s x k,ty,pos,af,g⟩ f σ nx e:=by
  unfold WS at h
  split at h<;>first|(injection h with h;subst h)|cases h
  · exact RN hx
  · exact TV hx
theorem ZU {t:TypeId} {x:Operand} {ex e:E} {ag:Bool} {n:Nat} [hl:Df P t ag n] (hx:ev f x=some ex) (h:ZJ ag n ex=some e):AU P TB Γ ⟨d,.load t x,ty,pos,af,g⟩ f σ nx e:=by
  unfold ZJ at h
  split at h
  · split at h
    · injection h with h;subst h;exact OI hx
    · split at h
      · rename_i hb;injection h with h;subst h;exact RP hx (Nat.le_of_ble_eq_true hb)
      · cases h
    · cases h
  · cases h
theorem OH {t:TypeId} {x:Operand} {id k i j:Nat} {T:TypeId} {rows:List (List C)} {r:List C} {e:E} {ag:Bool} {n:Nat} [hl:Df P t ag n] (hx:ev f x=some (.o (.ptr id k i j))) (ho:look σ id=some (.cells T k rows)) (hr:rows[i]? = some r)
    (h:W0 ag n j r=some e):AU P TB Γ ⟨d,.load t x,ty,pos,af,g⟩ f σ nx e:=by
  unfold W0 at h
  split at h
  · obtain ⟨c,hc,he⟩:=Option.map_eq_some_iff.1 h
    subst he
    exact Nq hx ho hr hc
  · split at h
    · rename_i hb;injection h with h;subst h;exact T8 hx ho hr (Nat.le_of_ble_eq_true hb)
    · cases h
theorem ZS {t:TypeId} {x:Operand} {k off n:Nat} {ag:Bool} {cs:List C} {e:E} [hf:JO P t k off ag n] (hx:ev f x=some (.a cs)) (h:ZH ag off n cs=some e):AU P TB Γ ⟨d,.field t x k,ty,pos,af,g⟩ f σ nx e:=by
  unfold ZH at h
  split at h
  · obtain ⟨c,hc,he⟩:=Option.map_eq_some_iff.1 h
    subst he
    exact VF hx hc
  · split at h
    · rename_i hb;injection h with h;subst h;exact TU hx (Nat.le_of_ble_eq_true hb)
    · cases h
theorem ZT {t:TypeId} {x y:Operand} {ex e:E} {n:Int} {len k:Nat} {ik:IntKind} [hl:LP P t len k] (hx:ev f x=some ex) (hy:ev f y=some (eI ik n)) (h:ZI k n ex=some e) (hn:0≤n∧n < len) :
    AU P TB Γ ⟨d,.indexAddr t x y,ty,pos,af,g⟩ f σ nx e:=by
  unfold ZI at h
  split at h<;>first|(injection h with h;subst h)|cases h
  · exact RO hx hy hn.1 hn.2
  · exact TZ hx hy hn.1 hn.2
theorem YR {t e:TypeId} {x:Operand} {ex r:E} {k b:Nat} [hl:BS P t e k b] (hx:ev f x=some ex) (h:ZK k ex=some r):AU P TB Γ ⟨d,.call ⟨.builtin .len,#[x],#[t]⟩,ty,pos,af,g⟩ f σ nx r:=by
  unfold ZK at h
  split at h
  · injection h with h;subst h;exact T6 hx
  · split at h
    · injection h with h;subst h;exact T5 hx
    · cases h
  · cases h
theorem Jj {x:Option E} {q:Prop} {e:E} (h:tr x=some (q,e)):x=some e:=by
  cases x with
  | none=>cases h
  | some y=>injection h with h;injection h with _ h;rw [h]
theorem W8 {i:TI} {t:TypeId} {x:Operand} {a e:E} (hi:Dx P t i) (hx:ev f x=some a) (h:W7 i a=some e):AU P TB Γ ⟨d,.call ⟨.builtin .len,#[x],#[t]⟩,ty,pos,af,g⟩ f σ nx e:=by
  unfold W7 at h
  split at h
  · split at h
    · rename_i hs
      injection h with h;subst h
      haveI:=hi.Th hs
      exact Xs hx
    · cases h
  · split at h
    · rename_i hs
      haveI:=hi.Oh hs
      exact YR hx h
    · cases h
theorem WY {i:TI} {t:TypeId} {x y:Operand} {a b e:E} {q:Prop} (hi:Dx P t i) (hx:ev f x=some a) (hy:ev f y=some b) (h:WV i a b=some (q,e)) (hq:q):AU P TB Γ ⟨d,.indexAddr t x y,ty,pos,af,g⟩ f σ nx e:=by
  unfold WV at h
  split at h
  · split at h
    · rename_i hs
      split at h
      · rename_i hk
        injection h with h;injection h with h1 h2;subst h1;subst h2
        have:=Nat.eq_of_beq_eq_true hk
        subst this
        haveI:=hi.Oh hs
        exact TW hx hy hq.1 hq.2
      · cases h
    · cases h
  · split at h
    · rename_i hs
      split at h
      · rename_i hv
        injection h with h;injection h with h1 h2;subst h1;subst h2
        haveI:=hi.Yo hs
        exact ZT hx hy hv hq
      · cases h
    · cases h
  · cases h
theorem Xg {i:TI} {t yt:TypeId} {x y:Operand} {a b e:E} {q:Prop} (hi:Dx P t i) (hx:ev f x=some a) (hy:ev f y=some b) (h:Xf i.pt a b=some (q,e)):AU P TB Γ ⟨d,.binOp .eql t x y yt,ty,pos,af,g⟩ f σ nx e:=by
  unfold Xf at h
  split at h
  · rename_i hp
    injection h with h;injection h with h1 h2;subst h2
    haveI:=hi.Tg hp
    exact RL hx hy
  · rename_i hp
    injection h with h;injection h with h1 h2;subst h2
    haveI:=hi.Tg hp
    exact PG hx hy
  · cases h
theorem WN {i i':TI} {s t:TypeId} {k k':IntKind} {x:Operand} {a e:E} {q:Prop} (hi:Dx P s i) (hi':Dx P t i') (hk:i.ik=some k) (hk':i'.ik=some k') (hx:ev f x=some a) (h:WM k k' a=some (q,e)) (hq:q):AU P TB Γ ⟨d,.convert s t x,ty,pos,af,g⟩ f σ nx e:=by
  unfold WM at h
  split at h
  · split at h
    · rename_i h1 hr
      injection h with h;injection h with h2 h3;subst h2;subst h3
      have h1:=Kw h1
      subst h1
      haveI:=hi.Tf hk
      haveI:=hi'.Tf hk'
      exact Np hx (Nv hr hq)
    · cases h
  · cases h
theorem QQ [hT:Cj P] {md:Bool} {op:Op} {q:Prop} {e:E} (h:Uf hT.T md f op=some (q,e)) (hq:q):AU P TB Γ ⟨d,op,ty,pos,af,g⟩ f σ nx e:=by
  have hty:=fun t=>CY (P:=P) t hT.ok
  unfold Uf at h
  split at h
  · split at h
    · cases h
    · exact Im (Jj h)
  · rename_i o t x y yt
    split at h
    · rename_i hx hy
      unfold Yc at h
      split at h
      · exact Xg (hty t) hx hy h
      · exact ZQ hx hy h hq
    · cases h
  · rename_i s x k
    split at h
    · rename_i hf hx
      haveI:=(hty s).WU hf
      exact YO hx (Jj h)
    · cases h
  · rename_i t x k
    split at h
    · rename_i hf hx
      haveI:=(hty t).Vj hf
      exact ZS hx (Jj h)
    · cases h
  · rename_i t x
    split at h
    · rename_i hl hx
      haveI:=(hty t).Js hl
      exact ZU hx (Jj h)
    · cases h
  · rename_i t x y
    split at h
    · rename_i hx hy
      exact WY (hty t) hx hy h hq
    · cases h
  · rename_i x t
    split at h
    · rename_i hx
      exact W8 (hty t) hx (Jj h)
    · cases h
  · rename_i s t x
    split at h
    · rename_i h1 h2 hx
      exact WN (hty s) (hty t) h1 h2 hx h hq
    · cases h
  · split at h
    · rename_i h1
      split at h
      · rename_i h2
        injection h with h;injection h with _ h;subst h
        exact ZR h1 h2
      · cases h
    · cases h
  · exact aG (Jj h)
theorem OM [hT:Cj P] {op:Op} {c:Bool} (h:OL hT.T f op=some c):AU P TB Γ ⟨d,op,ty,pos,af,g⟩ f σ nx (eB c):=by
  have hty:=fun t=>CY (P:=P) t hT.ok
  unfold OL at h
  split at h
  · rename_i o t x y yt
    split at h
    · rename_i hx hy
      split at h
      · rename_i hb
        haveI:=(hty t).Vi hb
        unfold ab at h
        split at h
        · injection h with h;subst h;exact YK hx hy
        · injection h with h;subst h;exact YU hx hy
        · cases h
      · exact YJ hx hy h
    · cases h
  · split at h
    · rename_i hx
      injection h with h;subst h
      exact YX hx
    · cases h
  · cases h
theorem KU [hT:Cj P] {op:Op} {e:E} (h:JA hT.T σ f op=some e):AU P TB Γ ⟨d,op,ty,pos,af,g⟩ f σ nx e:=by
  have hty:=fun t=>CY (P:=P) t hT.ok
  unfold JA at h
  split at h
  · rename_i t x
    split at h
    · rename_i hl hx
      split at h
      · rename_i ho
        split at h
        · rename_i hk hr
          have hk:=Nat.eq_of_beq_eq_true hk
          subst hk
          haveI:=(hty t).Js hl
          rw [J0] at hr
          exact OH hx ho hr h
        · cases h
      · cases h
    · cases h
  · cases h
theorem KV [hT:Cj P] {t:TypeId} {x y:Operand} {σ':Ab} {K:E→Ab→Nat→Prop} (h:MD hT.T σ f t x y=some σ') (hK:K (.t []) σ' nx):B3 P TB Γ ⟨d,.store t x y,ty,pos,af,g⟩ f σ nx K:=by
  have hty:=fun t=>CY (P:=P) t hT.ok
  unfold MD at h
  split at h
  · rename_i hl hx hy
    split at h
    · rename_i ho
      split at h
      · rename_i hk hr
        split at h
        · rename_i h1 h2 h3
          have hk:=Nat.eq_of_beq_eq_true hk
          subst hk
          haveI:=(hty t).Js hl
          rw [J0] at hr
          injection h with h
          subst h
          exact CK hx hy h1 ho hr (Nat.eq_of_beq_eq_true h2) (Nat.le_of_ble_eq_true h3) hK
        · cases h
      · cases h
    · cases h
  · cases h
end
section
variable {P:Program} {TB:Bc} {Γ:Ctx} {ops:Array Oper} {fl:Fl} {i n:Nat} {L:List (Nat×E)} {σ:Ab} {nx:Nat} {K:Env→Ab→Nat→Prop} {d:Tmp} {ty:TypeId} {pos:String} {af:Array Edge} {g:Option (Nat×Bool)} {op:Op}
theorem gA {d:Option Tmp} (hg:Bf ops ⟨d,op,ty,pos,af,g⟩ (look L)=some true) (h:EA P TB Γ ops ⟨d,op,ty,pos,af,g⟩ fl i n K L σ nx):Br P TB Γ ops ⟨d,op,ty,pos,af,g⟩ fl i n K L σ nx:=h hg
theorem gS {x:E} (hq:∀σ nx,AU P TB Γ ⟨some d,op,ty,pos,af,g⟩ (look L) σ nx x) (h:Lex P TB Γ ops (Aj fl (i+1) n) K (look ((d,x)::L)) σ nx):EA P TB Γ ops ⟨some d,op,ty,pos,af,g⟩ fl i n K L σ nx:=fun hg=>CU hq hg h
theorem gQ {x:E} (hq:AU P TB Γ ⟨some d,op,ty,pos,af,g⟩ (look L) σ nx x) (hf:N0 (fl i)=true) (h:Lex P TB Γ ops (Aj fl (i+1) n) K (look ((d,x)::L)) σ nx):EA P TB Γ ops ⟨some d,op,ty,pos,af,g⟩ fl i n K L σ nx:=fun hg=>Xo hq hg hf h
theorem gB {c:Bool} (hq:∀σ nx,AU P TB Γ ⟨some d,op,ty,pos,af,g⟩ (look L) σ nx (eB c)) (h:∀b,c=b→Lex P TB Γ ops (Aj fl (i+1) n) K (look ((d,eB b)::L)) σ nx):EA P TB Γ ops ⟨some d,op,ty,pos,af,g⟩ fl i n K L σ nx:=fun hg=>RK hq hg h
theorem gW (h:B3 P TB Γ ⟨some d,op,ty,pos,af,g⟩ (look L) σ nx (fun x σ' nx'=>Lex P TB Γ ops (Aj fl (i+1) n) K (look ((d,x)::L)) σ' nx')) (hf:fl i=1):EA P TB Γ ops ⟨some d,op,ty,pos,af,g⟩ fl i n K L σ nx:=fun hg=>He h hg hf
theorem ah (h:B3 P TB Γ ⟨none,op,ty,pos,af,g⟩ (look L) σ nx (fun _ σ' nx'=>Lex P TB Γ ops (Aj fl (i+1) n) K (look L) σ' nx')) (hf:fl i=1):EA P TB Γ ops ⟨none,op,ty,pos,af,g⟩ fl i n K L σ nx:=fun hg=>FW h hg hf
theorem yQ {md:Bool} [hT:Cj P] {q:Prop} {x:E} (h:Uf hT.T md (look L) op=some (q,x)) (hq:q) (hk:Lex P TB Γ ops (Aj fl (i+1) n) K (look ((d,x)::L)) σ nx):EA P TB Γ ops ⟨some d,op,ty,pos,af,g⟩ fl i n K L σ nx:=gS (fun _ _=>QQ h hq) hk
theorem yB [hT:Cj P] {c:Bool} (h:OL hT.T (look L) op=some c) (hk:∀b,c=b→Lex P TB Γ ops (Aj fl (i+1) n) K (look ((d,eB b)::L)) σ nx):EA P TB Γ ops ⟨some d,op,ty,pos,af,g⟩ fl i n K L σ nx:=gB (fun _ _=>OM h) hk
theorem yS [hT:Cj P] {x:E} (h:JA hT.T σ (look L) op=some x) (hf:N0 (fl i)=true) (hk:Lex P TB Γ ops (Aj fl (i+1) n) K (look ((d,x)::L)) σ nx):EA P TB Γ ops ⟨some d,op,ty,pos,af,g⟩ fl i n K L σ nx:=gQ (KU h) hf hk
theorem yW [hT:Cj P] {t:TypeId} {x y:Operand} {σ':Ab} (h:MD hT.T σ (look L) t x y=some σ') (hf:fl i=1) (hk:Lex P TB Γ ops (Aj fl (i+1) n) K (look L) σ' nx):EA P TB Γ ops ⟨none,.store t x y,ty,pos,af,g⟩ fl i n K L σ nx:=ah (KV h hk) hf
theorem yO [hT:Cj P] {T:TypeId} {z:List Value} (h:(Hf hT.T T).ze=some z) (hok:z.all Lr=true) (hf:fl i=1) (hK:Lex P TB Γ ops (Aj fl (i+1) n) K (look ((d,.o (.ptr nx z.length 0 0))::L)) ((nx,.cells T z.length [z.map zC])::σ) (nx+1)):EA P TB Γ ops ⟨some d,.alloc T,ty,pos,af,g⟩ fl i n K L σ nx:=
  haveI:=(CY (P:=P) T hT.ok).Ti h
  gW (Vy hok hK) hf
theorem yM [hT:Cj P] {t:TypeId} {x:Operand} {id k i' j:Nat} {T:TypeId} {rows:List (List C)} {r:List C} {e:E} {ag:Bool} {m:Nat} (hx:ev (look L) x=some (.o (.ptr id k i' j))) (ho:look σ id=some (.cells T k rows)) (hr:rows[i']? = some r) (hl:(Hf hT.T t).ld=some (ag,m))
    (h:W0 ag m j r=some e) (hf:N0 (fl i)=true) (hk:Lex P TB Γ ops (Aj fl (i+1) n) K (look ((d,e)::L)) σ nx):EA P TB Γ ops ⟨some d,.load t x,ty,pos,af,g⟩ fl i n K L σ nx:=
  haveI:=(CY (P:=P) t hT.ok).Js hl
  gQ (OH hx ho hr h) hf hk
theorem yV [hT:Cj P] {t:TypeId} {x y:Operand} {id k i' j m:Nat} {T:TypeId} {rows:List (List C)} {r:List C} {e:E} {ag:Bool} (hx:ev (look L) x=some (.o (.ptr id k i' j))) (hy:ev (look L) y=some e) (ho:N9 e=true) (hlk:look σ id=some (.cells T k rows)) (hr:rows[i']? = some r)
    (hl:(Hf hT.T t).ld=some (ag,m)) (hn:(eC e).length=m) (hj:Nat.ble (j+m) k=true) (hf:fl i=1) (hk:Lex P TB Γ ops (Aj fl (i+1) n) K (look L) ((id,.cells T k (rows.set i' (Ae r j (eC e))))::σ) nx):EA P TB Γ ops ⟨none,.store t x y,ty,pos,af,g⟩ fl i n K L σ nx:=
  haveI:=(CY (P:=P) t hT.ok).Js hl
  ah (CK hx hy ho hlk hr hn (Nat.le_of_ble_eq_true hj) hk) hf
theorem aI [hT:Cj P] {α:Type} {t e:TypeId} {x:Operand} {l:List α} {g1:α→List D} {k b:Nat} (hx:ev (look L) x=some (.o (.d (.l (l.map g1))))) (hl:(Hf hT.T t).sl=some (e,k,b)) (hk:Lex P TB Γ ops (Aj fl (i+1) n) K (look ((d,eI .i64 l.length)::L)) σ nx):EA P TB Γ ops ⟨some d,.call ⟨.builtin .len,#[x],#[t]⟩,ty,pos,af,g⟩ fl i n K L σ nx:=
  haveI:=(CY (P:=P) t hT.ok).Oh hl
  gS (fun _ _=>Xq hx) hk
theorem yL [hT:Cj P] {t e:TypeId} {x y:Operand} {rows:List (List D)} {row:List D} {m:Int} {k b:Nat} {ik:IntKind} (hx:ev (look L) x=some (.o (.d (.l rows)))) (hy:ev (look L) y=some (eI ik m)) (hr:rows[m.toNat]? = some row) (hl:(Hf hT.T t).sl=some (e,k,b)) (hn:row.length=k) (h0:0≤m)
    (hk:Lex P TB Γ ops (Aj fl (i+1) n) K (look ((d,.o (.ip row))::L)) σ nx):EA P TB Γ ops ⟨some d,.indexAddr t x y,ty,pos,af,g⟩ fl i n K L σ nx:=
  haveI:=(CY (P:=P) t hT.ok).Oh hl
  gS (fun _ _=>TY hx hy h0 hr hn) hk
theorem yT [hT:Cj P] {t:TypeId} {x y:Operand} {s:List UInt8} {m:Int} {c:UInt8} {ik:IntKind} (hx:ev (look L) x=some (eT s)) (hy:ev (look L) y=some (eI ik m)) (hc:s[m.toNat]? = some c) (hl:(Hf hT.T t).st=true) (h0:0≤m)
    (hk:Lex P TB Γ ops (Aj fl (i+1) n) K (look ((d,eI .u8 (c.toNat:Int))::L)) σ nx):EA P TB Γ ops ⟨some d,.index t x y,ty,pos,af,g⟩ fl i n K L σ nx:=
  haveI:=(CY (P:=P) t hT.ok).Th hl
  gS (fun _ _=>T4 hx hy h0 hc) hk
def ZW (k m:Nat) (z:List Value) (es:List E):Option (List (List D)):=match es.all N9,Lj es with
  | true,some rows=>match rows.all fun r=>Nat.beq r.length k,Nat.beq z.length k,z.all Lr,Nat.ble 1 k,Nat.ble (m*k) 16777216 with
    | true,true,true,true,true=>some rows
    | _,_,_,_,_=>none
  | _,_=>none
theorem yZ [hT:Cj P] {t e:TypeId} {k b m:Nat} {z:List Value} {parts:Array (Nat×Operand)} {es:List E} {rows:List (List D)} (hl:(Hf hT.T t).sl=some (e,k,b)) (hz:(Hf hT.T e).ze=some z) (hp:Cy 0 (parts.toList.map (·.2))=parts.toList) (hn:parts.toList.length=m)
    (hes:GI (look L) (parts.toList.map (·.2))=some es) (hv:ZW k m z es=some rows)
    (h:Lex P TB Γ ops (Aj fl (i+1) n) K (look ((d,.o (.d (.l rows)))::L)) σ nx):EA P TB Γ ops ⟨some d,.buildSlice t m parts,ty,pos,af,g⟩ fl i n K L σ nx:=by
  haveI:=(CY (P:=P) t hT.ok).Oh hl
  haveI:=(CY (P:=P) e hT.ok).Ti hz
  unfold ZW at hv
  split at hv
  · rename_i h1 h2
    split at hv
    · rename_i h3 h4 h5 h6 h7
      injection hv with hv
      subst hv
      exact gS (fun _ _=>Gy hp hn hes h1 h2 h3 (Nat.eq_of_beq_eq_true h4) h5 h6 h7) h
    · cases hv
  · cases hv
theorem yY {T:TypeId} {x:Operand} {e:E} {ds:List D} (hx:ev (look L) x=some e) (ho:N9 e=true) (hd:LO (eC e)=some ds) (h:Lex P TB Γ ops (Aj fl (i+1) n) K (look ((d,.o (.ip ds))::L)) σ nx):EA P TB Γ ops ⟨some d,.box T x,ty,pos,af,g⟩ fl i n K L σ nx:=gS (fun _ _=>DD hx ho hd) h
def Vz:Nat→List (Nat×Operand)→Bool
  | _,[]=>true
  | k,(i,_)::r=>Nat.beq i k && Vz (k+1) r
theorem QD:∀(l:List (Nat×Operand)) (k:Nat),Vz k l=true→Cy k (l.map (·.2))=l
  | [],_,_=>rfl
  | (i,x)::r,k,h=>by
    unfold Vz at h
    rw [Bool.and_eq_true] at h
    have h1:=Nat.eq_of_beq_eq_true h.1
    subst h1
    have:=QD r (i+1) h.2
    simp [Cy,this]
def VB (c:Nat):Option E→Bool
  | some (.o (.ptr id _ _ _))=>N0 c || (Nat.beq c (10+id) && !Nat.ble 1000 c)
  | _=>N0 c
theorem Ug {T:List (Nat×TI)} {σ σ':Ab} {f:Env} {t:TypeId} {x:Operand} {id k i j:Nat} (hx:ev f x=some (.o (.ptr id k i j))) (h:look σ' id=look σ id):JA T σ' f (.load t x)=JA T σ f (.load t x):=by
  unfold JA
  simp only [hx]
  cases (Hf T t).ld with
  | none=>rfl
  | some p=>obtain ⟨ag,n⟩:=p;simp only [h]
def QP (T:List (Nat×TI)) (sl:Bool) (c nx:Nat) (σ:Ab) (L:List (Nat×E)):Option Tmp→Op→Option (List (Nat×E)×Ab×Nat)
  | some d,.alloc t=>match Nat.beq c 1,(Hf T t).ze with
    | true,some z=>match z.all Lr with
      | true=>some ((d,.o (.ptr nx z.length 0 0))::L,(nx,.cells t z.length [z.map zC])::σ,nx+1)
      | false=>none
    | _,_=>none
  | none,.store t x y=>match Nat.beq c 1,MD T σ (look L) t x y with
    | true,some σ'=>some (L,σ',nx)
    | _,_=>none
  | some d,.load t x=>match VB c (ev (look L) x),JA T σ (look L) (.load t x) with
    | true,some e=>some ((d,e)::L,σ,nx)
    | _,_=>none
  | some d,.box _ x=>match sl,ev (look L) x with
    | true,some e=>match N9 e,LO (eC e) with
      | true,some ds=>some ((d,.o (.ip ds))::L,σ,nx)
      | _,_=>none
    | _,_=>none
  | some d,.buildSlice t m parts=>match sl,(Hf T t).sl with
    | true,some (e,k,_)=>match (Hf T e).ze,GI (look L) (parts.toList.map (·.2)) with
      | some z,some es=>match ZW k m z es,Vz 0 parts.toList,Nat.beq parts.toList.length m with
        | some rows,true,true=>some ((d,.o (.d (.l rows)))::L,σ,nx)
        | _,_,_=>none
      | _,_=>none
    | _,_=>none
  | _,_=>none
theorem yU [hT:Cj P] {sl:Bool} {d:Option Tmp} {L':List (Nat×E)} {σ':Ab} {nx':Nat} (h:QP hT.T sl (fl i) nx σ L d op=some (L',σ',nx')) (hk:Lex P TB Γ ops (Aj fl (i+1) n) K (look L') σ' nx'):EA P TB Γ ops ⟨d,op,ty,pos,af,g⟩ fl i n K L σ nx:=by
  unfold QP at h
  split at h
  · split at h
    · rename_i h1 h2
      split at h
      · rename_i h3
        injection h with h;injection h with e1 h;injection h with e2 e3;subst e1;subst e2;subst e3
        exact yO h2 h3 (Nat.eq_of_beq_eq_true h1) hk
      · cases h
    · cases h
  · split at h
    · rename_i h1 h2
      injection h with h;injection h with e1 h;injection h with e2 e3;subst e1;subst e2;subst e3
      exact yW h2 (Nat.eq_of_beq_eq_true h1) hk
    · cases h
  · split at h
    · rename_i h1 h2
      injection h with h;injection h with e1 h;injection h with e2 e3;subst e1;subst e2;subst e3
      unfold VB at h1
      split at h1
      · rename_i hx
        rw [Bool.or_eq_true] at h1
        rcases h1 with h1|h1
        · exact yS h2 h1 hk
        · rw [Bool.and_eq_true] at h1
          have h3:=Nat.eq_of_beq_eq_true h1.1
          refine fun hg=>YE (fun σ' nx' hs=>KU (by rw [h3,Nat.add_sub_cancel_left] at hs;rw [Ug (σ:=σ) (σ':=σ') hx hs];exact h2)) hg ⟨Nat.ble_eq_true_of_le (by omega),by simpa using h1.2⟩ hk
      · exact yS h2 h1 hk
    · cases h
  · split at h
    · rename_i h1
      split at h
      · rename_i h2 h3
        injection h with h;injection h with e1 h;injection h with e2 e3;subst e1;subst e2;subst e3
        exact yY h1 h2 h3 hk
      · cases h
    · cases h
  · split at h
    · rename_i h1
      split at h
      · rename_i h2 h3
        split at h
        · rename_i h4 h5 h6
          injection h with h;injection h with e1 h;injection h with e2 e3;subst e1;subst e2;subst e3
          exact yZ h1 h2 (QD _ _ h5) (Nat.eq_of_beq_eq_true h6) h3 h4 hk
        · cases h
      · cases h
    · cases h
  · cases h
theorem yP {x:Operand} {args:Array Operand} {tys:Array TypeId} {gg:FuncId} {cap:List C} {es:List E} {r:E} (hx:ev (look L) x=some (.o (.fn gg cap))) (hes:GI (look L) args.toList=some es) (hp:(es.all E.A1 && C.Bw cap)=true)
    (hs:Pure P TB gg (es++cap.map .o) r) (hr:r.A1=true) (h:Lex P TB Γ ops (Aj fl (i+1) n) K (look ((d,r)::L)) σ nx):EA P TB Γ ops ⟨some d,.call ⟨.value x,args,tys⟩,ty,pos,af,g⟩ fl i n K L σ nx:=gS (fun _ _=>AT hx hes hp hs hr) h
theorem yC {x:Operand} {args:Array Operand} {tys:Array TypeId} {gg:FuncId} {cap:List C} {es:List E} {c:Bool} (hx:ev (look L) x=some (.o (.fn gg cap))) (hes:GI (look L) args.toList=some es) (hp:(es.all E.A1 && C.Bw cap)=true)
    (hs:Pure P TB gg (es++cap.map .o) (eB c)) (h:∀b,c=b→Lex P TB Γ ops (Aj fl (i+1) n) K (look ((d,eB b)::L)) σ nx):EA P TB Γ ops ⟨some d,.call ⟨.value x,args,tys⟩,ty,pos,af,g⟩ fl i n K L σ nx:=gB (fun _ _=>AT hx hes hp hs rfl) h
end
end Go.Am
namespace Go.Am
open Go Go.ChangeShapes Go.WideShapes Go.RowKit
def below (w:World) (b:Nat):Prop:=b < w.heap.size
def Rd {α:Type} (P:Program) (w:World) (t:TypeId) (k:Nat) (f:α→List D):Prop:=
  ∀ {H:Type} (enc:TypeId×Value→H) (fuel:Nat) (cs:List Value) (x:DataW H×List MemPlace),DataW.trod enc P w 0 (fun _=>true) true fuel t cs=some x→
    ∃y:α,cs.length=k∧(f y).length=k∧∀(j:Nat) c d,cs[j]? = some c→(f y)[j]? = some d→CA (below w) w d c
section
variable {P:Program} {w:World} {t e:TypeId} {k:Nat}
theorem Ii {c0:Value} {d0:D} (h:CA (below w) w d0 c0):∀(j:Nat) c d,[c0][j]? = some c→[d0][j]? = some d→CA (below w) w d c:=by
  intro j c d hc hd
  match j with
  | 0=>simp at hc hd;subst hc;subst hd;exact h
  | j+1=>simp at hc
theorem aq (ht:P.underlying t=some (.int .u8)):Rd P w t 1 (fun n:UInt8=>[.v (.int .u8 n.toNat)]):=fun enc fuel cs x hx=>by
  obtain ⟨n,rfl,_,hw⟩:=DataW.trod_int ht hx
  have hb:=bounds_u8 hw
  refine ⟨UInt8.ofNat n.toNat,rfl,rfl,Ii ?_⟩
  have:((UInt8.ofNat n.toNat).toNat:Int)=n:=by
    simp
    omega
  rw [this]
  exact .v rfl
theorem Mb {a:Addr} {n:Nat} {cs:List Value} (h:w.cells? 0 a n=some cs):cs.length=n∧∀(j:Nat) c,cs[j]? = some c→w.cell? (a.add j)=some c:=by
  unfold World.cells? at h
  rw [if_pos (Nat.zero_le _)] at h
  have hl:=mapM_some_length h
  simp at hl
  refine ⟨hl,fun j c hc=>?_⟩
  have hlt:=(List.getElem?_eq_some_iff.1 hc).1
  have:=mapM_some_get h j j (by rw [List.getElem?_range (by omega)])
  rw [this];exact hc
theorem Y3 {α:Type} {f:α→List D} (ht:P.underlying t=some (.slice e)) (hk:P.cellsOf e=k) (h0:0 < k) (hf:Rd P w e k f):Rd P w t 1 (fun l:List α=>[.l (l.map f)]):=fun enc fuel cs x hx=>by
  rcases DataW.trod_slice ht hx with ⟨rfl,_⟩|⟨a,len,cap,elems,rest,n,rfl,rfl,_,_,hlc,hcm,hel,hget,_,_⟩
  · exact ⟨[],rfl,rfl,Ii .nil⟩
  · rw [hk] at hget
    rcases Nat.eq_zero_or_pos len with hl0|hl0
    · subst hl0
      exact ⟨[],rfl,rfl,Ii (.e hcm)⟩
    have key:∀i,i < len→∃(y:α) (cs:List Value),w.cells? 0 (a.add (i*k)) k=some cs∧cs.length=k∧(f y).length=k∧∀(j:Nat) c d,cs[j]? = some c→(f y)[j]? = some d→CA (below w) w d c:=by
      intro i hi
      have h1:=hget i hi
      have hie:i < elems.length:=by omega
      rw [List.getElem?_eq_getElem hie] at h1
      simp only [Option.bind_eq_some_iff] at h1
      obtain ⟨cs,h2,h3⟩:=h1
      obtain ⟨y,h4,h5,h6⟩:=hf enc n cs _ h3
      exact ⟨y,cs,h2,h4,h5,h6⟩
    obtain ⟨b,o,rfl,hb⟩:∃b o,a=⟨b,o,none⟩∧b < w.heap.size:=by
      obtain ⟨y,cs,h2,h4,_,_⟩:=key 0 hl0
      have h7:=(Mb h2).2 0 (cs[0]'(by omega)) (by simp)
      rw [Nat.zero_mul] at h7
      have h8:∀a:Addr,a.add 0=a:=fun a=>by simp [Addr.add]
      rw [h8,h8] at h7
      unfold World.cell? at h7
      obtain ⟨b,o,sp⟩:=a
      split at h7
      · rename_i c _ _ hh
        split at h7
        · cases h7
        · rename_i hs
          cases sp with
          | none=>exact ⟨b,o,rfl,(Array.getElem?_eq_some_iff.1 hh).1⟩
          | some s=>simp at hs
      · cases h7
    have hlist:∀m,m≤len→∃l:List α,l.length=m∧∀(i:Nat) y,l[i]? = some y→(f y).length=k∧∀(j:Nat) d,(f y)[j]? = some d→∃c,w.cell? ⟨b,o+i*k+j,none⟩=some c∧CA (below w) w d c:=by
      intro m
      induction m with
      | zero=>intro _;exact ⟨[],rfl,fun i y h=>by simp at h⟩
      | succ m ih=>
        intro hm
        obtain ⟨l,hl,hall⟩:=ih (by omega)
        obtain ⟨y,cs,h2,h4,h5,h6⟩:=key m (by omega)
        refine ⟨l++[y],by simp [hl],fun i z hz=>?_⟩
        by_cases hi:i < l.length
        · rw [List.getElem?_append_left hi] at hz;exact hall i z hz
        · rw [List.getElem?_append_right (by omega)] at hz
          have hi0:i=m:=by
            have:=(List.getElem?_eq_some_iff.1 hz).1
            simp at this;omega
          subst hi0
          rw [hl,Nat.sub_self] at hz
          simp at hz
          subst hz
          refine ⟨h5,fun j d hj=>?_⟩
          have hjl:j < cs.length:=by rw [h4,←h5];exact (List.getElem?_eq_some_iff.1 hj).1
          have h7:=(Mb h2).2 j cs[j] (List.getElem?_eq_getElem hjl)
          rw [Bm,Bm] at h7
          exact ⟨cs[j],h7,h6 j _ d (List.getElem?_eq_getElem hjl) hj⟩
    obtain ⟨l,hl,hall⟩:=hlist len (Nat.le_refl _)
    refine ⟨l,rfl,rfl,Ii ?_⟩
    have hll:(l.map f).length=len:=by simp [hl]
    rw [←hll]
    refine .l (b:=b) (o:=o) (k:=k) (vs:=fun i j=>(w.cell? ⟨b,o+i*k+j,none⟩).getD undef) hb (by simpa [hl] using hlc) hcm (fun i r hr=>?_) (fun i r j d hr hd=>?_) (fun i r j d hr hd=>?_)
    all_goals
      rw [List.getElem?_map,Option.map_eq_some_iff] at hr
      obtain ⟨y,hy,rfl⟩:=hr
    · exact (hall i y hy).1
    · obtain ⟨c,h1,_⟩:=(hall i y hy).2 j d hd
      rw [h1];rfl
    · obtain ⟨c,h1,h2⟩:=(hall i y hy).2 j d hd
      rw [h1];exact h2
end
def Qh (w:World):View:=⟨below w,id,fun _=>0,fun _=>True,0,w⟩
section
variable {P:Program} {w:World} {t:TypeId} {k:Nat} {H:Type} {enc:TypeId×Value→H}
theorem X7 {α:Type} {f:α→List D} {e:TypeId} (ht:P.underlying t=some (.slice e)) (h:Rd P w t 1 (fun l:List α=>[.l (l.map f)])) {v:Value} {d:DataW H} {ps:List MemPlace} {base:Nat} (hv:Value.okWide P w .any base t v) (hd:DataW.Trod enc P w 0 (fun _=>true) true t v d ps) :
    ∃l:List α,A2 (Qh w) (.o (.d (.l (l.map f)))) v:=by
  obtain ⟨m,hm⟩:=hd
  obtain ⟨l,h1,h2,h3⟩:=h enc m _ _ hm
  refine ⟨l,?_⟩
  have:v.cells.toList=[v]:=by
    unfold Value.okWide Cell.okWide Cell.ok at hv
    simp only [ht] at hv
    split at hv<;>simp_all [Value.cells]
  rw [this] at h3
  exact .d (h3 0 v _ rfl rfl)
structure Ft (W W':World):Prop where
  os:W'.os=W.os
  output:W'.output=W.output
  size:W.heap.size≤W'.heap.size
  old:∀b,b < W.heap.size→W'.heap[b]? = W.heap[b]?
theorem Ft.sameAt {W W':World} (h:Ft W W') {p:MemPlace} (hp:p.block < W.heap.size):W.sameAt W' p:=by
  cases p with
  | cell b off=>show W'.cell? _=W.cell? _;simp only [World.cell?,h.old b hp]
  | map b=>exact h.old b hp
theorem Ft.kept {W W':World} (h:Ft W W') (may:MemPlace→Prop):W.keptBut W' may:=by
  refine ⟨h.os,h.output,fun i hi=>?_⟩
  rw [h.old i hi]
  split
  · rename_i h1 h2
    rw [h1] at h2
    injection h2 with h2;injection h2 with h3 h4 h5
    exact ⟨h4.symm,h5.symm,by rw [h3],fun j _=>by rw [h3]⟩
  · rename_i h1 h2
    rw [h1] at h2
    injection h2 with h2;injection h2 with h3 h4
    exact .inr ⟨h3.symm,h4.symm⟩
  · rfl
theorem Iy {W W':World} (hl:laidOutB P=true) (h:Ft W W') {sp:Nat→Bool}:∀ {ts:List TypeId} {vs:List Value} {ds:List (DataW H)} {ps:List MemPlace},(ts.all fun t=>P.readableRec t && decide (t < P.types.size))=true→
    DataW.TrodAll enc P W 0 (fun _=>true) true ts vs ds ps→(∀p∈ps,p.block < W.heap.size)→(∀p∈ps,sp p.block=true)→DataW.TrodAll enc P W' 0 sp true ts vs ds ps
  | [],vs,ds,ps,_,h1,_,_=>by obtain ⟨rfl,rfl,rfl⟩:=trodAll_nil h1;exact rfl
  | t::ts,vs,ds,ps,ha,h1,h2,h3=>by
    obtain ⟨v,vs',d,ds',p,q,rfl,rfl,rfl,h4,h5⟩:=trodAll_cons h1
    simp only [List.all_cons,Bool.and_eq_true,decide_eq_true_eq] at ha
    refine ⟨p,q,Go.WideElems.Trod_stays hl ha.1.1 ha.1.2 h4 (fun x hx=>h.sameAt (h2 x (List.mem_append_left _ hx))) (fun x hx=>h3 x (List.mem_append_left _ hx)),Iy hl h (by simpa using ha.2) h5 (fun x hx=>h2 x (List.mem_append_right _ hx)) (fun x hx=>h3 x (List.mem_append_right _ hx)),rfl⟩
theorem XR {f:Func} {s:ChangeSpec} {again:Bool} {W W':World} {args:Array Value} {ds gs:List (DataW H)} {before:List MemPlace} {tb:TypeId} (hl:laidOutB P=true) (hts:(f.params.toList.all fun t=>P.readableRec t && decide (t < P.types.size))=true)
    (hW:DataW.Whole enc P f.params.toList s.vars false W args.toList ds gs before) (hs:Ft W W') (hv:s.vars=[]) (hr:f.resultTypes = #[tb]) (htb:P.underlying tb=some .bool) (hone:(Value.bool true).resultList 1=[.bool true])
    (hfn:s.fn H (ds++gs) = { results:=[.lit (.bool true)],args:=ds }):s.post enc P f false true false again W args (.bool true) W':=by
  have hlt:=hW.lt
  have hW':=hW
  obtain ⟨p,q,hA,hV,he,hz,hn⟩:=hW
  rw [hv] at hV
  obtain ⟨rfl,rfl⟩:=trodVars_none hV
  rw [List.append_nil] at he
  subst he
  have hres:∀(b:Nat) (sp:Nat→Bool) (hd:Bool),DataW.TrodAll enc P W' b sp hd f.resultTypes.toList ((Value.bool true).resultList f.resultTypes.size) (s.fn H (ds++[])).results []:=fun b sp hd=>by
    rw [hr,hfn]
    show DataW.TrodAll enc P W' b sp hd [tb] ((Value.bool true).resultList 1) [.lit (.bool true)] []
    rw [hone]
    exact trodAll_mk1 (RowKit.shut_bool htb true)
  have hargs:∀sp:Nat→Bool,(∀x∈before,sp x.block=true)→DataW.TrodAll enc P W' 0 sp true f.params.toList args.toList (s.fn H (ds++[])).args before:=fun sp hsp=>by
    rw [hfn]
    exact Iy hl hs hts hA hlt hsp
  have hvars:∀sp:Nat→Bool,DataW.TrodVars enc P W' sp s.vars (s.fn H (ds++[])).vars []:=fun sp=>by
    rw [hv,hfn];exact rfl
  refine ⟨ds,[],before,[],before,[],hW',hres _ _ _,hargs _ fun x hx=>by simpa using hlt x hx,hvars _,hs.kept _,fun _=>?_⟩
  refine ⟨ok_one hr hone (okWide_bool_mk htb true),_,_,([]++before)++[],⟨[]++before,[],trodAll_append (hargs _ (fun _ _=>rfl)) (hres _ _ _),hvars _,rfl,?_,fun ha=>by cases ha⟩,fun x hx _=>by simpa using hx⟩
  intro b off hp
  have hp':MemPlace.cell b off∈before:=by simpa using hp
  have h1:=hz b off hp'
  have h2:b < W.heap.size:=hlt _ hp'
  simpa [World.frozen?,hs.old b h2] using h1
end
end Go.Am
namespace Go.Am
open Go
def DQ (s:Int) (n:Nat):Bool:=decide (DH .i64 (s.fdiv (2 ^ min n 64)) 1=1)
def hasB (s n:Int):Bool:=decide (0≤n) && DQ s n.toNat
def Bn (n:Int):Bool:=decide (0≤n∧n≤63)
abbrev iD (n:Int):D:=.v (.int .i64 n)
abbrev bD (b:Bool):D:=.v (.bool b)
abbrev tD (s:List UInt8):D:=.v (.string ⟨s.toArray⟩)
abbrev Db (n:Int):List D:=[iD n]
abbrev Lv (b:Bool):List D:=[bD b]
abbrev BI (s:List UInt8):List D:=[tD s]
abbrev E9 (l:List Int):D:=.l (l.map Db)
abbrev FT (l:List Bool):D:=.l (l.map Lv)
abbrev AQ (l:List (List UInt8)):D:=.l (l.map BI)
abbrev AY (n:Int):List C:=[.d (iD n)]
abbrev AL (b:Bool):List C:=[.d (bD b)]
abbrev AH (s:List UInt8):List C:=[.d (tD s)]
abbrev Jt (l:List Int):List D:=[E9 l]
abbrev DA (l:List (List Int)):D:=.l (l.map Jt)
abbrev Tl (l:List Int):List C:=[.d (E9 l)]
structure Dw where
  f:Int
  l:Int
  t:Int
  deriving DecidableEq
structure Sys where
  al:Int
  st:Int
  es:List Dw
structure Ci where
  al:Int
  nx:List (List Int)
  ac:List Bool
abbrev CZ (e:Dw):List D:=[iD e.f,iD e.l,iD e.t]
abbrev A5 (e:Dw):List C:=[.d (iD e.f),.d (iD e.l),.d (iD e.t)]
abbrev SW (e:Dw):E:=.a [.d (iD e.f),.d (iD e.l),.d (iD e.t)]
abbrev EO (l:List Dw):D:=.l (l.map CZ)
abbrev B9 (s:Sys):List D:=[iD s.al,iD s.st,EO s.es]
abbrev CS (s:Sys):E:=.a [.d (iD s.al),.d (iD s.st),.d (EO s.es)]
abbrev BQ (a:Ci):List D:=[iD a.al,DA a.nx,FT a.ac]
abbrev BH (a:Ci):E:=.a [.d (iD a.al),.d (DA a.nx),.d (FT a.ac)]
abbrev A7 (l:List Int):E:=.o (.d (E9 l))
abbrev ZD (l:List Bool):E:=.o (.d (FT l))
abbrev Kp (l:List (List Int)):E:=.o (.d (DA l))
abbrev Bk (l:List (List UInt8)):E:=.o (.d (AQ l))
abbrev Yh (l:List Dw):E:=.o (.d (EO l))
def AB (s:Int) (k:Nat):List Int:=((List.range k).filter (DQ s)).map Int.ofNat
theorem AM (s:Int) (k:Nat):(AB s k).length≤k:=by
  unfold AB;rw [List.length_map];exact Nat.le_trans (List.length_filter_le _ _) (by simp)
theorem Cd (s:Int) (k:Nat):AB s (k+1)=AB s k++if DQ s k then [(k:Int)] else []:=by
  unfold AB
  rw [List.range_succ,List.filter_append,List.map_append]
  cases h:DQ s k<;>simp [h]
abbrev Af (s:Int):List Int:=AB s 6
def CT (al st:Int) (e:Dw):Bool:=decide (0≤e.f∧e.f < st∧0≤e.t∧e.t < st∧0≤e.l∧e.l < 6) && DQ al e.l.toNat
def HN (e f:Dw):Bool:=if e.f≠f.f then decide (e.f < f.f) else if e.l≠f.l then decide (e.l < f.l) else decide (e.t < f.t)
def GA (s:Sys) (i:Nat):Bool:=match s.es[i]? with
  | none=>true
  | some e=>CT s.al s.st e && match i with
    | 0=>true
    | j+1=>match s.es[j]? with
      | none=>true
      | some p=>HN p e
def BD (s:Sys):Bool:=Bn s.al && decide (1≤s.st∧s.st≤16) && (List.range s.es.length).all (GA s)
theorem E1 {α:Type} {l:List α} {f:α→Bool} {k:Nat} {x:α} (h:l[k]? = some x) (h1:(l.take k).all f=true) (h2:f x=true):(l.take (k+1)).all f=true:=by
  rw [List.take_add_one,h];simp [List.all_append,h1,h2]
theorem GD {α:Type} {l:List α} {f:α→Bool} {k:Nat} {x:α} (h:l[k]? = some x) (h2:f x=false):l.all f=false:=by
  rw [List.all_eq_false];exact ⟨x,List.mem_of_getElem? h,by simp [h2]⟩
theorem E0 {α:Type} {l:List α} {f:α→Bool} {k:Nat} (h:(l.take k).all f=true) (hk:l.length≤k):l.all f=true:=by
  rwa [List.take_of_length_le hk] at h
theorem get_map {α β:Type} {l:List α} {g:α→β} {k:Nat} {x:α} (h:l[k]? = some x):(l.map g)[((k:Nat):Int).toNat]? = some (g x):=by simp [h]
theorem get_some {α:Type} {l:List α} {k:Nat} (h:k < l.length):∃x,l[k]? = some x:=⟨_,List.getElem?_eq_getElem h⟩
def Nz (n:Int) (q:Int):Bool:=decide (0≤q∧q < n)
def DY (ls n:Int) (row:List Int):Bool:=decide ((row.length:Int)=ls) && row.all (Nz n)
def Bh (a:Ci):Bool:=Bn a.al && decide (1≤a.nx.length∧a.nx.length≤12) && decide (a.ac.length=a.nx.length) && a.nx.all (DY (Af a.al).length a.nx.length)
end Go.Am
