/-
  The steps of a walk, few and short: what an operation gives is reckoned.
-/
import Derived.Test.YtgpbfllcjdfelaaGreatDoorPart9
set_option linter.all false
namespace Go.Am
open Go
class Mw (P:Program) (t:TypeId):Prop where
 out:P.underlying t=some .bool
theorem oA{p:Prop}[Decidable p]:(decide p=true)=p:=decide_eq_true_eq
theorem oB{p:Prop}[Decidable p]:decide p=false↔¬p:=decide_eq_false_iff_not
theorem oC{α Y:Type}{l:List α}{f:α->Y}:(l.map f).length=l.length:=bK f
theorem oD{α:Type}{l m:List α}:(l++m).length=l.length+m.length:=cK
theorem oE{α:Type}{n:Nat}{x:α}:(List.replicate n x).length=n:=List.length_replicate
theorem oF{α:Type}{x:α}{l:List α}:(x::l).length=l.length+1:=cg
theorem oG{α:Type}:([]:List α).length=0:=dV
theorem oZ:(∀(p:Prop) [Decidable p],(decide p=true)=p)/\(∀(p:Prop) [Decidable p],decide p=false↔¬p)/\(∀(α Y:Type) (l:List α) (f:α->Y),(l.map f).length=l.length)/\(∀(α:Type) (l m:List α),(l++m).length=l.length+m.length)/\(∀(α:Type) (n:Nat) (x:α),(List.replicate n x).length=n)/\(∀(α:Type) (x:α) (l:List α),(x::l).length=l.length+1)/\∀(α:Type),([]:List α).length=0:=
 ⟨λ_ _=>oA,λ_ _=>oB,λ_ _ _ _=>oC,λ_ _ _=>oD,λ_ _ _=>oE,λ_ _ _=>oF,λ_=>oG⟩
structure TI where
 ld:Option (Bool×Nat):=none
 ik:Option IntKind:=none
 st:Bool:=false
 sl:Option (Nat×Nat×Nat):=none
 ar:Option (Nat×Nat):=none
 fl:List (Option (Nat×Bool×Nat)):=[]
 pt:Bool:=false
 bo:Bool:=false
 ze:Option (List Value):=none
def Nv(P:Program)(t:Nat):Nat->List (Option (Nat×Bool×Nat))->Prop
 | _,[]=>True
 | k,none::r=>Nv P t (k+1) r
 | k,some x::r=>(Rs P t k=some x.1/\Rt P t k=some x)/\Nv P t (k+1) r
structure Dh (P:Program) (t:Nat) (i:TI):Prop where
 ld:i.ld=none\/VZ P t=i.ld
 ik:i.ik=none\/P.underlying t=i.ik.map .int
 st:i.st=false\/P.underlying t=some .string
 sl:i.sl=none\/WT P t=i.sl
 ar:i.ar=none\/Xy P t=i.ar
 fl:Nv P t 0 i.fl
 pt:i.pt=false\/∃e,P.underlying t=some (.pointer e)
 bo:i.bo=false\/P.underlying t=some .bool
 ze:i.ze=none\/RZ P t=i.ze
def P5(P:Program):List (Nat×TI)->Prop
 | []=>True
 | (t,i)::r=>Dh P t i/\P5 P r
def ZU:Value->Value->Bool
 | .int k n,.int k' n'=>decide (k=k') && decide (n=n')
 | .bool a,.bool b=>decide (a=b)
 | .string ⟨⟨a⟩⟩,.string ⟨⟨b⟩⟩=>a.isEmpty && b.isEmpty
 | .slice none 0 0,.slice none 0 0=>true
 | .pointer none,.pointer none=>true
 | .map none,.map none=>true
 | .nilFunc,.nilFunc=>true
 | .nilIface,.nilIface=>true
 | _,_=>false
theorem Xb:∀ {a b:Value},ZU a b=true->a=b:=by
 intro a b h;unfold ZU at h;split at h<;>simp_all
def Zj:List Value->List Value->Bool
 | [],[]=>true
 | a::l,b::m=>ZU a b && Zj l m
 | _,_=>false
theorem Ug:∀ {l m:List Value},Zj l m=true->l=m
 | [],[],_=>rfl
 | a::l,b::m,h=>by
  unfold Zj at h;rw [bu] at h;rw [Xb h.1,Ug h.2]
 | [],_::_,h=>by cases h
 | _::_,[],h=>by cases h
def XL(P:Program)(t:Nat):Nat->List (Option (Nat×Bool×Nat))->Bool
 | _,[]=>true
 | k,none::r=>XL P t (k+1) r
 | k,some x::r=>decide (Rs P t k=some x.1) && decide (Rt P t k=some x) && XL P t (k+1) r
theorem Pd{P:Program}{t:Nat}:∀ {l:List (Option (Nat×Bool×Nat))} {k:Nat},XL P t k l=true->Nv P t k l
 | [],_,_=>trivial
 | none::r,k,h=>Pd (l:=r) (k:=k+1) h
 | some x::r,k,h=>by
  unfold XL at h;simp only [bu,decide_eq_true_eq] at h;exact⟨h.1,Pd h.2⟩
def az(d:Option TypeDesc)(i:TI):Bool:=match d with
 | some (.int k)=>(match i.ik with|none=>true|some k'=>decide (k=k')) && !i.st && !i.pt && !i.bo
 | some .string=>i.ik.isNone && !i.pt && !i.bo
 | some (.pointer _)=>i.ik.isNone && !i.st && !i.bo
 | some .bool=>i.ik.isNone && !i.st && !i.pt
 | _=>i.ik.isNone && !i.st && !i.pt && !i.bo
def ZO(P:Program)(t:Nat)(i:TI):Bool:=
 (i.ld.isNone || decide (VZ P t=i.ld)) && (az (P.underlying t) i && ((i.sl.isNone || decide (WT P t=i.sl)) && ((i.ar.isNone || decide (Xy P t=i.ar)) && (XL P t 0 i.fl && match i.ze with
  | none=>true
  | some l=>match RZ P t with
   | some l'=>Zj l' l
   | none=>false))))
theorem or_none{α:Type}[DecidableEq α]{a b:Option α}(h:(b.isNone || decide (a=b))=true):b=none\/a=b:=by
 rw [cu] at h
 rcases h with h|h
 ·left;cases b<;>simp_all
 ·right;exact of_decide_eq_true h
theorem WY{P:Program}{t:Nat}{i:TI}(h:ZO P t i=true):Dh P t i:=by
 unfold ZO at h;simp only [bu] at h;obtain⟨o,f,n,m,j,b⟩:=h
 have a:(i.ik=none\/P.underlying t=i.ik.map .int)/\(i.st=false\/P.underlying t=some .string)/\(i.pt=false\/∃e,P.underlying t=some (.pointer e))/\(i.bo=false\/P.underlying t=some .bool):=by
  unfold az at f;split at f
  ·rename_i k p
   cases g:i.ik<;>simp_all
  all_goals simp_all
 refine⟨or_none o,a.1,a.2.1,or_none n,or_none m,Pd j,a.2.2.1,a.2.2.2,?_⟩;split at b
 ·rename_i d;exact .inl d
 ·rename_i l d
  split at b
  ·rename_i l' c
   right;rw [c,d,Ug b]
  ·cases b
def VD(P:Program):List (Nat×TI)->Bool
 | []=>true
 | (t,i)::r=>ZO P t i && VD P r
theorem Qg{P:Program}:∀ {l:List (Nat×TI)},VD P l=true->P5 P l
 | [],_=>trivial
 | (t,i)::r,h=>by
  unfold VD at h;rw [bu] at h;exact⟨WY h.1,Qg h.2⟩
class BY (P:Program) where
 T:List (Nat×TI)
 ok:P5 P T
def GG:List (Nat×TI)->Nat->TI
 | [],_=>{}
 | (k,x)::r,t=>bif Nat.beq k t then x else GG r t
def nth{α:Type}:List α->Nat->Option α
 | [],_=>none
 | x::_,0=>some x
 | _::r,n+1=>nth r n
theorem JG{α:Type}:∀(l:List α) (i:Nat),nth l i=l[i]?
 | [],_=>by simp [nth]
 | o::_,0=>by simp [nth]
 | _::r,n+1=>by simp [nth,JG r n]
theorem CJ{P:Program}(t:Nat):∀ {T:List (Nat×TI)},P5 P T->Dh P t (GG T t)
 | [],_=>⟨.inl rfl,.inl rfl,.inl rfl,.inl rfl,.inl rfl,trivial,.inl rfl,.inl rfl,.inl rfl⟩
 | (k,x)::r,h=>by
  unfold GG;cases hb:Nat.beq k t
  ·exact CJ t h.2
  ·have:=bA hb
   subst this;exact h.1
section
variable {P:Program}{t:Nat}{i:TI}
theorem Dh.I6(h:Dh P t i){ag:Bool}{n:Nat}(e:i.ld=some (ag,n)):Dl P t ag n:=⟨by rcases h.ld with h|h<;>simp_all⟩
theorem Dh.SG(h:Dh P t i){k:IntKind}(e:i.ik=some k):JN P t k:=⟨by rcases h.ik with h|h<;>simp_all⟩
theorem Dh.SI(h:Dh P t i)(e:i.st=true):CD P t:=⟨by rcases h.st with h|h<;>simp_all⟩
theorem Dh.NQ(h:Dh P t i){e k b:Nat}(a:i.sl=some (e,k,b)):Ch P t e k b:=⟨by rcases h.sl with h|h<;>simp_all⟩
theorem Dh.XM(h:Dh P t i){n k:Nat}(a:i.ar=some (n,k)):P7 P t n k:=⟨by rcases h.ar with h|h<;>simp_all⟩
theorem Dh.SH(h:Dh P t i)(e:i.pt=true):OY P t:=⟨h.pt.resolve_left (by simp [e])⟩
theorem Dh.Ux(h:Dh P t i)(e:i.bo=true):Mw P t:=⟨by rcases h.bo with h|h<;>simp_all⟩
theorem Dh.SJ(h:Dh P t i){z:List Value}(e:i.ze=some z):BQ P t z:=⟨by rcases h.ze with h|h<;>simp_all⟩
theorem Nv.get:∀ {l:List (Option (Nat×Bool×Nat))} {k j:Nat} {x:Nat×Bool×Nat},Nv P t k l->nth l j=some (some x)->Rs P t (k+j)=some x.1/\Rt P t (k+j)=some x
 | [],_,_,_,_,h=>by simp [nth] at h
 | none::r,k,0,x,_,h=>by simp [nth] at h
 | some y::r,k,0,x,a,h=>by simp [nth] at h;subst h;exact a.1
 | none::r,k,j+1,x,a,h=>by
  have:=Nv.get (l:=r) (k:=k+1) (j:=j) (x:=x) a h;rwa [show k+(j+1)=k+1+j by omega]
 | some y::r,k,j+1,x,a,h=>by
  have:=Nv.get (l:=r) (k:=k+1) (j:=j) (x:=x) a.2 h;rwa [show k+(j+1)=k+1+j by omega]
theorem Dh.VT(h:Dh P t i){j off n:Nat}{ag:Bool}(e:nth i.fl j=some (some (off,ag,n))):Mx P t j off:=⟨by have:=(h.fl.get e).1;rwa [bW] at this⟩
theorem Dh.Uy(h:Dh P t i){j off n:Nat}{ag:Bool}(e:nth i.fl j=some (some (off,ag,n))):Jt P t j off ag n:=⟨by have:=(h.fl.get e).2;rwa [bW] at this⟩
end
def DU(P:Program)(TB:Bg)(Z:Ctx)(ops:Array Oper)(o:Oper)(fl:Fl)(i n:Nat)(K:Env->Ab->Nat->Prop)(L:List (Nat×E))(σ:Ab)(nx:Nat):Prop:=
 A8 ops o (look L)=some true->A4 P TB Z ops o fl i n K L σ nx
def xE:Bool×List C->Option E
 | (false,[c])=>some (.o c)
 | (true,cs)=>some (.a cs)
 | _=>none
def Zv(f:Env):Op->Option E
 | .move x=>ev f x
 | .pick c x y=>match ev f c with
  | some (.o (.d (.v (.bool true))))=>ev f x
  | some (.o (.d (.v (.bool false))))=>ev f y
  | _=>none
 | .extract x k=>match ev f x with
  | some (.t xs)=>(xs[k]?).bind xE
  | _=>none
 | .nilCheck x=>match ev f x with
  | some (.o (.d (.p cs)))=>some (.o (.ip cs))
  | some (.o (.ptr id k i j))=>some (.o (.ptr id k i j))
  | some (.o (.fn gg cs))=>some (.o (.fn gg cs))
  | _=>none
 | _=>none
def Xk:IntKind->IntKind->Bool
 | .i64,.i64|.u8,.u8|.u64,.u64|.i32,.i32|.u16,.u16|.u32,.u32=>true
 | _,_=>false
theorem Kh{a b:IntKind}(h:Xk a b=true):a=b:=by cases a<;>cases b<;>first|rfl|cases h
def XF(o:BinOp)(m n:Int):Option Bool:=match o with
 | .lss=>some (decide (m < n))
 | .leq=>some (decide (m<=n))
 | .gtr=>some (decide (m > n))
 | .geq=>some (decide (m>=n))
 | .eql=>some (decide (m=n))
 | .neq=>some (decide (m≠n))
 | _=>none
def XE(o:BinOp)(a b:List UInt8):Option Bool:=match o with
 | .eql=>some (decide (a=b))
 | .neq=>some (decide (a≠b))
 | _=>none
def VJ(o:BinOp):E->E->Option Bool
 | .o (.d (.v (.int k m))),.o (.d (.v (.int k' n)))=>match Xk k k' with
  | true=>XF o m n
  | false=>none
 | .o (.d (.v (.string ⟨⟨a⟩⟩))),.o (.d (.v (.string ⟨⟨b⟩⟩)))=>XE o a b
 | _,_=>none
def RQ:IntKind->Int->Option Prop
 | .i64,m=>some (-9223372036854775808<=m/\m<=9223372036854775807)
 | .u64,m=>some (0<=m/\m<=18446744073709551615)
 | .u8,m=>some (0<=m/\m<=255)
 | .i32,m=>some (-2147483648<=m/\m<=2147483647)
 | _,_=>none
def aa(o:BinOp)(k:IntKind)(m n:Int):Option (Prop×E):=match o with
 | .add=>(RQ k (m+n)).map λq=>(q,eI k (m+n))
 | .sub=>(RQ k (m - n)).map λq=>(q,eI k (m - n))
 | .mul=>(RQ k (m*n)).map λq=>(q,eI k (m*n))
 | .rem=>some (0<=m/\0 < n,eI k (m % n))
 | .and=>some (True,eI k (Pf k m n))
 | .or=>some (True,eI k (XN k m n))
 | _=>none
def Zo(o:BinOp):E->E->Option (Prop×E)
 | .o (.d (.v (.int k m))),.o (.d (.v (.int k' n)))=>match o with
  | .shr=>some (0<=n,eI k (m.fdiv (2 ^ (min n.toNat k.bits))))
  | .quo=>match Xk k .i64,Xk k' .i64 with
   | true,true=>some ((0<=m/\m<=9223372036854775807)/\0 < n,eI .i64 (m / n))
   | _,_=>none
  | o=>match Xk k k' with
   | true=>aa o k m n
   | false=>none
 | .o (.d (.v (.string ⟨⟨a⟩⟩))),.o (.d (.v (.string ⟨⟨b⟩⟩)))=>match o with
  | .add=>some (a.length+b.length<=9223372036854775807,eT (a++b))
  | _=>none
 | _,_=>none
def VS(off:Nat):E->Option E
 | .o (.d (.p cs))=>some (.o (.ip (cs.drop off)))
 | .o (.ptr id k i j)=>some (.o (.ptr id k i (j+off)))
 | _=>none
def Zz(ag:Bool)(n:Nat):E->Option E
 | .o (.d (.p cs))=>match ag,cs with
  | false,c::_=>some (.o (.d c))
  | true,cs=>match Nat.ble n cs.length with
   | true=>some (.a ((cs.take n).map .d))
   | false=>none
  | _,_=>none
 | _=>none
def XP(ag:Bool)(n j:Nat)(r:List C):Option E:=match ag with
 | false=>(r[j]?).map .o
 | true=>match Nat.ble (j+n) r.length with
  | true=>some (.a ((r.drop j).take n))
  | false=>none
def Zx(ag:Bool)(off n:Nat)(cs:List C):Option E:=match ag with
 | false=>(cs[off]?).map .o
 | true=>match Nat.ble (off+n) cs.length with
  | true=>some (.a ((cs.drop off).take n))
  | false=>none
def Zy(k:Nat)(n:Int):E->Option E
 | .o (.d (.p cs))=>some (.o (.ip (cs.drop (n.toNat*k))))
 | .o (.ptr id k' i j)=>some (.o (.ptr id k' i (j+n.toNat*k)))
 | _=>none
def ZA(k:Nat):E->Option E
 | .o (.d (.l rows))=>some (eI .i64 rows.length)
 | .o (.arr _ k' _ len)=>match Nat.beq k' k with
  | true=>some (eI .i64 len)
  | false=>none
 | _=>none
def tr:Option E->Option (Prop×E)
 | some e=>some (True,e)
 | none=>none
def Wu:Bool->E->E->Option (Prop×E)
 | true,.o (.d (.p _)),.o (.d (.v (.pointer none)))=>some (True,eB false)
 | true,.o (.d (.v (.pointer none))),.o (.d (.v (.pointer none)))=>some (True,eB true)
 | _,_,_=>none
def XC(pt:Bool)(o:BinOp)(a b:E):Option (Prop×E):=match o with
 | .eql=>Wu pt a b
 | o=>Zo o a b
def VW(i:TI):E->E->Option (Prop×E)
 | .o (.arr id k off len),.o (.d (.v (.int _ m)))=>match i.sl with
  | some (_,k',_)=>match Nat.beq k k' with
   | true=>some (0<=m/\m < len,.o (.ptr id k (off+m.toNat) 0))
   | false=>none
  | none=>none
 | a, .o (.d (.v (.int _ m)))=>match i.ar with
  | some (len,k)=>match Zy k m a with
   | some e=>some (0<=m/\m < len,e)
   | none=>none
  | none=>none
 | _,_=>none
def Wk(i:TI):E->Option E
 | .o (.d (.v (.string ⟨⟨s⟩⟩)))=>match i.st with
  | true=>some (eI .i64 s.length)
  | false=>none
 | e=>match i.sl with
  | some (_,k,_)=>ZA k e
  | none=>none
def VL(k k':IntKind):E->Option (Prop×E)
 | .o (.d (.v (.int k2 m)))=>match Xk k2 k,RQ k' m with
  | true,some q=>some (q,eI k' m)
  | _,_=>none
 | _=>none
def TF(T:List (Nat×TI))(md:Bool)(f:Env):Op->Option (Prop×E)
 | .assign x=>match md,notNil x with
  | true,false=>none
  | _,_=>tr (ev f x)
 | .binOp o t x y _=>match ev f x,ev f y with
  | some a,some b=>XC (GG T t).pt o a b
  | _,_=>none
 | .fieldAddr s x k=>match nth (GG T s).fl k,ev f x with
  | some (some (off,_,_)),some a=>tr (VS off a)
  | _,_=>none
 | .field t x k=>match nth (GG T t).fl k,ev f x with
  | some (some (off,ag,n)),some (.a cs)=>tr (Zx ag off n cs)
  | _,_=>none
 | .load t x=>match (GG T t).ld,ev f x with
  | some (ag,n),some a=>tr (Zz ag n a)
  | _,_=>none
 | .indexAddr t x y=>match ev f x,ev f y with
  | some a,some b=>VW (GG T t) a b
  | _,_=>none
 | .call ⟨.builtin .len,⟨[x]⟩,⟨[t]⟩⟩=>match ev f x with
  | some a=>tr (Wk (GG T t) a)
  | none=>none
 | .convert s t x=>match (GG T s).ik,(GG T t).ik,ev f x with
  | some k,some k',some a=>VL k k' a
  | _,_,_=>none
 | .makeFunc (.func gg) ⟨[]⟩ caps=>match Hz f caps.toList with
  | some es=>match Ud es with
   | some cs=>some (True,.o (.fn gg cs))
   | none=>none
  | none=>none
 | op=>tr (Zv f op)
def ae:BinOp->E->E->Option Bool
 | .eql,.o (.d (.v (.bool a))),.o (.d (.v (.bool b)))=>some (a == b)
 | .neq,.o (.d (.v (.bool a))),.o (.d (.v (.bool b)))=>some (a != b)
 | _,_,_=>none
def Ow(T:List (Nat×TI))(f:Env):Op->Option Bool
 | .binOp o t x y _=>match ev f x,ev f y with
  | some a,some b=>match (GG T t).bo with
   | true=>ae o a b
   | false=>VJ o a b
  | _,_=>none
 | .unOp .not _ x=>match ev f x with
  | some (.o (.d (.v (.bool b))))=>some (!b)
  | _=>none
 | _=>none
def Jc(T:List (Nat×TI))(σ:Ab)(f:Env):Op->Option E
 | .load t x=>match (GG T t).ld,ev f x with
  | some (ag,n),some (.o (.ptr id k i j))=>match look σ id with
   | some (.cells _ k' rows)=>match Nat.beq k k',nth rows i with
    | true,some r=>XP ag n j r
    | _,_=>none
   | _=>none
  | _,_=>none
 | _=>none
def Mi(T:List (Nat×TI))(σ:Ab)(f:Env)(t:Nat)(x y:Operand):Option Ab:=
 match (GG T t).ld,ev f x,ev f y with
 | some (_,n),some (.o (.ptr id k i j)),some e=>match look σ id with
  | some (.cells ct k' rows)=>match Nat.beq k k',nth rows i with
   | true,some r=>match NH e,Nat.beq (eC e).length n,Nat.ble (j+n) k with
    | true,true,true=>some ((id,.cells ct k (rows.set i (Aj r j (eC e))))::σ)
    | _,_,_=>none
   | _,_=>none
  | _=>none
 | _,_,_=>none
section
variable {P:Program}{TB:Bg}{Z:Ctx}{d:Option Tmp}{ty:TypeId}{pos:String}{af:Array Edge}{g:Option (Nat×Bool)}{f:Env}{σ:Ab}{nx:Nat}
theorem QP{t:TypeId}{a b:Bool}(c:P.underlying t=some .bool)(w:World):(Op.equal t (.bool a) (.bool b)).run P w=.ok (a == b) w:=by
 unfold Op.equal Op.maxDepth;rw [show 10000=9999+1 from rfl,Op.equalIn];simp [run_underlying c,go_sem]
theorem Yt{t yt:TypeId}{x y:Operand}{a b:Bool}[h:Mw P t](e:ev f x=some (eB a))(c:ev f y=some (eB b)):AP P TB Z ⟨d,.binOp .eql t x y yt,ty,pos,af,g⟩ f σ nx (eB (a == b)):=
 Bo e c rfl λw=>by
  have j:binOp .eql t (.bool a) (.bool b)=(do pure (.bool (<-Op.equal t (.bool a) (.bool b)))):=rfl;have i:eqGuard .eql t x y (.bool a) (.bool b)=pure ():=rfl;rw [j,i];simp [QP h.out w,go_sem]
theorem YD{t yt:TypeId}{x y:Operand}{a b:Bool}[h:Mw P t](e:ev f x=some (eB a))(c:ev f y=some (eB b)):AP P TB Z ⟨d,.binOp .neq t x y yt,ty,pos,af,g⟩ f σ nx (eB (a != b)):=
 Bo e c rfl λw=>by
  have j:binOp .neq t (.bool a) (.bool b)=(do pure (.bool (!(<-Op.equal t (.bool a) (.bool b))))):=rfl;have i:eqGuard .neq t x y (.bool a) (.bool b)=pure ():=rfl;rw [j,i];simp [QP h.out w,go_sem,bne]
theorem aY{op:Op}{e:E}(h:Zv f op=some e):AP P TB Z ⟨d,op,ty,pos,af,g⟩ f σ nx e:=by
 unfold Zv at h;split at h
 ·exact WL h
 ·split at h
  ·rename_i a;exact US a h
  ·rename_i a;exact UR a h
  ·cases h
 ·split at h
  ·rename_i a
   refine RK a ?_;rw [<-h];congr 1
  ·cases h
 ·split at h
  ·rename_i a;injection h with h;subst h;exact UP a
  ·rename_i a;injection h with h;subst h;exact WM a
  ·rename_i a;injection h with h;subst h;exact UO a
  ·cases h
 ·cases h
theorem Ys{o:BinOp}{t yt:TypeId}{x y:Operand}{ex ey:E}{c:Bool}(e:ev f x=some ex)(b:ev f y=some ey)(a:VJ o ex ey=some c) :
 AP P TB Z ⟨d,.binOp o t x y yt,ty,pos,af,g⟩ f σ nx (eB c):=by
 unfold VJ at a;split at a
 ·split at a
  ·rename_i h
   have h:=Kh h;subst h;unfold XF at a
   split at a<;>first|(injection a with a;subst a)|cases a
   ·exact YB e b
   ·exact YA e b
   ·exact Yy e b
   ·exact Yx e b
   ·exact Yv e b
   ·exact YF e b
  ·cases a
 ·unfold XE at a
  split at a<;>first|(injection a with a;subst a)|cases a
  ·exact Yu e b
  ·exact YE e b
 ·cases a
theorem Ng{k:IntKind}{m:Int}{q:Prop}(h:RQ k m=some q)(a:q):k.wrap m=m:=by
 unfold RQ at h
 split at h<;>first|(injection h with h;subst h)|cases h
 ·exact IntWalk.i64_in _ a
 ·exact IntWalk.u64_in _ a
 ·exact IntWalk.u8_in _ a
 ·exact IntWalk.i32_in _ a
theorem ZF{o:BinOp}{t yt:TypeId}{x y:Operand}{ex ey e:E}{q:Prop}(j:ev f x=some ex)(i:ev f y=some ey)(a:Zo o ex ey=some (q,e))(h:q) :
 AP P TB Z ⟨d,.binOp o t x y yt,ty,pos,af,g⟩ f σ nx e:=by
 unfold Zo at a;split at a
 ·split at a
  ·injection a with a;injection a with c b;subst c;subst b;exact YK j i h rfl
  ·split at a
   ·rename_i l k
    have l:=Kh l;have k:=Kh k;subst l;subst k
    injection a with a;injection a with c b;subst c;subst b;exact WN j i h.1.1 h.1.2 h.2
   ·cases a
  ·split at a
   ·rename_i l
    have l:=Kh l;subst l;unfold aa at a;split at a
    ·obtain⟨q',m,n⟩:=br.1 a
     injection n with c b;subst c;subst b;exact X7 j i (Ng m h)
    ·obtain⟨q',m,n⟩:=br.1 a
     injection n with c b;subst c;subst b;exact YL j i (Ng m h)
    ·obtain⟨q',m,n⟩:=br.1 a
     injection n with c b;subst c;subst b;exact YC j i (Ng m h)
    ·injection a with a;injection a with c b;subst c;subst b;exact WO j i h.1 h.2
    ·injection a with a;injection a with c b;subst b;exact X8 j i rfl
    ·injection a with a;injection a with c b;subst b;exact ZK j i rfl
    ·cases a
   ·cases a
 ·split at a
  ·injection a with a;injection a with c b;subst c;subst b;exact X9 j i h
  ·cases a
 ·cases a
theorem Yw{s k off:Nat}{x:Operand}{ex e:E}[b:Mx P s k off](a:ev f x=some ex)(h:VS off ex=some e):AP P TB Z ⟨d,.fieldAddr s x k,ty,pos,af,g⟩ f σ nx e:=by
 unfold VS at h
 split at h<;>first|(injection h with h;subst h)|cases h
 ·exact RL a
 ·exact Tr a
theorem ZJ{t:TypeId}{x:Operand}{ex e:E}{ag:Bool}{n:Nat}[b:Dl P t ag n](a:ev f x=some ex)(h:Zz ag n ex=some e):AP P TB Z ⟨d,.load t x,ty,pos,af,g⟩ f σ nx e:=by
 unfold Zz at h;split at h
 ·split at h
  ·injection h with h;subst h;exact Ou a
  ·split at h
   ·rename_i hb;injection h with h;subst h;exact RN a (bn hb)
   ·cases h
  ·cases h
 ·cases h
theorem Tx{t:TypeId}{x:Operand}{id k i j:Nat}{T:TypeId}{rows:List (List C)}{r:List C}{e:E}{ag:Bool}{n:Nat}[q:Dl P t ag n](a:ev f x=some (.o (.ptr id k i j)))(l:look σ id=some (.cells T k rows))(b:rows[i]? = some r)
 (h:XP ag n j r=some e):AP P TB Z ⟨d,.load t x,ty,pos,af,g⟩ f σ nx e:=by
 unfold XP at h;split at h
 ·obtain⟨c,p,m⟩:=br.1 h
  subst m;exact QH a l b p
 ·split at h
  ·rename_i hb;injection h with h;subst h;exact TA a l b (bn hb)
  ·cases h
theorem ZH{t:TypeId}{x:Operand}{k off n:Nat}{ag:Bool}{cs:List C}{e:E}[l:Jt P t k off ag n](b:ev f x=some (.a cs))(h:Zx ag off n cs=some e):AP P TB Z ⟨d,.field t x k,ty,pos,af,g⟩ f σ nx e:=by
 unfold Zx at h;split at h
 ·obtain⟨c,j,i⟩:=br.1 h
  subst i;exact UN b j
 ·split at h
  ·rename_i hb;injection h with h;subst h;exact Tq b (bn hb)
  ·cases h
theorem ZI{t:TypeId}{x y:Operand}{ex e:E}{n:Int}{len k:Nat}{ik:IntKind}[i:P7 P t len k](c:ev f x=some ex)(b:ev f y=some (eI ik n))(h:Zy k n ex=some e)(a:0<=n/\n < len) :
 AP P TB Z ⟨d,.indexAddr t x y,ty,pos,af,g⟩ f σ nx e:=by
 unfold Zy at h
 split at h<;>first|(injection h with h;subst h)|cases h
 ·exact RM c b a.1 a.2
 ·exact Tu c b a.1 a.2
theorem Yz{t e:TypeId}{x:Operand}{ex r:E}{k b:Nat}[c:Ch P t e k b](a:ev f x=some ex)(h:ZA k ex=some r):AP P TB Z ⟨d,.call ⟨.builtin .len,#[x],#[t]⟩,ty,pos,af,g⟩ f σ nx r:=by
 unfold ZA at h;split at h
 ·injection h with h;subst h;exact Tz a
 ·split at h
  ·injection h with h;subst h;exact WH a
  ·cases h
 ·cases h
theorem IP{x:Option E}{q:Prop}{e:E}(h:tr x=some (q,e)):x=some e:=by
 cases x with
 | none=>cases h
 | some y=>injection h with h;injection h with _ h;rw [h]
theorem Wq{i:TI}{t:TypeId}{x:Operand}{a e:E}(hi:Dh P t i)(c:ev f x=some a)(h:Wk i a=some e):AP P TB Z ⟨d,.call ⟨.builtin .len,#[x],#[t]⟩,ty,pos,af,g⟩ f σ nx e:=by
 unfold Wk at h;split at h
 ·split at h
  ·rename_i b
   injection h with h;subst h
   haveI:=hi.SI b;exact WK c
  ·cases h
 ·split at h
  ·rename_i b
   haveI:=hi.NQ b;exact Yz c h
  ·cases h
theorem VY{i:TI}{t:TypeId}{x y:Operand}{a b e:E}{q:Prop}(hi:Dh P t i)(n:ev f x=some a)(m:ev f y=some b)(h:VW i a b=some (q,e))(j:q):AP P TB Z ⟨d,.indexAddr t x y,ty,pos,af,g⟩ f σ nx e:=by
 unfold VW at h;split at h
 ·split at h
  ·rename_i c
   split at h
   ·rename_i p
    injection h with h;injection h with l k;subst l;subst k
    have:=bA p;subst this;haveI:=hi.NQ c;exact Ts n m j.1 j.2
   ·cases h
  ·cases h
 ·split at h
  ·rename_i c
   split at h
   ·rename_i o
    injection h with h;injection h with l k;subst l;subst k
    haveI:=hi.XM c;exact ZI n m o j
   ·cases h
  ·cases h
 ·cases h
theorem Wv{i:TI}{t yt:TypeId}{x y:Operand}{a b e:E}{q:Prop}(hi:Dh P t i)(l:ev f x=some a)(k:ev f y=some b)(h:Wu i.pt a b=some (q,e)):AP P TB Z ⟨d,.binOp .eql t x y yt,ty,pos,af,g⟩ f σ nx e:=by
 unfold Wu at h;split at h
 ·rename_i c
  injection h with h;injection h with m j;subst j
  haveI:=hi.SH c;exact RJ l k
 ·rename_i c
  injection h with h;injection h with m j;subst j
  haveI:=hi.SH c;exact PA l k
 ·cases h
theorem VM{i i':TI}{s t:TypeId}{k k':IntKind}{x:Operand}{a e:E}{q:Prop}(hi:Dh P s i)(c:Dh P t i')(o:i.ik=some k)(b:i'.ik=some k')(l:ev f x=some a)(h:VL k k' a=some (q,e))(n:q):AP P TB Z ⟨d,.convert s t x,ty,pos,af,g⟩ f σ nx e:=by
 unfold VL at h;split at h
 ·split at h
  ·rename_i j m
   injection h with h;injection h with r p;subst r;subst p
   have j:=Kh j;subst j;haveI:=hi.SG o;haveI:=c.SG b;exact WG l (Ng m n)
  ·cases h
 ·cases h
theorem QM[n:BY P]{md:Bool}{op:Op}{q:Prop}{e:E}(h:TF n.T md f op=some (q,e))(i:q):AP P TB Z ⟨d,op,ty,pos,af,g⟩ f σ nx e:=by
 have a:=λt=>CJ (P:=P) t n.ok;unfold TF at h;split at h
 ·split at h
  ·cases h
  ·exact Bw (IP h)
 ·rename_i o t x y yt
  split at h
  ·rename_i b c
   unfold XC at h;split at h
   ·exact Wv (a t) b c h
   ·exact ZF b c h i
  ·cases h
 ·rename_i s x k
  split at h
  ·rename_i j b
   haveI:=(a s).VT j;exact Yw b (IP h)
  ·cases h
 ·rename_i t x k
  split at h
  ·rename_i j b
   haveI:=(a t).Uy j;exact ZH b (IP h)
  ·cases h
 ·rename_i t x
  split at h
  ·rename_i p b
   haveI:=(a t).I6 p;exact ZJ b (IP h)
  ·cases h
 ·rename_i t x y
  split at h
  ·rename_i b c
   exact VY (a t) b c h i
  ·cases h
 ·rename_i x t
  split at h
  ·rename_i b
   exact Wq (a t) b (IP h)
  ·cases h
 ·rename_i s t x
  split at h
  ·rename_i m l b
   exact VM (a s) (a t) m l b h i
  ·cases h
 ·split at h
  ·rename_i m
   split at h
   ·rename_i l
    injection h with h;injection h with _ h;subst h
    exact ZG m l
   ·cases h
  ·cases h
 ·exact aY (IP h)
theorem Ox[i:BY P]{op:Op}{c:Bool}(h:Ow i.T f op=some c):AP P TB Z ⟨d,op,ty,pos,af,g⟩ f σ nx (eB c):=by
 have e:=λt=>CJ (P:=P) t i.ok;unfold Ow at h;split at h
 ·rename_i o t x y yt
  split at h
  ·rename_i a b
   split at h
   ·rename_i hb
    haveI:=(e t).Ux hb;unfold ae at h;split at h
    ·injection h with h;subst h;exact Yt a b
    ·injection h with h;subst h;exact YD a b
    ·cases h
   ·exact Ys a b h
  ·cases h
 ·split at h
  ·rename_i a
   injection h with h;subst h
   exact YG a
  ·cases h
 ·cases h
theorem KI[i:BY P]{op:Op}{e:E}(h:Jc i.T σ f op=some e):AP P TB Z ⟨d,op,ty,pos,af,g⟩ f σ nx e:=by
 have a:=λt=>CJ (P:=P) t i.ok;unfold Jc at h;split at h
 ·rename_i t x
  split at h
  ·rename_i l j
   split at h
   ·rename_i k
    split at h
    ·rename_i b c
     have b:=bA b;subst b;haveI:=(a t).I6 l;rw [JG] at c;exact Tx j k c h
    ·cases h
   ·cases h
  ·cases h
 ·cases h
theorem KJ[e:BY P]{t:TypeId}{x y:Operand}{σ':Ab}{K:E->Ab->Nat->Prop}(h:Mi e.T σ f t x y=some σ')(m:K (.t []) σ' nx):BH P TB Z ⟨d,.store t x y,ty,pos,af,g⟩ f σ nx K:=by
 have a:=λt=>CJ (P:=P) t e.ok;unfold Mi at h;split at h
 ·rename_i l j i
  split at h
  ·rename_i k
   split at h
   ·rename_i b c
    split at h
    ·rename_i p o n
     have b:=bA b;subst b;haveI:=(a t).I6 l;rw [JG] at c
     injection h with h
     subst h;exact HO j i p k c (bA o) (bn n) m
    ·cases h
   ·cases h
  ·cases h
 ·cases h
end
section
variable {P:Program}{TB:Bg}{Z:Ctx}{ops:Array Oper}{fl:Fl}{i n:Nat}{L:List (Nat×E)}{σ:Ab}{nx:Nat}{K:Env->Ab->Nat->Prop}{d:Tmp}{ty:TypeId}{pos:String}{af:Array Edge}{g:Option (Nat×Bool)}{op:Op}
theorem gA{d:Option Tmp}(a:A8 ops ⟨d,op,ty,pos,af,g⟩ (look L)=some true)(h:DU P TB Z ops ⟨d,op,ty,pos,af,g⟩ fl i n K L σ nx):A4 P TB Z ops ⟨d,op,ty,pos,af,g⟩ fl i n K L σ nx:=h a
theorem gS{x:E}(a:∀σ nx,AP P TB Z ⟨some d,op,ty,pos,af,g⟩ (look L) σ nx x)(h:Lex P TB Z ops (Af fl (i+1) n) K (look ((d,x)::L)) σ nx):DU P TB Z ops ⟨some d,op,ty,pos,af,g⟩ fl i n K L σ nx:=λb=>BU a b h
theorem gQ{x:E}(a:AP P TB Z ⟨some d,op,ty,pos,af,g⟩ (look L) σ nx x)(c:MC (fl i)=true)(h:Lex P TB Z ops (Af fl (i+1) n) K (look ((d,x)::L)) σ nx):DU P TB Z ops ⟨some d,op,ty,pos,af,g⟩ fl i n K L σ nx:=λb=>UM a b c h
theorem gB{c:Bool}(a:∀σ nx,AP P TB Z ⟨some d,op,ty,pos,af,g⟩ (look L) σ nx (eB c))(h:∀b,c=b->Lex P TB Z ops (Af fl (i+1) n) K (look ((d,eB b)::L)) σ nx):DU P TB Z ops ⟨some d,op,ty,pos,af,g⟩ fl i n K L σ nx:=λe=>RI a e h
theorem ao{c:Bool}(a:AP P TB Z ⟨some d,op,ty,pos,af,g⟩ (look L) σ nx (eB c))(f:MC (fl i)=true)(h:∀b,c=b->Lex P TB Z ops (Af fl (i+1) n) K (look ((d,eB b)::L)) σ nx):DU P TB Z ops ⟨some d,op,ty,pos,af,g⟩ fl i n K L σ nx:=λe=>UM a e f (h c rfl)
theorem gW(h:BH P TB Z ⟨some d,op,ty,pos,af,g⟩ (look L) σ nx (λx σ' nx'=>Lex P TB Z ops (Af fl (i+1) n) K (look ((d,x)::L)) σ' nx'))(b:fl i=1):DU P TB Z ops ⟨some d,op,ty,pos,af,g⟩ fl i n K L σ nx:=λa=>Py h a b
theorem aq(h:BH P TB Z ⟨none,op,ty,pos,af,g⟩ (look L) σ nx (λ_ σ' nx'=>Lex P TB Z ops (Af fl (i+1) n) K (look L) σ' nx'))(b:fl i=1):DU P TB Z ops ⟨none,op,ty,pos,af,g⟩ fl i n K L σ nx:=λa=>KC h a b
theorem yQ{md:Bool}[c:BY P]{q:Prop}{x:E}(h:TF c.T md (look L) op=some (q,x))(a:q)(b:Lex P TB Z ops (Af fl (i+1) n) K (look ((d,x)::L)) σ nx):DU P TB Z ops ⟨some d,op,ty,pos,af,g⟩ fl i n K L σ nx:=gS (λ_ _=>QM h a) b
theorem yB[e:BY P]{c:Bool}(h:Ow e.T (look L) op=some c)(a:∀b,c=b->Lex P TB Z ops (Af fl (i+1) n) K (look ((d,eB b)::L)) σ nx):DU P TB Z ops ⟨some d,op,ty,pos,af,g⟩ fl i n K L σ nx:=gB (λ_ _=>Ox h) a
theorem yS[c:BY P]{x:E}(h:Jc c.T σ (look L) op=some x)(b:MC (fl i)=true)(a:Lex P TB Z ops (Af fl (i+1) n) K (look ((d,x)::L)) σ nx):DU P TB Z ops ⟨some d,op,ty,pos,af,g⟩ fl i n K L σ nx:=gQ (KI h) b a
theorem yW[c:BY P]{t:TypeId}{x y:Operand}{σ':Ab}(h:Mi c.T σ (look L) t x y=some σ')(b:fl i=1)(a:Lex P TB Z ops (Af fl (i+1) n) K (look L) σ' nx):DU P TB Z ops ⟨none,.store t x y,ty,pos,af,g⟩ fl i n K L σ nx:=aq (KJ h a) b
theorem yO[b:BY P]{T:TypeId}{z:List Value}(h:(GG b.T T).ze=some z)(a:z.all Mr=true)(c:fl i=1)(e:Lex P TB Z ops (Af fl (i+1) n) K (look ((d,.o (.ptr nx z.length 0 0))::L)) ((nx,.cells T z.length [z.map zC])::σ) (nx+1)):DU P TB Z ops ⟨some d,.alloc T,ty,pos,af,g⟩ fl i n K L σ nx:=
 haveI:=(CJ (P:=P) T b.ok).SJ h
 gW (UE a e) c
theorem yM[a:BY P]{t:TypeId}{x:Operand}{id k i' j:Nat}{T:TypeId}{rows:List (List C)}{r:List C}{e:E}{ag:Bool}{m:Nat}(b:ev (look L) x=some (.o (.ptr id k i' j)))(f:look σ id=some (.cells T k rows))(c:rows[i']? = some r)(l:(GG a.T t).ld=some (ag,m))
 (h:XP ag m j r=some e) (q:MC (fl i)=true) (p:Lex P TB Z ops (Af fl (i+1) n) K (look ((d,e)::L)) σ nx):DU P TB Z ops ⟨some d,.load t x,ty,pos,af,g⟩ fl i n K L σ nx:=
 haveI:=(CJ (P:=P) t a.ok).I6 l
 gQ (Tx b f c h) q p
theorem yV[b:BY P]{t:TypeId}{x y:Operand}{id k i' j m:Nat}{T:TypeId}{rows:List (List C)}{r:List C}{e:E}{ag:Bool}(d:ev (look L) x=some (.o (.ptr id k i' j)))(c:ev (look L) y=some e)(h:NH e=true)(a:look σ id=some (.cells T k rows))(f:rows[i']? = some r)
 (p:(GG b.T t).ld=some (ag,m)) (l:(eC e).length=m) (s:Nat.ble (j+m) k=true) (u:fl i=1) (q:Lex P TB Z ops (Af fl (i+1) n) K (look L) ((id,.cells T k (rows.set i' (Aj r j (eC e))))::σ) nx):DU P TB Z ops ⟨none,.store t x y,ty,pos,af,g⟩ fl i n K L σ nx:=
 haveI:=(CJ (P:=P) t b.ok).I6 p
 aq (HO d c h a f l (bn s) q) u
theorem bf[a:BY P]{α:Type}{t e:TypeId}{x:Operand}{l:List α}{j:α->List D}{k b:Nat}(c:ev (look L) x=some (.o (.d (.l (l.map j)))))(f:(GG a.T t).sl=some (e,k,b))(h:Lex P TB Z ops (Af fl (i+1) n) K (look ((d,eI .i64 l.length)::L)) σ nx):DU P TB Z ops ⟨some d,.call ⟨.builtin .len,#[x],#[t]⟩,ty,pos,af,g⟩ fl i n K L σ nx:=
 haveI:=(CJ (P:=P) t a.ok).NQ f
 gS (λ_ _=>WI c) h
theorem yL[a:BY P]{t e:TypeId}{x y:Operand}{rows:List (List D)}{row:List D}{m:Int}{k b:Nat}{ik:IntKind}(f:ev (look L) x=some (.o (.d (.l rows))))(c:ev (look L) y=some (eI ik m))(h:rows[m.toNat]? = some row)(p:(GG a.T t).sl=some (e,k,b))(j:row.length=k)(r:0<=m)
 (q:Lex P TB Z ops (Af fl (i+1) n) K (look ((d,.o (.ip row))::L)) σ nx):DU P TB Z ops ⟨some d,.indexAddr t x y,ty,pos,af,g⟩ fl i n K L σ nx:=
 haveI:=(CJ (P:=P) t a.ok).NQ p
 gS (λ_ _=>Tt f c r h j) q
theorem yT[a:BY P]{t:TypeId}{x y:Operand}{s:List UInt8}{m:Int}{c:UInt8}{ik:IntKind}(e:ev (look L) x=some (eT s))(b:ev (look L) y=some (eI ik m))(j:s[m.toNat]? = some c)(f:(GG a.T t).st=true)(k:0<=m)
 (h:Lex P TB Z ops (Af fl (i+1) n) K (look ((d,eI .u8 (c.toNat:Int))::L)) σ nx):DU P TB Z ops ⟨some d,.index t x y,ty,pos,af,g⟩ fl i n K L σ nx:=
 haveI:=(CJ (P:=P) t a.ok).SI f
 gS (λ_ _=>Tw e b k j) h
def ZN(k m:Nat)(z:List Value)(es:List E):Option (List (List D)):=match es.all NH,Le es with
 | true,some rows=>match rows.all λr=>Nat.beq r.length k,Nat.beq z.length k,z.all Mr,Nat.ble 1 k,Nat.ble (m*k) 16777216 with
  | true,true,true,true,true=>some rows
  | _,_,_,_,_=>none
 | _,_=>none
theorem yZ[c:BY P]{t e:TypeId}{k b m:Nat}{z:List Value}{parts:Array (Nat×Operand)}{es:List E}{rows:List (List D)}(r:(GG c.T t).sl=some (e,k,b))(j:(GG c.T e).ze=some z)(p:Cp 0 (parts.toList.map (·.2))=parts.toList)(q:parts.toList.length=m)
 (f:Hz (look L) (parts.toList.map (·.2))=some es) (a:ZN k m z es=some rows)
 (h:Lex P TB Z ops (Af fl (i+1) n) K (look ((d,.o (.d (.l rows)))::L)) σ nx):DU P TB Z ops ⟨some d,.buildSlice t m parts,ty,pos,af,g⟩ fl i n K L σ nx:=by
 haveI:=(CJ (P:=P) t c.ok).NQ r;haveI:=(CJ (P:=P) e c.ok).SJ j;unfold ZN at a;split at a
 ·rename_i A y
  split at a
  ·rename_i x w v u s
   injection a with a
   subst a;exact gS (λ_ _=>KF p q f A y x (bA w) v u s) h
  ·cases a
 ·cases a
theorem yY{T:TypeId}{x:Operand}{e:E}{ds:List D}(a:ev (look L) x=some e)(b:NH e=true)(c:LG (eC e)=some ds)(h:Lex P TB Z ops (Af fl (i+1) n) K (look ((d,.o (.ip ds))::L)) σ nx):DU P TB Z ops ⟨some d,.box T x,ty,pos,af,g⟩ fl i n K L σ nx:=gS (λ_ _=>CS a b c) h
def UH:Nat->List (Nat×Operand)->Bool
 | _,[]=>true
 | k,(i,_)::r=>Nat.beq i k && UH (k+1) r
theorem QE:∀(l:List (Nat×Operand)) (k:Nat),UH k l=true->Cp k (l.map (·.2))=l
 | [],_,_=>rfl
 | (i,x)::r,k,h=>by
  unfold UH at h;rw [bu] at h;have a:=bA h.1;subst a;have:=QE r (i+1) h.2;simp [Cp,this]
def UI(c:Nat):Option E->Bool
 | some (.o (.ptr id _ _ _))=>MC c || (Nat.beq c (10+id) && !Nat.ble 1000 c)
 | _=>MC c
theorem TG{T:List (Nat×TI)}{σ σ':Ab}{f:Env}{t:TypeId}{x:Operand}{id k i j:Nat}(a:ev f x=some (.o (.ptr id k i j)))(h:look σ' id=look σ id):Jc T σ' f (.load t x)=Jc T σ f (.load t x):=by
 unfold Jc;simp only [a]
 cases (GG T t).ld with
 | none=>rfl
 | some p=>obtain⟨ag,n⟩:=p;simp only [h]
def QL(T:List (Nat×TI))(sl:Bool)(c nx:Nat)(σ:Ab)(L:List (Nat×E)):Option Tmp->Op->Option (List (Nat×E)×Ab×Nat)
 | some d,.alloc t=>match Nat.beq c 1,(GG T t).ze with
  | true,some z=>match z.all Mr with
   | true=>some ((d,.o (.ptr nx z.length 0 0))::L,(nx,.cells t z.length [z.map zC])::σ,nx+1)
   | false=>none
  | _,_=>none
 | none,.store t x y=>match Nat.beq c 1,Mi T σ (look L) t x y with
  | true,some σ'=>some (L,σ',nx)
  | _,_=>none
 | some d,.load t x=>match UI c (ev (look L) x),Jc T σ (look L) (.load t x) with
  | true,some e=>some ((d,e)::L,σ,nx)
  | _,_=>none
 | some d,.box _ x=>match sl,ev (look L) x with
  | true,some e=>match NH e,LG (eC e) with
   | true,some ds=>some ((d,.o (.ip ds))::L,σ,nx)
   | _,_=>none
  | _,_=>none
 | some d,.buildSlice t m parts=>match sl,(GG T t).sl with
  | true,some (e,k,_)=>match (GG T e).ze,Hz (look L) (parts.toList.map (·.2)) with
   | some z,some es=>match ZN k m z es,UH 0 parts.toList,Nat.beq parts.toList.length m with
    | some rows,true,true=>some ((d,.o (.d (.l rows)))::L,σ,nx)
    | _,_,_=>none
   | _,_=>none
  | _,_=>none
 | _,_=>none
theorem yU[p:BY P]{sl:Bool}{d:Option Tmp}{L':List (Nat×E)}{σ':Ab}{nx':Nat}(h:QL p.T sl (fl i) nx σ L d op=some (L',σ',nx'))(j:Lex P TB Z ops (Af fl (i+1) n) K (look L') σ' nx'):DU P TB Z ops ⟨d,op,ty,pos,af,g⟩ fl i n K L σ nx:=by
 unfold QL at h;split at h
 ·split at h
  ·rename_i a b
   split at h
   ·rename_i k
    injection h with h;injection h with f h;injection h with e c;subst f;subst e;subst c
    exact yO b k (bA a) j
   ·cases h
  ·cases h
 ·split at h
  ·rename_i a b
   injection h with h;injection h with f h;injection h with e c;subst f;subst e;subst c
   exact yW b (bA a) j
  ·cases h
 ·split at h
  ·rename_i a b
   injection h with h;injection h with f h;injection h with e c;subst f;subst e;subst c
   unfold UI at a;split at a
   ·rename_i m
    rw [cu] at a
    rcases a with a|a
    ·exact yS b a j
    ·rw [bu] at a
     have k:=bA a.1;refine λo=>XZ (λσ' nx' l=>KI (by rw [k,Nat.add_sub_cancel_left] at l;rw [TG (σ:=σ) (σ':=σ') m l];exact b)) o ⟨ed (by omega),by simpa using a.2⟩ j
   ·exact yS b a j
  ·cases h
 ·split at h
  ·rename_i a
   split at h
   ·rename_i b k
    injection h with h;injection h with f h;injection h with e c;subst f;subst e;subst c
    exact yY a b k j
   ·cases h
  ·cases h
 ·split at h
  ·rename_i a
   split at h
   ·rename_i b k
    split at h
    ·rename_i s r q
     injection h with h;injection h with f h;injection h with e c;subst f;subst e;subst c
     exact yZ a b (QE _ _ r) (bA q) k s j
    ·cases h
   ·cases h
  ·cases h
 ·cases h
theorem yP{x:Operand}{args:Array Operand}{tys:Array TypeId}{gg:FuncId}{cap:List C}{es:List E}{r:E}(b:ev (look L) x=some (.o (.fn gg cap)))(a:Hz (look L) args.toList=some es)(f:(es.all E.BI && C.CI cap)=true)
 (c:Pure P TB gg (es++cap.map .o) r) (e:r.BI=true) (h:Lex P TB Z ops (Af fl (i+1) n) K (look ((d,r)::L)) σ nx):DU P TB Z ops ⟨some d,.call ⟨.value x,args,tys⟩,ty,pos,af,g⟩ fl i n K L σ nx:=gS (λ_ _=>Bd b a f c e) h
theorem yC{x:Operand}{args:Array Operand}{tys:Array TypeId}{gg:FuncId}{cap:List C}{es:List E}{c:Bool}(e:ev (look L) x=some (.o (.fn gg cap)))(a:Hz (look L) args.toList=some es)(j:(es.all E.BI && C.CI cap)=true)
 (f:Pure P TB gg (es++cap.map .o) (eB c)) (h:∀b,c=b->Lex P TB Z ops (Af fl (i+1) n) K (look ((d,eB b)::L)) σ nx):DU P TB Z ops ⟨some d,.call ⟨.value x,args,tys⟩,ty,pos,af,g⟩ fl i n K L σ nx:=gB (λ_ _=>Bd e a j f rfl) h
theorem yG{d:Option Tmp}{j t:Nat}{w b:Bool}(f:(ops[j]?).bind (·.dst)=some t)(e:look L t=some (eB b))
 (a:b=true->Lex P TB Z ops (Af fl i (n+1)) K (look L) σ nx) (c:b=false->Lex P TB Z ops (Af fl i (n+1)) K (look L) σ nx):A4 P TB Z ops ⟨d,op,ty,pos,af,some (j,w)⟩ fl i n K L σ nx:=by
 intro _;cases b
 ·exact c rfl
 ·exact a rfl
end
abbrev Gv:=Prop×List (Nat×E)×Ab×Nat
def Vt(T : List (Nat×TI))(md sl:Bool)(ops:Array Oper)(fl:Fl)(i:Nat)(L:List (Nat×E))(σ:Ab)(nx:Nat):Option Gv:=
 match Kz ops.toList (fl.p i) with
 | some ⟨ds,op,ty,pos,af,g⟩=>match A8 ops ⟨ds,op,ty,pos,af,g⟩ (look L) with
  | some true=>match ds with
   | some d=>match TF T md (look L) op with
    | some (q,e)=>some (q,(d,e)::L,σ,nx)
    | none=>match QL T sl (fl i) nx σ L (some d) op with
     | some (L',σ',nx')=>some (True,L',σ',nx')
     | none=>none
   | none=>match QL T sl (fl i) nx σ L none op with
    | some (L',σ',nx')=>some (True,L',σ',nx')
    | none=>none
  | some false=>match ds with
   | some d=>some (True,(d,.t [])::L,σ,nx)
   | none=>some (True,L,σ,nx)
  | none=>none
 | none=>none
def Wy(ops:Array Oper)(fl:Fl)(i:Nat)(L:List (Nat×E)):Option (Option Tmp×Op):=match Kz ops.toList (fl.p i) with
 | some ⟨ds,op,ty,pos,af,g⟩=>match A8 ops ⟨ds,op,ty,pos,af,g⟩ (look L) with
  | some true=>some (ds,op)
  | _=>none
 | none=>none
def aw(T:List (Nat×TI))(ops:Array Oper)(fl:Fl)(i:Nat)(L:List (Nat×E)):Option (Nat×List (List D)):=match Wy ops fl i L with
 | some (some d,.call ⟨.builtin .len,⟨[x]⟩,⟨[t]⟩⟩)=>match (GG T t).sl,ev (look L) x with
  | some _,some (.o (.d (.l rows)))=>some (d,rows)
  | _,_=>none
 | _=>none
structure As where
 Y:Type
 l:List Y
 m:Nat
 k:Y->Option Gv
def Zp(T : List (Nat×TI))(ops:Array Oper)(fl:Fl)(i:Nat)(L:List (Nat×E))(σ:Ab)(nx:Nat):Option As:=match Wy ops fl i L with
 | some (some d,.indexAddr t x y)=>match (GG T t).sl,ev (look L) x,ev (look L) y with
  | some (_,k,_),some (.o (.d (.l rows))),some (.o (.d (.v (.int _ m))))=>some ⟨List D,rows,m.toNat,λr=>match Nat.beq r.length k with
   | true=>some (0<=m,(d,.o (.ip r))::L,σ,nx)
   | false=>none⟩
  | _,_,_=>none
 | some (some d,.index t x y)=>match (GG T t).st,ev (look L) x,ev (look L) y with
  | true,some (.o (.d (.v (.string ⟨⟨s⟩⟩)))),some (.o (.d (.v (.int _ m))))=>some ⟨UInt8,s,m.toNat,λc=>some (0<=m,(d,eI .u8 (c.toNat:Int))::L,σ,nx)⟩
  | _,_,_=>none
 | some (some d,.load t x)=>match (GG T t).ld,ev (look L) x with
  | some (ag,m),some (.o (.ptr id k i' j))=>match look σ id with
   | some (.cells _ k' rows)=>match Nat.beq k k',UI (fl i) (some (.o (.ptr id k i' j))) with
    | true,true=>some ⟨List C,rows,i',λr=>match XP ag m j r with
     | some e=>some (True,(d,e)::L,σ,nx)
     | none=>none⟩
    | _,_=>none
   | _=>none
  | _,_=>none
 | some (none,.store t x y)=>match (GG T t).ld,ev (look L) x,ev (look L) y with
  | some (_,m),some (.o (.ptr id k i' j)),some e=>match look σ id with
   | some (.cells ct k' rows)=>match Nat.beq k k',Nat.beq (fl i) 1,NH e,Nat.beq (eC e).length m,Nat.ble (j+m) k with
    | true,true,true,true,true=>some ⟨List C,rows,i',λr=>some (True,L,(id,.cells ct k (rows.set i' (Aj r j (eC e))))::σ,nx)⟩
    | _,_,_,_,_=>none
   | _=>none
  | _,_,_=>none
 | _=>none
def aH(T:List (Nat×TI))(ops:Array Oper)(fl:Fl)(i:Nat)(L:List (Nat×E)):Option (Nat×Bool):=match Wy ops fl i L with
 | some (some d,op)=>match Ow T (look L) op with
  | some c=>some (d,c)
  | none=>none
 | _=>none
def aQ(ops:Array Oper)(fl:Fl)(i:Nat)(L:List (Nat×E)):Option Bool:=match Kz ops.toList (fl.p i) with
 | some ⟨_,_,_,_,_,some (j,_)⟩=>match (ops[j]?).bind (·.dst) with
  | some t=>match look L t with
   | some (.o (.d (.v (.bool b))))=>some b
   | _=>none
  | none=>none
 | _=>none
def Za(ops:Array Oper)(fl:Fl)(i:Nat)(L:List (Nat×E)):Option (Nat×FuncId×List E):=match Wy ops fl i L with
 | some (some d,.call ⟨.value x,args,_⟩)=>match ev (look L) x,Hz (look L) args.toList with
  | some (.o (.fn gg cap)),some es=>match es.all E.BI && C.CI cap with
   | true=>some (d,gg,es++cap.map .o)
   | false=>none
  | _,_=>none
 | _=>none
section
variable {P:Program}{TB:Bg}{Z:Ctx}{ops:Array Oper}{fl:Fl}{i n:Nat}{L L':List (Nat×E)}{σ σ':Ab}{nx nx' d:Nat}{K:Env->Ab->Nat->Prop}
theorem Fm{ds:Option Tmp}{op:Op}(h:Wy ops fl i L=some (ds,op))(k:∀ty pos af g,DU P TB Z ops ⟨ds,op,ty,pos,af,g⟩ fl i n K L σ nx):Lex P TB Z ops (Af fl i (n+1)) K (look L) σ nx:=by
 unfold Wy at h;split at h
 ·rename_i a
  split at h
  ·rename_i b
   injection h with h;injection h with d c;subst d;subst c
   exact Av a (k _ _ _ _ b)
  ·cases h
 ·cases h
theorem s1{md sl:Bool}[l:BY P]{q:Prop}(h:Vt l.T md sl ops fl i L σ nx=some (q,L',σ',nx'))(k:q)(j:Lex P TB Z ops (Af fl (i+1) n) K (look L') σ' nx'):Lex P TB Z ops (Af fl i (n+1)) K (look L) σ nx:=by
 unfold Vt at h;split at h
 ·rename_i a
  split at h
  ·rename_i f
   split at h
   ·split at h
    ·rename_i g
     injection h with h;injection h with e h;injection h with d h;injection h with c b;subst e;subst d;subst c;subst b
     exact Av a (yQ g k j f)
    ·split at h
     ·rename_i g
      injection h with h;injection h with e h;injection h with d h;injection h with c b;subst e;subst d;subst c;subst b
      exact Av a (yU g j f)
     ·cases h
   ·split at h
    ·rename_i g
     injection h with h;injection h with e h;injection h with d h;injection h with c b;subst e;subst d;subst c;subst b
     exact Av a (yU g j f)
    ·cases h
  ·rename_i f
   split at h
   ·injection h with h;injection h with e h;injection h with d h;injection h with c b;subst e;subst d;subst c;subst b
    exact Av a (λa=>Px a f (by rw [CW];exact j))
   ·injection h with h;injection h with e h;injection h with d h;injection h with c b;subst e;subst d;subst c;subst b
    exact Av a (λa=>Px a f j)
  ·cases h
 ·cases h
theorem sA[c:BY P]{q:Prop}(h:Vt c.T false true ops fl i L σ nx=some (q,L',σ',nx'))(a:q)(b:Lex P TB Z ops (Af fl (i+1) n) K (look L') σ' nx'):Lex P TB Z ops (Af fl i (n+1)) K (look L) σ nx:=s1 h a b
theorem sM[c:BY P]{q:Prop}(h:Vt c.T true false ops fl i L σ nx=some (q,L',σ',nx'))(a:q)(b:Lex P TB Z ops (Af fl (i+1) n) K (look L') σ' nx'):Lex P TB Z ops (Af fl i (n+1)) K (look L) σ nx:=s1 h a b
theorem sX[c:BY P]{q:Prop}(h:Vt c.T false false ops fl i L σ nx=some (q,L',σ',nx'))(a:q)(b:Lex P TB Z ops (Af fl (i+1) n) K (look L') σ' nx'):Lex P TB Z ops (Af fl i (n+1)) K (look L) σ nx:=s1 h a b
theorem sN[f:BY P]{α:Type}{l:List α}{g:α->List D}(h:aw f.T ops fl i L=some (d,l.map g))(e:Lex P TB Z ops (Af fl (i+1) n) K (look ((d,eI .i64 l.length)::L)) σ nx):Lex P TB Z ops (Af fl i (n+1)) K (look L) σ nx:=by
 unfold aw at h;split at h
 ·rename_i b
  split at h
  ·rename_i c a
   injection h with h;injection h with k j;subst k;subst j
   exact Fm b λ_ _ _ _=>bf a c e
  ·cases h
 ·cases h
theorem s4[y : BY P]{Y:Type}{l:List Y}{m:Nat}{k:Y->Option Gv}{r:Y}{q:Prop}(h:Zp y.T ops fl i L σ nx=some ⟨Y,l,m,k⟩)(s:l[m]? = some r)(e:k r=some (q,L',σ',nx'))(w:q)
 (t:Lex P TB Z ops (Af fl (i+1) n) K (look L') σ' nx'):Lex P TB Z ops (Af fl i (n+1)) K (look L) σ nx:=by
 unfold Zp at h;split at h
 ·rename_i j
  split at h
  ·rename_i o g p
   injection h with h;injection h with d c b a;subst d;subst c;subst b
   have a:=eq_of_heq a;subst a;dsimp only at e;split at e
   ·rename_i hb
    injection e with h;injection h with d h;injection h with c h;injection h with b a;subst d;subst c;subst b;subst a
    exact Fm j λ_ _ _ _=>yL g p s o (bA hb) w t
   ·cases e
  ·cases h
 ·rename_i j
  split at h
  ·rename_i o g p
   injection h with h;injection h with d c b a;subst d;subst c;subst b
   have a:=eq_of_heq a;subst a;dsimp only at e
   injection e with h;injection h with d h;injection h with c h;injection h with b a;subst d;subst c;subst b;subst a
   exact Fm j λ_ _ _ _=>yT g p s o w t
  ·cases h
 ·rename_i j
  split at h
  ·rename_i o g
   split at h
   ·rename_i u
    split at h
    ·rename_i hb f
     injection h with h;injection h with d c b a;subst d;subst c;subst b
     have a:=eq_of_heq a;subst a;dsimp only at e;split at e
     ·rename_i x
      injection e with h;injection h with d h;injection h with c h;injection h with b a;subst d;subst c;subst b;subst a
      have hb:=bA hb;subst hb;unfold UI at f;rw [cu] at f
      rcases f with f|f
      ·exact Fm j λ_ _ _ _=>yM g u s o x f t
      ·rw [bu] at f
       have G:=bA f.1;haveI:=(CJ (P:=P) _ y.ok).I6 o;exact Fm j λ_ _ _ _ z=>XZ (λσ' nx' v=>Tx g (by rw [G,Nat.add_sub_cancel_left] at v;rw [v];exact u) s x) z ⟨ed (by omega),by simpa using f.2⟩ t
     ·cases e
    ·cases h
   ·cases h
  ·cases h
 ·rename_i j
  split at h
  ·rename_i o g p
   split at h
   ·rename_i u
    split at h
    ·rename_i hb f F B A
     injection h with h;injection h with d c b a;subst d;subst c;subst b
     have a:=eq_of_heq a;subst a;dsimp only at e
     injection e with h;injection h with d h;injection h with c h;injection h with b a;subst d;subst c;subst b;subst a
     have hb:=bA hb;subst hb;exact Fm j λ_ _ _ _=>yV g p F u s o (bA B) A (bA f) t
    ·cases h
   ·cases h
  ·cases h
 ·cases h
theorem tA[b:BY P](h:Vt b.T false true ops fl i L σ nx=some (True,L',σ',nx'))(a:Lex P TB Z ops (Af fl (i+1) n) K (look L') σ' nx'):Lex P TB Z ops (Af fl i (n+1)) K (look L) σ nx:=s1 h True.intro a
theorem tM[b:BY P](h:Vt b.T true false ops fl i L σ nx=some (True,L',σ',nx'))(a:Lex P TB Z ops (Af fl (i+1) n) K (look L') σ' nx'):Lex P TB Z ops (Af fl i (n+1)) K (look L) σ nx:=s1 h True.intro a
theorem tX[b:BY P](h:Vt b.T false false ops fl i L σ nx=some (True,L',σ',nx'))(a:Lex P TB Z ops (Af fl (i+1) n) K (look L') σ' nx'):Lex P TB Z ops (Af fl i (n+1)) K (look L) σ nx:=s1 h True.intro a
theorem t4[c:BY P]{Y:Type}{l:List Y}{m:Nat}{k:Y->Option Gv}{r:Y}(h:Zp c.T ops fl i L σ nx=some ⟨Y,l,m,k⟩)(a:l[m]? = some r)(d:k r=some (True,L',σ',nx'))
 (b:Lex P TB Z ops (Af fl (i+1) n) K (look L') σ' nx'):Lex P TB Z ops (Af fl i (n+1)) K (look L) σ nx:=s4 h a d True.intro b
theorem s2[g:BY P]{c:Bool}(h:aH g.T ops fl i L=some (d,c))(f:∀b,c=b->Lex P TB Z ops (Af fl (i+1) n) K (look ((d,eB b)::L)) σ nx):Lex P TB Z ops (Af fl i (n+1)) K (look L) σ nx:=by
 unfold aH at h;split at h
 ·rename_i e
  split at h
  ·rename_i a
   injection h with h;injection h with k j;subst k;subst j
   exact Fm e λ_ _ _ _=>yB a f
  ·cases h
 ·cases h
theorem s3{b:Bool}(_h:aQ ops fl i L=some b)(a:b=true->Lex P TB Z ops (Af fl i (n+1)) K (look L) σ nx)(c:b=false->Lex P TB Z ops (Af fl i (n+1)) K (look L) σ nx):Lex P TB Z ops (Af fl i (n+1)) K (look L) σ nx:=by
 cases b
 ·exact c rfl
 ·exact a rfl
theorem Qo{gg:FuncId}{es:List E}(h:Za ops fl i L=some (d,gg,es)):∃x args tys cap a,Wy ops fl i L=some (some d,.call ⟨.value x,args,tys⟩)/\ev (look L) x=some (.o (.fn gg cap))/\Hz (look L) args.toList=some a/\(a.all E.BI && C.CI cap)=true/\es=a++cap.map .o:=by
 unfold Za at h;split at h
 ·rename_i e
  split at h
  ·rename_i b f
   split at h
   ·rename_i c
    injection h with h;injection h with k h;injection h with j g;subst k;subst j;subst g
    exact⟨_,_,_,_,_,e,b,f,c,rfl⟩
   ·cases h
  ·cases h
 ·cases h
theorem sP{gg:FuncId}{es:List E}{r:E}(h:Za ops fl i L=some (d,gg,es))(b:Pure P TB gg es r)(c:r.BI=true)(g:Lex P TB Z ops (Af fl (i+1) n) K (look ((d,r)::L)) σ nx):Lex P TB Z ops (Af fl i (n+1)) K (look L) σ nx:=by
 obtain⟨x,args,tys,cap,k,f,a,j,e,rfl⟩:=Qo h;exact Fm f λ_ _ _ _=>yP a j e b c g
theorem sC{gg:FuncId}{es:List E}{c:Bool}(h:Za ops fl i L=some (d,gg,es))(e:Pure P TB gg es (eB c))(j:∀b,c=b->Lex P TB Z ops (Af fl (i+1) n) K (look ((d,eB b)::L)) σ nx):Lex P TB Z ops (Af fl i (n+1)) K (look L) σ nx:=by
 obtain⟨x,args,tys,cap,l,g,a,k,f,rfl⟩:=Qo h;exact Fm g λ_ _ _ _=>yC a k f e j
theorem tI:True:=True.intro
end
section
variable {P:Program}{TB:Bg}{Z:Ctx}{N:Nat}{ops:Array Oper}{fl:Fl}{i:Nat}{K:Env->Ab->Nat->Prop}{Q:Exit->Env->Ab->Nat->Prop}{f:Env}{σ:Ab}{nx:Nat}
theorem aS{x y:Code}(h:Al P TB Z N x (Ii (Al P TB Z N y Q) Q) f σ nx):Al P TB Z N (.seq x y) Q f σ nx:=.seq h
def O6(N:Nat):List Oper->Bool
 | []=>true
 | o::r=>match o.dst with
  | some d=>bif Nat.ble (d+1) N then O6 N r else false
  | none=>O6 N r
theorem Qn{N:Nat}:∀ {l:List Oper},O6 N l=true->∀o∈l,(match o.dst with|some d=>Nat.blt d N|none=>true)=true
 | [],_,o,a=>by cases a
 | x :: l,h,o,a=>by
  unfold O6 at h
  rcases cm.1 a with rfl|a
  ·cases b:o.dst with
   | none=>rfl
   | some d=>
    rw [b] at h;dsimp only at h |-
    cases hb:Nat.ble (d+1) N with
    | false=>rw [hb] at h;cases h
    | true=>exact hb
  ·refine Qn ?_ o a
   cases b:x.dst with
   | none=>rw [b] at h;exact h
   | some d=>
    rw [b] at h;dsimp only at h
    cases hb:Nat.ble (d+1) N with
    | false=>rw [hb] at h;cases h
    | true=>rw [hb] at h;exact h
theorem Sw{N:Nat}{ops:Array Oper}(h:O6 N ops.toList=true):Es N ops=true:=by
 unfold Es;rw [Array.all_eq_true];intro i hi;exact Qn h _ (by simp)
def Xm(P:Program)(TB:Bg)(Z:Ctx)(N:Nat):Code->(Exit->Env->Ab->Nat->Prop)->Option (Env->Ab->Nat->Prop)
 | .region _ ops false,Q=>bif O6 N ops.toList then some (Lex P TB Z ops (Af SC 0 ops.size) (λf σ nx=>Q .normal f σ nx)) else none
 | .seq c d,Q=>match Xm P TB Z N c (Ii (Al P TB Z N d Q) Q) with
  | some G=>some G
  | none=>some (Al P TB Z N c (Ii (Al P TB Z N d Q) Q))
 | _,_=>none
theorem Ti:∀ {c:Code} {Q:Exit->Env->Ab->Nat->Prop} {G:Env->Ab->Nat->Prop} {f:Env} {σ:Ab} {nx:Nat},Xm P TB Z N c Q=some G->G f σ nx->Al P TB Z N c Q f σ nx
 | .region _ ops false,Q,G,f,σ,nx,h,g=>by
  unfold Xm at h
  cases b:O6 N ops.toList with
  | false=>rw [b] at h;cases h
  | true=>rw [b] at h;injection h with h;subst h;exact ZM (Sw b) g
 | .seq c d,Q,G,f,σ,nx,h,g=>by
  unfold Xm at h;refine .seq ?_
  cases a:Xm P TB Z N c (Ii (Al P TB Z N d Q) Q) with
  | none=>rw [a] at h;injection h with h;subst h;exact g
  | some G=>rw [a] at h;injection h with h;subst h;exact Ti a g
 | .region _ ops true,Q,G,f,σ,nx,h,g=>by cases h
 | .skip,Q,G,f,σ,nx,h,g=>by cases h
 | .cond ..,Q,G,f,σ,nx,h,g=>by cases h
 | .block ..,Q,G,f,σ,nx,h,g=>by cases h
 | .ret,Q,G,f,σ,nx,h,g=>by cases h
 | .exit ..,Q,G,f,σ,nx,h,g=>by cases h
theorem aU{c:Code}{G:Env->Ab->Nat->Prop}(h:Xm P TB Z N c Q=some G)(g:G f σ nx):Al P TB Z N c Q f σ nx:=Ti h g
theorem aR(h:Q .ret f σ nx):Al P TB Z N .ret Q f σ nx:=.ret h
theorem aK(h:Q .normal f σ nx):Al P TB Z N .skip Q f σ nx:=.skip h
theorem aE{id:Nat}(h:Q (.exit id) f σ nx):Al P TB Z N (.exit id) Q f σ nx:=.exit h
theorem aB{id:Nat}{c:Code}(h:Al P TB Z N c (Zc id Q) f σ nx):Al P TB Z N (.block id c) Q f σ nx:=.block h
theorem aC{c:Operand}{x y:Code}{b:Bool}(e:ev f c=some (.o (.d (.v (.bool b)))))(ht:b=true->Al P TB Z N x Q f σ nx)(a:b=false->Al P TB Z N y Q f σ nx):Al P TB Z N (.cond c x y) Q f σ nx:=.cond e ht a
theorem eN {g:FuncId} {fn:Func} {c:Code} {args:List E} {post:E->Ab->Nat->Prop} (b:P.funcs[g]? = some fn) (hb:fn.body=some c) (a:(fn.name == "runtime.NumGoroutine")=false) (ha:Nat.ble args.length fn.ntmps=true)
 (h:∀Z:Ctx,Z.V.nx=nx->Al P TB Z fn.ntmps c (Xr fn.results post) (look (Br 0 args)) σ nx):Spec P TB g σ nx args post:=.of b hb a (bn ha) h
end
section
variable {P:Program}{TB:Bg}{Z:Ctx}{d:Option Tmp}{ty:TypeId}{pos:String}{af:Array Edge}{g:Option (Nat×Bool)}{f:Env}{σ:Ab}{nx:Nat}
end
inductive FL (σ:Ab) (ids:List Nat):List C->List C->Prop
 | nil:FL σ ids [] []
 | cons {c c':C} {cs cs':List C}:FC σ ids c c'->FL σ ids cs cs'->FL σ ids (c::cs) (c'::cs')
theorem FL.len{σ:Ab}{ids:List Nat}{l l':List C}(h:FL σ ids l l'):l'.length=l.length:=by
 induction h with
 | nil=>rfl
 | cons _ _ a=>simp [a]
theorem FL.get{σ:Ab}{ids:List Nat}{l l':List C}(h:FL σ ids l l'):∀(j:Nat) c',l'[j]? = some c'->∃c,l[j]? = some c/\FC σ ids c c':=by
 induction h with
 | nil=>intro j c' h;simp at h
 | @cons f e cs cs' d _ b=>
  intro j c' a
  cases j with
  | zero=>simp at a;subst a;exact⟨f,rfl,d⟩
  | succ j=>exact b j c' (by simpa using a)
def LI(σ:Ab)(ids:List Nat):Ab->Prop
 | []=>True
 | (id,.cells T k [r'])::S=>(∃r,look σ id=some (.cells T k [r])/\id∉ids/\FL σ ids r r')/\LI σ ids S
 | _=>False
theorem LI.get{σ:Ab}{ids:List Nat}:∀ {S:Ab},LI σ ids S->∀id o',look S id=some o'->∃T k r r',o'=.cells T k [r']/\look σ id=some (.cells T k [r])/\id∉ids/\FL σ ids r r'
 | [],_,id,o',h=>by cases h
 | (i, o)::S,a,id,o',h=>by
  match o,a with
  | .cells T k [r'],a=>
   rw [Ak] at h;by_cases hi:i=id
   ·rw [if_pos hi] at h
    injection h with h
    subst h;subst hi;obtain⟨r,d,c,b⟩:=a.1;exact⟨T,k,r,r',rfl,d,c,b⟩
   ·rw [if_neg hi] at h
    exact LI.get a.2 id o' h
section
variable {P:Program}{TB:Bg}{Z:Ctx}{N:Nat}{σ:Ab}
theorem Bv.JA{V:View}{f:Env}{nx:Nat}{a:Act}(h:Bv TB Z N V f σ nx a)(ids:List Nat)(L:List (Nat×E))(S:Ab)(J:CO σ ids f L)(u:LI σ ids S):Bv TB Z N (He V σ ids) (look L) S nx a:=by
 have e:Ext V (He V σ ids):=JB;have hi:=h.inv;refine⟨λt x m=>?_,λt x m=>?_,h.size,?_,h.nx,h.defers⟩
 ·obtain⟨y,g,w⟩:=J.get t x m
  exact w.rel h.inv (h.env t y g)
 ·obtain⟨y,g,_⟩:=J.get t x m
  exact h.lt t y g
 ·refine⟨hi.os,hi.tape,hi.output,hi.old,?_,?_,hi.ext.trans e,⟨?_,?_,?_,?_⟩,?_,λx m=>⟨.inl (hi.tabs x m).1,(hi.tabs x m).2⟩,hi.hid.same rfl (λ_ h=>.inl h) (λb hb=>hb.elim .inl λ⟨id,o,_,d,l,B⟩=>.inr ⟨id,o,d,l,B⟩) λb ⟨id,o,d,l,hb⟩=>?_⟩
  ·rintro b (hb|⟨id,o,_,d,l,hb⟩)
   ·exact hi.iLt b hb
   ·exact(hi.st.obj id o d).blt l hb
  ·rintro b (hb|⟨id,o,_,d,l,hb⟩)
   ·exact hi.iNew b hb
   ·exact .inr (hi.live id o d l b hb)
  ·intro id o d
   obtain⟨T,k,r,r',rfl,g,w,M⟩:=u.get id o d
   rcases hi.st.obj id _ g with ⟨K,F⟩|⟨h0,cur,K,F,h6,h7,h8,h9⟩
   ·cases F
   ·refine .inr ⟨h0,cur,K,F,h6,h7,λx m=>?_,λi x j c' s R=>?_⟩
    ·simp at m;subst m;rw [M.len];exact h8 r (by simp)
    ·have A:i=0:=by have:=(am.1 s).1;simp at this;omega
     subst A;simp at s;subst s;obtain⟨c,hc,U⟩:=M.get j c' R;obtain⟨v,I,H⟩:=h9 0 r j c rfl hc;exact⟨v,I,U.rel hi H⟩
  ·intro id o d
   obtain⟨T,k,r,r',_,g,_,_⟩:=u.get id o d;exact hi.st.lt id _ g
  ·intro id o d l b n hb
   obtain⟨T,k,r,r',rfl,g,w,_⟩:=u.get id o d
   rcases hb with hb|⟨id',o',Q,q,p,B⟩
   ·exact hi.st.free id _ g l b n hb
   ·exact hi.st.inj id id' _ o' g q (λe=>w (e ▸ Q)) l p b n B
  ·intro id id' o o' d q z l p b hb n
   obtain⟨T,k,r,r',rfl,g,_,_⟩:=u.get id o d;obtain⟨T2,k2,r2,P,rfl,G,_,_⟩:=u.get id' o' q;exact hi.st.inj id id' _ _ g G z l p b hb n
  ·intro id o d l b hb
   obtain⟨T,k,r,r',rfl,g,_,_⟩:=u.get id o d;exact hi.live id _ g l b hb
  ·obtain⟨T,k,r,r',rfl,g,_,_⟩:=u.get id o d
   exact⟨id,_,g,l,hb⟩
theorem Al.JA{c:Code}{Q:Exit->Env->Ab->Nat->Prop}{f:Env}{nx:Nat}(ids:List Nat)(L:List (Nat×E))(S:Ab)(e:CO σ ids f L)(d:LI σ ids S)(h:Al P TB Z N c Q (look L) S nx):Al P TB Z N c Q f σ nx:=
 λV a b=>h (He V σ ids) a (b.JA ids L S e d)
theorem QI{d:Option Tmp}{ty:TypeId}{pos:String}{af:Array Edge}{g:Option (Nat×Bool)}{f:Env}{nx:Nat}{t k e:TypeId}{x y:Operand}{id:Nat}{l:List (List UInt8×Int)}{s:List UInt8}[B:P9 P t k e][F:CD P k][L:Se P e (.int .i64 0)](N:ev f x=some (.o (.mp id)))(M:ev f y=some (eT s))(Q:look σ id=some (.mp (FH l))) :
 AP P TB Z ⟨d,.lookup t x y false,ty,pos,af,g⟩ f σ nx (eI .i64 ((BL l s).getD 0)):=
 AF λV X A hi=>by
  have K:=A.get (by simp [Op.operands]) N;have J:X y=.string ⟨s.toArray⟩:=AA.val (A.get (by simp [Op.operands]) M);generalize z:X x=v at K
  cases K with
  | mp R=>
   obtain⟨hn,ents,clock,I,T⟩:=hi.st.obj id _ Q;obtain⟨r,S,h⟩:=HB s l ents.toList 0 T;have a:=L.out;simp only [bR] at a;obtain⟨i,p,m⟩:=a
   have j:(zeroValue e).run P V.w=.ok (.int .i64 0) V.w:=by simp [zeroValue,typeInfo,p,m,go_sem]
   have b:(Instr.findKey k (.string ⟨s.toArray⟩) ents.toList).run P V.w=.ok r V.w:=by simp [Instr.findKey,run_underlying F.out,S,go_sem]
   have c:=G0 F.out ents.isEmpty ⟨s.toArray⟩ V.w;refine⟨.int .i64 ((BL l s).getD 0),?_,.d (.v rfl)⟩
   cases r with
   | none=>
    have u:BL l s=none:=by simpa using h.symm
    simp [execOp,z,J,Instr.lookup,run_underlying B.out,MapKept.run_getObj_map I,c,b,j,u,go_sem]
   | some q=>
    obtain⟨n,u,H⟩:∃n,BL l s=some n/\q.2=.int .i64 n:=by
     cases G:BL l s with
     | none=>rw [G] at h;simp at h
     | some n=>rw [G] at h;exact⟨n,rfl,by simpa using h⟩
    obtain⟨q1,U⟩:=q;simp only at H;subst H;simp [execOp,z,J,Instr.lookup,run_underlying B.out,MapKept.run_getObj_map I,c,b,u,go_sem]
end
end Go.Am
