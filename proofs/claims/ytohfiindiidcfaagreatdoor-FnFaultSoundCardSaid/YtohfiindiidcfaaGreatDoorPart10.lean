/-
  The steps of a walk, few and short: what an operation gives is reckoned.
-/
import Derived.Test.YtohfiindiidcfaaGreatDoorPart9
set_option linter.all false
namespace Go.Am
open Go
class Pf (P:Program) (t:TypeId):Prop where
 out:P.underlying t=some .bool
theorem oA{p:Prop}[Decidable p]:(decide p=true)=p:=decide_eq_true_eq
theorem oB{p:Prop}[Decidable p]:decide p=false↔¬p:=decide_eq_false_iff_not
theorem oC{α β:Type}{l:List α}{f:α->β}:(l.map f).length=l.length:=gt f
theorem oD{α:Type}{l m:List α}:(l++m).length=l.length+m.length:=j8
theorem oE{α:Type}{n:Nat}{x:α}:(List.replicate n x).length=n:=lX
theorem oF{α:Type}{x:α}{l:List α}:(x::l).length=l.length+1:=jK
theorem oG{α:Type}:([]:List α).length=0:=l4
theorem oZ:(∀(p:Prop) [Decidable p],(decide p=true)=p)/\(∀(p:Prop) [Decidable p],decide p=false↔¬p)/\(∀(α β:Type) (l:List α) (f:α->β),(l.map f).length=l.length)/\(∀(α:Type) (l m:List α),(l++m).length=l.length+m.length)/\(∀(α:Type) (n:Nat) (x:α),(List.replicate n x).length=n)/\(∀(α:Type) (x:α) (l:List α),(x::l).length=l.length+1)/\∀(α:Type),([]:List α).length=0:=
 ⟨λ_ _=>oA,λ_ _=>oB,λ_ _ _ _=>oC,λ_ _ _=>oD,λ_ _ _=>oE,λ_ _ _=>oF,λ_=>oG⟩
structure TI where
 ld:Option (Bool×Nat):=none
 ik:Option IntKind:=none
 st:Bool:=false
 sl:Option (Nat×Nat×Nat):=none
 ar:Option (Nat×Nat):=none
 fl:List (Option (Nat×Bool×Nat)):=[]
 pt:Bool:=false
 bo:Bool:=false
 ze:Option (List Value):=none
def Qm(P:Program)(t:Nat):Nat->List (Option (Nat×Bool×Nat))->Prop
 | _,[]=>True
 | k,none::r=>Qm P t (k+1) r
 | k,some x::r=>(VE P t k=some x.1/\VF P t k=some x)/\Qm P t (k+1) r
structure Eg (P:Program) (t:Nat) (i:TI):Prop where
 ld:i.ld=none\/cR P t=i.ld
 ik:i.ik=none\/P.underlying t=i.ik.map .int
 st:i.st=false\/P.underlying t=some .string
 sl:i.sl=none\/bN P t=i.sl
 ar:i.ar=none\/eb P t=i.ar
 fl:Qm P t 0 i.fl
 pt:i.pt=false\/∃e,P.underlying t=some (.pointer e)
 bo:i.bo=false\/P.underlying t=some .bool
 ze:i.ze=none\/WU P t=i.ze
def Uj(P:Program):List (Nat×TI)->Prop
 | []=>True
 | (t,i)::r=>Eg P t i/\Uj P r
def gT:Value->Value->Bool
 | .int k n,.int k' n'=>decide (k=k') && decide (n=n')
 | .bool a,.bool b=>decide (a=b)
 | .string ⟨⟨a⟩⟩,.string ⟨⟨b⟩⟩=>a.isEmpty && b.isEmpty
 | .slice none 0 0,.slice none 0 0=>true
 | .pointer none,.pointer none=>true
 | .map none,.map none=>true
 | .nilFunc,.nilFunc=>true
 | .nilIface,.nilIface=>true
 | _,_=>false
theorem dJ:∀ {a b:Value},gT a b=true->a=b:=by
 intro a b h;unfold gT at h;split at h<;>simp_all
def ga:List Value->List Value->Bool
 | [],[]=>true
 | a::l,b::m=>gT a b && ga l m
 | _,_=>false
theorem Zo:∀ {l m:List Value},ga l m=true->l=m
 | [],[],_=>rfl
 | a::l,b::m,h=>by
  unfold ga at h;rw [d4] at h;rw [dJ h.1,Zo h.2]
 | [],_::_,h=>by cases h
 | _::_,[],h=>by cases h
def ew(P:Program)(t:Nat):Nat->List (Option (Nat×Bool×Nat))->Bool
 | _,[]=>true
 | k,none::r=>ew P t (k+1) r
 | k,some x::r=>decide (VE P t k=some x.1) && decide (VF P t k=some x) && ew P t (k+1) r
theorem SU{P:Program}{t:Nat}:∀ {l:List (Option (Nat×Bool×Nat))} {k:Nat},ew P t k l=true->Qm P t k l
 | [],_,_=>trivial
 | none::r,k,h=>SU (l:=r) (k:=k+1) h
 | some x::r,k,h=>by
  unfold ew at h;simp only [d4,decide_eq_true_eq] at h;exact⟨h.1,SU h.2⟩
def ir(d:Option TypeDesc)(i:TI):Bool:=match d with
 | some (.int k)=>(match i.ik with|none=>true|some k'=>decide (k=k')) && !i.st && !i.pt && !i.bo
 | some .string=>i.ik.isNone && !i.pt && !i.bo
 | some (.pointer _)=>i.ik.isNone && !i.st && !i.bo
 | some .bool=>i.ik.isNone && !i.st && !i.pt
 | _=>i.ik.isNone && !i.st && !i.pt && !i.bo
def gL(P:Program)(t:Nat)(i:TI):Bool:=
 (i.ld.isNone || decide (cR P t=i.ld)) && (ir (P.underlying t) i && ((i.sl.isNone || decide (bN P t=i.sl)) && ((i.ar.isNone || decide (eb P t=i.ar)) && (ew P t 0 i.fl && match i.ze with
  | none=>true
  | some l=>match WU P t with
   | some l'=>ga l' l
   | none=>false))))
theorem or_none{α:Type}[DecidableEq α]{a b:Option α}(h:(b.isNone || decide (a=b))=true):b=none\/a=b:=by
 rw [jh] at h
 rcases h with h|h
 ·left;cases b<;>simp_all
 ·right;exact of_decide_eq_true h
theorem dF{P:Program}{t:Nat}{i:TI}(h:gL P t i=true):Eg P t i:=by
 unfold gL at h;simp only [d4] at h;obtain⟨o,f,n,m,j,b⟩:=h
 have a:(i.ik=none\/P.underlying t=i.ik.map .int)/\(i.st=false\/P.underlying t=some .string)/\(i.pt=false\/∃e,P.underlying t=some (.pointer e))/\(i.bo=false\/P.underlying t=some .bool):=by
  unfold ir at f;split at f
  ·rename_i k hk
   cases g:i.ik<;>simp_all
  all_goals simp_all
 refine⟨or_none o,a.1,a.2.1,or_none n,or_none m,SU j,a.2.2.1,a.2.2.2,?_⟩;split at b
 ·rename_i d;exact .inl d
 ·rename_i l d
  split at b
  ·rename_i l' c
   right;rw [c,d,Zo b]
  ·cases b
def bY(P:Program):List (Nat×TI)->Bool
 | []=>true
 | (t,i)::r=>gL P t i && bY P r
theorem Up{P:Program}:∀ {l:List (Nat×TI)},bY P l=true->Uj P l
 | [],_=>trivial
 | (t,i)::r,h=>by
  unfold bY at h;rw [d4] at h;exact⟨dF h.1,Up h.2⟩
class CB (P:Program) where
 T:List (Nat×TI)
 ok:Uj P T
def IF:List (Nat×TI)->Nat->TI
 | [],_=>{}
 | (k,x)::r,t=>bif Nat.beq k t then x else IF r t
def nth{α:Type}:List α->Nat->Option α
 | [],_=>none
 | x::_,0=>some x
 | _::r,n+1=>nth r n
theorem Mw{α:Type}:∀(l:List α) (i:Nat),nth l i=l[i]?
 | [],_=>by simp [nth]
 | o::_,0=>by simp [nth]
 | _::r,n+1=>by simp [nth,Mw r n]
theorem Dr{P:Program}(t:Nat):∀ {T:List (Nat×TI)},Uj P T->Eg P t (IF T t)
 | [],_=>⟨.inl rfl,.inl rfl,.inl rfl,.inl rfl,.inl rfl,trivial,.inl rfl,.inl rfl,.inl rfl⟩
 | (k,x)::r,h=>by
  unfold IF;cases hb:Nat.beq k t
  ·exact Dr t h.2
  ·have:=f9 hb
   subst this;exact h.1
section
variable {P:Program}{t:Nat}{i:TI}
theorem Eg.Lt(h:Eg P t i){ag:Bool}{n:Nat}(e:i.ld=some (ag,n)):EX P t ag n:=⟨by rcases h.ld with h|h<;>simp_all⟩
theorem Eg.XB(h:Eg P t i){k:IntKind}(e:i.ik=some k):Sv P t k:=⟨by rcases h.ik with h|h<;>simp_all⟩
theorem Eg.XD(h:Eg P t i)(e:i.st=true):EP P t:=⟨by rcases h.st with h|h<;>simp_all⟩
theorem Eg.QO(h:Eg P t i){e k b:Nat}(a:i.sl=some (e,k,b)):Cs P t e k b:=⟨by rcases h.sl with h|h<;>simp_all⟩
theorem Eg.eF(h:Eg P t i){n k:Nat}(a:i.ar=some (n,k)):OB P t n k:=⟨by rcases h.ar with h|h<;>simp_all⟩
theorem Eg.XC(h:Eg P t i)(e:i.pt=true):Sw P t:=⟨h.pt.resolve_left (by simp [e])⟩
theorem Eg.ZM(h:Eg P t i)(e:i.bo=true):Pf P t:=⟨by rcases h.bo with h|h<;>simp_all⟩
theorem Eg.XE(h:Eg P t i){z:List Value}(e:i.ze=some z):BJ P t z:=⟨by rcases h.ze with h|h<;>simp_all⟩
theorem Qm.get:∀ {l:List (Option (Nat×Bool×Nat))} {k j:Nat} {x:Nat×Bool×Nat},Qm P t k l->nth l j=some (some x)->VE P t (k+j)=some x.1/\VF P t (k+j)=some x
 | [],_,_,_,_,h=>by simp [nth] at h
 | none::r,k,0,x,_,h=>by simp [nth] at h
 | some y::r,k,0,x,a,h=>by simp [nth] at h;subst h;exact a.1
 | none::r,k,j+1,x,a,h=>by
  have:=Qm.get (l:=r) (k:=k+1) (j:=j) (x:=x) a h;rwa [show k+(j+1)=k+1+j by omega]
 | some y::r,k,j+1,x,a,h=>by
  have:=Qm.get (l:=r) (k:=k+1) (j:=j) (x:=x) a.2 h;rwa [show k+(j+1)=k+1+j by omega]
theorem Eg.cK(h:Eg P t i){j off n:Nat}{ag:Bool}(e:nth i.fl j=some (some (off,ag,n))):Pg P t j off:=⟨by have:=(h.fl.get e).1;rwa [jd] at this⟩
theorem Eg.ZN(h:Eg P t i){j off n:Nat}{ag:Bool}(e:nth i.fl j=some (some (off,ag,n))):Mh P t j off ag n:=⟨by have:=(h.fl.get e).2;rwa [jd] at this⟩
end
def Fk(P:Program)(TB:BA)(Z:Ctx)(ops:Array Oper)(o:Oper)(fl:Fl)(i n:Nat)(K:Env->Ab->Nat->Prop)(L:List (Nat×E))(σ:Ab)(nx:Nat):Prop:=
 Bo ops o (look L)=some true->Br P TB Z ops o fl i n K L σ nx
def xE:Bool×List C->Option E
 | (false,[c])=>some (.o c)
 | (true,cs)=>some (.a cs)
 | _=>none
def gn(f:Env):Op->Option E
 | .move x=>ev f x
 | .pick c x y=>match ev f c with
  | some (.o (.d (.v (.bool true))))=>ev f x
  | some (.o (.d (.v (.bool false))))=>ev f y
  | _=>none
 | .extract x k=>match ev f x with
  | some (.t xs)=>(xs[k]?).bind xE
  | _=>none
 | .nilCheck x=>match ev f x with
  | some (.o (.d (.p cs)))=>some (.o (.ip cs))
  | some (.o (.ptr id k i j))=>some (.o (.ptr id k i j))
  | some (.o (.fn gg cs))=>some (.o (.fn gg cs))
  | _=>none
 | _=>none
def dQ:IntKind->IntKind->Bool
 | .i64,.i64|.u8,.u8|.u64,.u64|.i32,.i32|.u16,.u16|.u32,.u32=>true
 | _,_=>false
theorem Ng{a b:IntKind}(h:dQ a b=true):a=b:=by cases a<;>cases b<;>first|rfl|cases h
def eo(o:BinOp)(m n:Int):Option Bool:=match o with
 | .lss=>some (decide (m < n))
 | .leq=>some (decide (m<=n))
 | .gtr=>some (decide (m > n))
 | .geq=>some (decide (m>=n))
 | .eql=>some (decide (m=n))
 | .neq=>some (decide (m≠n))
 | _=>none
def en(o:BinOp)(a b:List UInt8):Option Bool:=match o with
 | .eql=>some (decide (a=b))
 | .neq=>some (decide (a≠b))
 | _=>none
def cr(o:BinOp):E->E->Option Bool
 | .o (.d (.v (.int k m))),.o (.d (.v (.int k' n)))=>match dQ k k' with
  | true=>eo o m n
  | false=>none
 | .o (.d (.v (.string ⟨⟨a⟩⟩))),.o (.d (.v (.string ⟨⟨b⟩⟩)))=>en o a b
 | _,_=>none
def Wx:IntKind->Int->Option Prop
 | .i64,m=>some (-9223372036854775808<=m/\m<=9223372036854775807)
 | .u64,m=>some (0<=m/\m<=18446744073709551615)
 | .u8,m=>some (0<=m/\m<=255)
 | .i32,m=>some (-2147483648<=m/\m<=2147483647)
 | _,_=>none
def ib(o:BinOp)(k:IntKind)(m n:Int):Option (Prop×E):=match o with
 | .add=>(Wx k (m+n)).map λq=>(q,eI k (m+n))
 | .sub=>(Wx k (m - n)).map λq=>(q,eI k (m - n))
 | .mul=>(Wx k (m*n)).map λq=>(q,eI k (m*n))
 | .rem=>some (0<=m/\0 < n,eI k (m % n))
 | .and=>some (True,eI k (ES k m n))
 | .or=>some (True,eI k (FU k m n))
 | _=>none
def gj(o:BinOp):E->E->Option (Prop×E)
 | .o (.d (.v (.int k m))),.o (.d (.v (.int k' n)))=>match o with
  | .shr=>some (0<=n,eI k (m.fdiv (2 ^ (min n.toNat k.bits))))
  | .quo=>match dQ k .i64,dQ k' .i64 with
   | true,true=>some ((0<=m/\m<=9223372036854775807)/\0 < n,eI .i64 (m / n))
   | _,_=>none
  | o=>match dQ k k' with
   | true=>ib o k m n
   | false=>none
 | .o (.d (.v (.string ⟨⟨a⟩⟩))),.o (.d (.v (.string ⟨⟨b⟩⟩)))=>match o with
  | .add=>some (a.length+b.length<=9223372036854775807,eT (a++b))
  | _=>none
 | _,_=>none
def cI(off:Nat):E->Option E
 | .o (.d (.p cs))=>some (.o (.ip (cs.drop off)))
 | .o (.ptr id k i j)=>some (.o (.ptr id k i (j+off)))
 | _=>none
def gr(ag:Bool)(n:Nat):E->Option E
 | .o (.d (.p cs))=>match ag,cs with
  | false,c::_=>some (.o (.d c))
  | true,cs=>match Nat.ble n cs.length with
   | true=>some (.a ((cs.take n).map .d))
   | false=>none
  | _,_=>none
 | _=>none
def eL(ag:Bool)(n j:Nat)(r:List C):Option E:=match ag with
 | false=>(r[j]?).map .o
 | true=>match Nat.ble (j+n) r.length with
  | true=>some (.a ((r.drop j).take n))
  | false=>none
def gp(ag:Bool)(off n:Nat)(cs:List C):Option E:=match ag with
 | false=>(cs[off]?).map .o
 | true=>match Nat.ble (off+n) cs.length with
  | true=>some (.a ((cs.drop off).take n))
  | false=>none
def gq(k:Nat)(n:Int):E->Option E
 | .o (.d (.p cs))=>some (.o (.ip (cs.drop (n.toNat*k))))
 | .o (.ptr id k' i j)=>some (.o (.ptr id k' i (j+n.toNat*k)))
 | _=>none
def gu(k:Nat):E->Option E
 | .o (.d (.l rows))=>some (eI .i64 rows.length)
 | .o (.arr _ k' _ len)=>match Nat.beq k' k with
  | true=>some (eI .i64 len)
  | false=>none
 | _=>none
def tr:Option E->Option (Prop×E)
 | some e=>some (True,e)
 | none=>none
def c6:Bool->E->E->Option (Prop×E)
 | true,.o (.d (.p _)),.o (.d (.v (.pointer none)))=>some (True,eB false)
 | true,.o (.d (.v (.pointer none))),.o (.d (.v (.pointer none)))=>some (True,eB true)
 | _,_,_=>none
def ef(pt:Bool)(o:BinOp)(a b:E):Option (Prop×E):=match o with
 | .eql=>c6 pt a b
 | o=>gj o a b
def cO(i:TI):E->E->Option (Prop×E)
 | .o (.arr id k off len),.o (.d (.v (.int _ m)))=>match i.sl with
  | some (_,k',_)=>match Nat.beq k k' with
   | true=>some (0<=m/\m < len,.o (.ptr id k (off+m.toNat) 0))
   | false=>none
  | none=>none
 | a, .o (.d (.v (.int _ m)))=>match i.ar with
  | some (len,k)=>match gq k m a with
   | some e=>some (0<=m/\m < len,e)
   | none=>none
  | none=>none
 | _,_=>none
def cT(i:TI):E->Option E
 | .o (.d (.v (.string ⟨⟨s⟩⟩)))=>match i.st with
  | true=>some (eI .i64 s.length)
  | false=>none
 | e=>match i.sl with
  | some (_,k,_)=>gu k e
  | none=>none
def cu(k k':IntKind):E->Option (Prop×E)
 | .o (.d (.v (.int a m)))=>match dQ a k,Wx k' m with
  | true,some q=>some (q,eI k' m)
  | _,_=>none
 | _=>none
def YK(T:List (Nat×TI))(md:Bool)(f:Env):Op->Option (Prop×E)
 | .assign x=>match md,notNil x with
  | true,false=>none
  | _,_=>tr (ev f x)
 | .binOp o t x y _=>match ev f x,ev f y with
  | some a,some b=>ef (IF T t).pt o a b
  | _,_=>none
 | .fieldAddr s x k=>match nth (IF T s).fl k,ev f x with
  | some (some (off,_,_)),some a=>tr (cI off a)
  | _,_=>none
 | .field t x k=>match nth (IF T t).fl k,ev f x with
  | some (some (off,ag,n)),some (.a cs)=>tr (gp ag off n cs)
  | _,_=>none
 | .load t x=>match (IF T t).ld,ev f x with
  | some (ag,n),some a=>tr (gr ag n a)
  | _,_=>none
 | .indexAddr t x y=>match ev f x,ev f y with
  | some a,some b=>cO (IF T t) a b
  | _,_=>none
 | .call ⟨.builtin .len,⟨[x]⟩,⟨[t]⟩⟩=>match ev f x with
  | some a=>tr (cT (IF T t) a)
  | none=>none
 | .convert s t x=>match (IF T s).ik,(IF T t).ik,ev f x with
  | some k,some k',some a=>cu k k' a
  | _,_,_=>none
 | .makeFunc (.func gg) ⟨[]⟩ caps=>match Jl f caps.toList with
  | some es=>match Zj es with
   | some cs=>some (True,.o (.fn gg cs))
   | none=>none
  | none=>none
 | op=>tr (gn f op)
def ic:BinOp->E->E->Option Bool
 | .eql,.o (.d (.v (.bool a))),.o (.d (.v (.bool b)))=>some (a == b)
 | .neq,.o (.d (.v (.bool a))),.o (.d (.v (.bool b)))=>some (a != b)
 | _,_,_=>none
def RG(T:List (Nat×TI))(f:Env):Op->Option Bool
 | .binOp o t x y _=>match ev f x,ev f y with
  | some a,some b=>match (IF T t).bo with
   | true=>ic o a b
   | false=>cr o a b
  | _,_=>none
 | .unOp .not _ x=>match ev f x with
  | some (.o (.d (.v (.bool b))))=>some (!b)
  | _=>none
 | _=>none
def LI(T:List (Nat×TI))(σ:Ab)(f:Env):Op->Option E
 | .load t x=>match (IF T t).ld,ev f x with
  | some (ag,n),some (.o (.ptr id k i j))=>match look σ id with
   | some (.cells _ k' rows)=>match Nat.beq k k',nth rows i with
    | true,some r=>eL ag n j r
    | _,_=>none
   | _=>none
  | _,_=>none
 | _=>none
def OX(T:List (Nat×TI))(σ:Ab)(f:Env)(t:Nat)(x y:Operand):Option Ab:=
 match (IF T t).ld,ev f x,ev f y with
 | some (_,n),some (.o (.ptr id k i j)),some e=>match look σ id with
  | some (.cells ct k' rows)=>match Nat.beq k k',nth rows i with
   | true,some r=>match QD e,Nat.beq (eC e).length n,Nat.ble (j+n) k with
    | true,true,true=>some ((id,.cells ct k (rows.set i (Ag r j (eC e))))::σ)
    | _,_,_=>none
   | _,_=>none
  | _=>none
 | _,_,_=>none
section
variable {P:Program}{TB:BA}{Z:Ctx}{d:Option Tmp}{ty:TypeId}{pos:String}{af:Array Edge}{g:Option (Nat×Bool)}{f:Env}{σ:Ab}{nx:Nat}
theorem U9{t:TypeId}{a b:Bool}(c:P.underlying t=some .bool)(w:World):(Op.equal t (.bool a) (.bool b)).run P w=.ok (a == b) w:=by
 unfold Op.equal Op.maxDepth;rw [show 10000=9999+1 from rfl,Op.equalIn];simp [run_underlying c,go_sem]
theorem ff{t yt:TypeId}{x y:Operand}{a b:Bool}[h:Pf P t](e:ev f x=some (eB a))(c:ev f y=some (eB b)):A8 P TB Z ⟨d,.binOp .eql t x y yt,ty,pos,af,g⟩ f σ nx (eB (a == b)):=
 BD e c rfl λw=>by
  have j:binOp .eql t (.bool a) (.bool b)=(do pure (.bool (<-Op.equal t (.bool a) (.bool b)))):=rfl;have i:eqGuard .eql t x y (.bool a) (.bool b)=pure ():=rfl;rw [j,i];simp [U9 h.out w,go_sem]
theorem fq{t yt:TypeId}{x y:Operand}{a b:Bool}[h:Pf P t](e:ev f x=some (eB a))(c:ev f y=some (eB b)):A8 P TB Z ⟨d,.binOp .neq t x y yt,ty,pos,af,g⟩ f σ nx (eB (a != b)):=
 BD e c rfl λw=>by
  have j:binOp .neq t (.bool a) (.bool b)=(do pure (.bool (!(<-Op.equal t (.bool a) (.bool b))))):=rfl;have i:eqGuard .neq t x y (.bool a) (.bool b)=pure ():=rfl;rw [j,i];simp [U9 h.out w,go_sem,bne]
theorem iO{op:Op}{e:E}(h:gn f op=some e):A8 P TB Z ⟨d,op,ty,pos,af,g⟩ f σ nx e:=by
 unfold gn at h;split at h
 ·exact dn h
 ·split at h
  ·rename_i a;exact aI a h
  ·rename_i a;exact aH a h
  ·cases h
 ·split at h
  ·rename_i a
   refine Wk a ?_;rw [<-h];congr 1
  ·cases h
 ·split at h
  ·rename_i a;injection h with h;subst h;exact aF a
  ·rename_i a;injection h with h;subst h;exact dp a
  ·rename_i a;injection h with h;subst h;exact aD a
  ·cases h
 ·cases h
theorem fe{o:BinOp}{t yt:TypeId}{x y:Operand}{ex ey:E}{c:Bool}(e:ev f x=some ex)(b:ev f y=some ey)(a:cr o ex ey=some c) :
 A8 P TB Z ⟨d,.binOp o t x y yt,ty,pos,af,g⟩ f σ nx (eB c):=by
 unfold cr at a;split at a
 ·split at a
  ·rename_i hk
   have hk:=Ng hk;subst hk;unfold eo at a
   split at a<;>first|(injection a with a;subst a)|cases a
   ·exact fp e b
   ·exact fo e b
   ·exact fk e b
   ·exact fj e b
   ·exact fh e b
   ·exact fv e b
  ·cases a
 ·unfold en at a
  split at a<;>first|(injection a with a;subst a)|cases a
  ·exact fg e b
  ·exact ft e b
 ·cases a
theorem P0{k:IntKind}{m:Int}{q:Prop}(h:Wx k m=some q)(a:q):k.wrap m=m:=by
 unfold Wx at h
 split at h<;>first|(injection h with h;subst h)|cases h
 ·exact IntWalk.i64_in _ a
 ·exact IntWalk.u64_in _ a
 ·exact IntWalk.u8_in _ a
 ·exact IntWalk.i32_in _ a
theorem gC{o:BinOp}{t yt:TypeId}{x y:Operand}{ex ey e:E}{q:Prop}(j:ev f x=some ex)(i:ev f y=some ey)(a:gj o ex ey=some (q,e))(h:q) :
 A8 P TB Z ⟨d,.binOp o t x y yt,ty,pos,af,g⟩ f σ nx e:=by
 unfold gj at a;split at a
 ·split at a
  ·injection a with a;injection a with c b;subst c;subst b;exact fz j i h rfl
  ·split at a
   ·rename_i hk k
    have hk:=Ng hk;have k:=Ng k;subst hk;subst k
    injection a with a;injection a with c b;subst c;subst b;exact dq j i h.1.1 h.1.2 h.2
   ·cases a
  ·split at a
   ·rename_i hk
    have hk:=Ng hk;subst hk;unfold ib at a;split at a
    ·obtain⟨q',l,m⟩:=d7.1 a
     injection m with c b;subst c;subst b;exact fb j i (P0 l h)
    ·obtain⟨q',l,m⟩:=d7.1 a
     injection m with c b;subst c;subst b;exact fB j i (P0 l h)
    ·obtain⟨q',l,m⟩:=d7.1 a
     injection m with c b;subst c;subst b;exact bM j i (P0 l h)
    ·injection a with a;injection a with c b;subst c;subst b;exact dr j i h.1 h.2
    ·injection a with a;injection a with c b;subst b;exact bL j i rfl
    ·injection a with a;injection a with c b;subst b;exact gJ j i rfl
    ·cases a
   ·cases a
 ·split at a
  ·injection a with a;injection a with c b;subst c;subst b;exact fc j i h
  ·cases a
 ·cases a
theorem fi{s k off:Nat}{x:Operand}{ex e:E}[b:Pg P s k off](a:ev f x=some ex)(h:cI off ex=some e):A8 P TB Z ⟨d,.fieldAddr s x k,ty,pos,af,g⟩ f σ nx e:=by
 unfold cI at h
 split at h<;>first|(injection h with h;subst h)|cases h
 ·exact Wq a
 ·exact Yy a
theorem gH{t:TypeId}{x:Operand}{ex e:E}{ag:Bool}{n:Nat}[b:EX P t ag n](a:ev f x=some ex)(h:gr ag n ex=some e):A8 P TB Z ⟨d,.load t x,ty,pos,af,g⟩ f σ nx e:=by
 unfold gr at h;split at h
 ·split at h
  ·injection h with h;subst h;exact RD a
  ·split at h
   ·rename_i hb;injection h with h;subst h;exact Wt a (ce hb)
   ·cases h
  ·cases h
 ·cases h
theorem YF{t:TypeId}{x:Operand}{id k i j:Nat}{T:TypeId}{rows:List (List C)}{r:List C}{e:E}{ag:Bool}{n:Nat}[q:EX P t ag n](a:ev f x=some (.o (.ptr id k i j)))(l:look σ id=some (.cells T k rows))(b:rows[i]? = some r)
 (h:eL ag n j r=some e):A8 P TB Z ⟨d,.load t x,ty,pos,af,g⟩ f σ nx e:=by
 unfold eL at h;split at h
 ·obtain⟨c,p,m⟩:=d7.1 h
  subst m;exact PX a l b p
 ·split at h
  ·rename_i hb;injection h with h;subst h;exact YH a l b (ce hb)
  ·cases h
theorem gE{t:TypeId}{x:Operand}{k off n:Nat}{ag:Bool}{cs:List C}{e:E}[l:Mh P t k off ag n](b:ev f x=some (.a cs))(h:gp ag off n cs=some e):A8 P TB Z ⟨d,.field t x k,ty,pos,af,g⟩ f σ nx e:=by
 unfold gp at h;split at h
 ·obtain⟨c,j,i⟩:=d7.1 h
  subst i;exact aA b j
 ·split at h
  ·rename_i hb;injection h with h;subst h;exact Yx b (ce hb)
  ·cases h
theorem gF{t:TypeId}{x y:Operand}{ex e:E}{n:Int}{len k:Nat}{ik:IntKind}[i:OB P t len k](c:ev f x=some ex)(b:ev f y=some (eI ik n))(h:gq k n ex=some e)(a:0<=n/\n < len) :
 A8 P TB Z ⟨d,.indexAddr t x y,ty,pos,af,g⟩ f σ nx e:=by
 unfold gq at h
 split at h<;>first|(injection h with h;subst h)|cases h
 ·exact Ws c b a.1 a.2
 ·exact YC c b a.1 a.2
theorem fm{t e:TypeId}{x:Operand}{ex r:E}{k b:Nat}[c:Cs P t e k b](a:ev f x=some ex)(h:gu k ex=some r):A8 P TB Z ⟨d,.call ⟨.builtin .len,#[x],#[t]⟩,ty,pos,af,g⟩ f σ nx r:=by
 unfold gu at h;split at h
 ·injection h with h;subst h;exact YG a
 ·split at h
  ·injection h with h;subst h;exact dh a
  ·cases h
 ·cases h
theorem Le{x:Option E}{q:Prop}{e:E}(h:tr x=some (q,e)):x=some e:=by
 cases x with
 | none=>cases h
 | some y=>injection h with h;injection h with _ h;rw [h]
theorem cU{i:TI}{t:TypeId}{x:Operand}{a e:E}(hi:Eg P t i)(c:ev f x=some a)(h:cT i a=some e):A8 P TB Z ⟨d,.call ⟨.builtin .len,#[x],#[t]⟩,ty,pos,af,g⟩ f σ nx e:=by
 unfold cT at h;split at h
 ·split at h
  ·rename_i b
   injection h with h;subst h
   haveI:=hi.XD b;exact dm c
  ·cases h
 ·split at h
  ·rename_i b
   haveI:=hi.QO b;exact fm c h
  ·cases h
theorem cQ{i:TI}{t:TypeId}{x y:Operand}{a b e:E}{q:Prop}(hi:Eg P t i)(n:ev f x=some a)(m:ev f y=some b)(h:cO i a b=some (q,e))(j:q):A8 P TB Z ⟨d,.indexAddr t x y,ty,pos,af,g⟩ f σ nx e:=by
 unfold cO at h;split at h
 ·split at h
  ·rename_i c
   split at h
   ·rename_i hk
    injection h with h;injection h with l k;subst l;subst k
    have:=f9 hk;subst this;haveI:=hi.QO c;exact Yz n m j.1 j.2
   ·cases h
  ·cases h
 ·split at h
  ·rename_i c
   split at h
   ·rename_i o
    injection h with h;injection h with l k;subst l;subst k
    haveI:=hi.eF c;exact gF n m o j
   ·cases h
  ·cases h
 ·cases h
theorem c7{i:TI}{t yt:TypeId}{x y:Operand}{a b e:E}{q:Prop}(hi:Eg P t i)(l:ev f x=some a)(k:ev f y=some b)(h:c6 i.pt a b=some (q,e)):A8 P TB Z ⟨d,.binOp .eql t x y yt,ty,pos,af,g⟩ f σ nx e:=by
 unfold c6 at h;split at h
 ·rename_i c
  injection h with h;injection h with m j;subst j
  haveI:=hi.XC c;exact Wi l k
 ·rename_i c
  injection h with h;injection h with m j;subst j
  haveI:=hi.XC c;exact TJ l k
 ·cases h
theorem cx{i i':TI}{s t:TypeId}{k k':IntKind}{x:Operand}{a e:E}{q:Prop}(hi:Eg P s i)(c:Eg P t i')(hk:i.ik=some k)(b:i'.ik=some k')(l:ev f x=some a)(h:cu k k' a=some (q,e))(n:q):A8 P TB Z ⟨d,.convert s t x,ty,pos,af,g⟩ f σ nx e:=by
 unfold cu at h;split at h
 ·split at h
  ·rename_i j m
   injection h with h;injection h with p o;subst p;subst o
   have j:=Ng j;subst j;haveI:=hi.XB hk;haveI:=c.XB b;exact dg l (P0 m n)
  ·cases h
 ·cases h
theorem UY[n:CB P]{md:Bool}{op:Op}{q:Prop}{e:E}(h:YK n.T md f op=some (q,e))(i:q):A8 P TB Z ⟨d,op,ty,pos,af,g⟩ f σ nx e:=by
 have a:=λt=>Dr (P:=P) t n.ok;unfold YK at h;split at h
 ·split at h
  ·cases h
  ·exact C9 (Le h)
 ·rename_i o t x y yt
  split at h
  ·rename_i b c
   unfold ef at h;split at h
   ·exact c7 (a t) b c h
   ·exact gC b c h i
  ·cases h
 ·rename_i s x k
  split at h
  ·rename_i j b
   haveI:=(a s).cK j;exact fi b (Le h)
  ·cases h
 ·rename_i t x k
  split at h
  ·rename_i j b
   haveI:=(a t).ZN j;exact gE b (Le h)
  ·cases h
 ·rename_i t x
  split at h
  ·rename_i p b
   haveI:=(a t).Lt p;exact gH b (Le h)
  ·cases h
 ·rename_i t x y
  split at h
  ·rename_i b c
   exact cQ (a t) b c h i
  ·cases h
 ·rename_i x t
  split at h
  ·rename_i b
   exact cU (a t) b (Le h)
  ·cases h
 ·rename_i s t x
  split at h
  ·rename_i m l b
   exact cx (a s) (a t) m l b h i
  ·cases h
 ·split at h
  ·rename_i m
   split at h
   ·rename_i l
    injection h with h;injection h with _ h;subst h
    exact gD m l
   ·cases h
  ·cases h
 ·exact iO (Le h)
theorem RH[i:CB P]{op:Op}{c:Bool}(h:RG i.T f op=some c):A8 P TB Z ⟨d,op,ty,pos,af,g⟩ f σ nx (eB c):=by
 have e:=λt=>Dr (P:=P) t i.ok;unfold RG at h;split at h
 ·rename_i o t x y yt
  split at h
  ·rename_i a b
   split at h
   ·rename_i hb
    haveI:=(e t).ZM hb;unfold ic at h;split at h
    ·injection h with h;subst h;exact ff a b
    ·injection h with h;subst h;exact fq a b
    ·cases h
   ·exact fe a b h
  ·cases h
 ·split at h
  ·rename_i a
   injection h with h;subst h
   exact fw a
  ·cases h
 ·cases h
theorem NH[c:CB P]{op:Op}{e:E}(h:LI c.T σ f op=some e):A8 P TB Z ⟨d,op,ty,pos,af,g⟩ f σ nx e:=by
 have a:=λt=>Dr (P:=P) t c.ok;unfold LI at h;split at h
 ·rename_i t x
  split at h
  ·rename_i k i
   split at h
   ·rename_i j
    split at h
    ·rename_i hk b
     have hk:=f9 hk;subst hk;haveI:=(a t).Lt k;rw [Mw] at b;exact YF i j b h
    ·cases h
   ·cases h
  ·cases h
 ·cases h
theorem NI[c:CB P]{t:TypeId}{x y:Operand}{σ':Ab}{K:E->Ab->Nat->Prop}(h:OX c.T σ f t x y=some σ')(l:K (.t []) σ' nx):Cq P TB Z ⟨d,.store t x y,ty,pos,af,g⟩ f σ nx K:=by
 have a:=λt=>Dr (P:=P) t c.ok;unfold OX at h;split at h
 ·rename_i k i e
  split at h
  ·rename_i j
   split at h
   ·rename_i hk b
    split at h
    ·rename_i o n m
     have hk:=f9 hk;subst hk;haveI:=(a t).Lt k;rw [Mw] at b
     injection h with h
     subst h;exact Gg i e o j b (f9 n) (ce m) l
    ·cases h
   ·cases h
  ·cases h
 ·cases h
end
section
variable {P:Program}{TB:BA}{Z:Ctx}{ops:Array Oper}{fl:Fl}{i n:Nat}{L:List (Nat×E)}{σ:Ab}{nx:Nat}{K:Env->Ab->Nat->Prop}{d:Tmp}{ty:TypeId}{pos:String}{af:Array Edge}{g:Option (Nat×Bool)}{op:Op}
theorem gA{d:Option Tmp}(a:Bo ops ⟨d,op,ty,pos,af,g⟩ (look L)=some true)(h:Fk P TB Z ops ⟨d,op,ty,pos,af,g⟩ fl i n K L σ nx):Br P TB Z ops ⟨d,op,ty,pos,af,g⟩ fl i n K L σ nx:=h a
theorem gS{x:E}(a:∀σ nx,A8 P TB Z ⟨some d,op,ty,pos,af,g⟩ (look L) σ nx x)(h:Lex P TB Z ops (Ak fl (i+1) n) K (look ((d,x)::L)) σ nx):Fk P TB Z ops ⟨some d,op,ty,pos,af,g⟩ fl i n K L σ nx:=λb=>C8 a b h
theorem gQ{x:E}(a:A8 P TB Z ⟨some d,op,ty,pos,af,g⟩ (look L) σ nx x)(c:Pn (fl i)=true)(h:Lex P TB Z ops (Ak fl (i+1) n) K (look ((d,x)::L)) σ nx):Fk P TB Z ops ⟨some d,op,ty,pos,af,g⟩ fl i n K L σ nx:=λb=>ax a b c h
theorem gB{c:Bool}(a:∀σ nx,A8 P TB Z ⟨some d,op,ty,pos,af,g⟩ (look L) σ nx (eB c))(h:∀b,c=b->Lex P TB Z ops (Ak fl (i+1) n) K (look ((d,eB b)::L)) σ nx):Fk P TB Z ops ⟨some d,op,ty,pos,af,g⟩ fl i n K L σ nx:=λe=>VY a e h
theorem ig{c:Bool}(a:A8 P TB Z ⟨some d,op,ty,pos,af,g⟩ (look L) σ nx (eB c))(f:Pn (fl i)=true)(h:∀b,c=b->Lex P TB Z ops (Ak fl (i+1) n) K (look ((d,eB b)::L)) σ nx):Fk P TB Z ops ⟨some d,op,ty,pos,af,g⟩ fl i n K L σ nx:=λe=>ax a e f (h c rfl)
theorem gW(h:Cq P TB Z ⟨some d,op,ty,pos,af,g⟩ (look L) σ nx (λx σ' nx'=>Lex P TB Z ops (Ak fl (i+1) n) K (look ((d,x)::L)) σ' nx'))(b:fl i=1):Fk P TB Z ops ⟨some d,op,ty,pos,af,g⟩ fl i n K L σ nx:=λa=>Mf h a b
theorem ij(h:Cq P TB Z ⟨none,op,ty,pos,af,g⟩ (look L) σ nx (λ_ σ' nx'=>Lex P TB Z ops (Ak fl (i+1) n) K (look L) σ' nx'))(b:fl i=1):Fk P TB Z ops ⟨none,op,ty,pos,af,g⟩ fl i n K L σ nx:=λa=>NB h a b
theorem yQ{md:Bool}[b:CB P]{q:Prop}{x:E}(h:YK b.T md (look L) op=some (q,x))(a:q)(hk:Lex P TB Z ops (Ak fl (i+1) n) K (look ((d,x)::L)) σ nx):Fk P TB Z ops ⟨some d,op,ty,pos,af,g⟩ fl i n K L σ nx:=gS (λ_ _=>UY h a) hk
theorem yB[a:CB P]{c:Bool}(h:RG a.T (look L) op=some c)(hk:∀b,c=b->Lex P TB Z ops (Ak fl (i+1) n) K (look ((d,eB b)::L)) σ nx):Fk P TB Z ops ⟨some d,op,ty,pos,af,g⟩ fl i n K L σ nx:=gB (λ_ _=>RH h) hk
theorem yS[b:CB P]{x:E}(h:LI b.T σ (look L) op=some x)(a:Pn (fl i)=true)(hk:Lex P TB Z ops (Ak fl (i+1) n) K (look ((d,x)::L)) σ nx):Fk P TB Z ops ⟨some d,op,ty,pos,af,g⟩ fl i n K L σ nx:=gQ (NH h) a hk
theorem yW[b:CB P]{t:TypeId}{x y:Operand}{σ':Ab}(h:OX b.T σ (look L) t x y=some σ')(a:fl i=1)(hk:Lex P TB Z ops (Ak fl (i+1) n) K (look L) σ' nx):Fk P TB Z ops ⟨none,.store t x y,ty,pos,af,g⟩ fl i n K L σ nx:=ij (NI h hk) a
theorem yO[b:CB P]{T:TypeId}{z:List Value}(h:(IF b.T T).ze=some z)(a:z.all Od=true)(c:fl i=1)(e:Lex P TB Z ops (Ak fl (i+1) n) K (look ((d,.o (.ptr nx z.length 0 0))::L)) ((nx,.cells T z.length [z.map zC])::σ) (nx+1)):Fk P TB Z ops ⟨some d,.alloc T,ty,pos,af,g⟩ fl i n K L σ nx:=
 haveI:=(Dr (P:=P) T b.ok).XE h
 gW (ae a e) c
theorem yM[a:CB P]{t:TypeId}{x:Operand}{id k i' j:Nat}{T:TypeId}{rows:List (List C)}{r:List C}{e:E}{ag:Bool}{m:Nat}(b:ev (look L) x=some (.o (.ptr id k i' j)))(f:look σ id=some (.cells T k rows))(c:rows[i']? = some r)(l:(IF a.T t).ld=some (ag,m))
 (h:eL ag m j r=some e) (p:Pn (fl i)=true) (hk:Lex P TB Z ops (Ak fl (i+1) n) K (look ((d,e)::L)) σ nx):Fk P TB Z ops ⟨some d,.load t x,ty,pos,af,g⟩ fl i n K L σ nx:=
 haveI:=(Dr (P:=P) t a.ok).Lt l
 gQ (YF b f c h) p hk
theorem yV[b:CB P]{t:TypeId}{x y:Operand}{id k i' j m:Nat}{T:TypeId}{rows:List (List C)}{r:List C}{e:E}{ag:Bool}(d:ev (look L) x=some (.o (.ptr id k i' j)))(c:ev (look L) y=some e)(h:QD e=true)(a:look σ id=some (.cells T k rows))(f:rows[i']? = some r)
 (p:(IF b.T t).ld=some (ag,m)) (l:(eC e).length=m) (q:Nat.ble (j+m) k=true) (s:fl i=1) (hk:Lex P TB Z ops (Ak fl (i+1) n) K (look L) ((id,.cells T k (rows.set i' (Ag r j (eC e))))::σ) nx):Fk P TB Z ops ⟨none,.store t x y,ty,pos,af,g⟩ fl i n K L σ nx:=
 haveI:=(Dr (P:=P) t b.ok).Lt p
 ij (Gg d c h a f l (ce q) hk) s
theorem iS[a:CB P]{α:Type}{t e:TypeId}{x:Operand}{l:List α}{h:α->List D}{k b:Nat}(c:ev (look L) x=some (.o (.d (.l (l.map h)))))(f:(IF a.T t).sl=some (e,k,b))(hk:Lex P TB Z ops (Ak fl (i+1) n) K (look ((d,eI .i64 l.length)::L)) σ nx):Fk P TB Z ops ⟨some d,.call ⟨.builtin .len,#[x],#[t]⟩,ty,pos,af,g⟩ fl i n K L σ nx:=
 haveI:=(Dr (P:=P) t a.ok).QO f
 gS (λ_ _=>dj c) hk
theorem yL[a:CB P]{t e:TypeId}{x y:Operand}{rows:List (List D)}{row:List D}{m:Int}{k b:Nat}{ik:IntKind}(f:ev (look L) x=some (.o (.d (.l rows))))(c:ev (look L) y=some (eI ik m))(h:rows[m.toNat]? = some row)(p:(IF a.T t).sl=some (e,k,b))(j:row.length=k)(q:0<=m)
 (hk:Lex P TB Z ops (Ak fl (i+1) n) K (look ((d,.o (.ip row))::L)) σ nx):Fk P TB Z ops ⟨some d,.indexAddr t x y,ty,pos,af,g⟩ fl i n K L σ nx:=
 haveI:=(Dr (P:=P) t a.ok).QO p
 gS (λ_ _=>YB f c q h j) hk
theorem yT[a:CB P]{t:TypeId}{x y:Operand}{s:List UInt8}{m:Int}{c:UInt8}{ik:IntKind}(e:ev (look L) x=some (eT s))(b:ev (look L) y=some (eI ik m))(h:s[m.toNat]? = some c)(f:(IF a.T t).st=true)(j:0<=m)
 (hk:Lex P TB Z ops (Ak fl (i+1) n) K (look ((d,eI .u8 (c.toNat:Int))::L)) σ nx):Fk P TB Z ops ⟨some d,.index t x y,ty,pos,af,g⟩ fl i n K L σ nx:=
 haveI:=(Dr (P:=P) t a.ok).XD f
 gS (λ_ _=>YE e b j h) hk
def gK(k m:Nat)(z:List Value)(es:List E):Option (List (List D)):=match es.all QD,N0 es with
 | true,some rows=>match rows.all λr=>Nat.beq r.length k,Nat.beq z.length k,z.all Od,Nat.ble 1 k,Nat.ble (m*k) 16777216 with
  | true,true,true,true,true=>some rows
  | _,_,_,_,_=>none
 | _,_=>none
theorem yZ[c:CB P]{t e:TypeId}{k b m:Nat}{z:List Value}{parts:Array (Nat×Operand)}{es:List E}{rows:List (List D)}(r:(IF c.T t).sl=some (e,k,b))(j:(IF c.T e).ze=some z)(p:CX 0 (parts.toList.map (·.2))=parts.toList)(q:parts.toList.length=m)
 (f:Jl (look L) (parts.toList.map (·.2))=some es) (a:gK k m z es=some rows)
 (h:Lex P TB Z ops (Ak fl (i+1) n) K (look ((d,.o (.d (.l rows)))::L)) σ nx):Fk P TB Z ops ⟨some d,.buildSlice t m parts,ty,pos,af,g⟩ fl i n K L σ nx:=by
 haveI:=(Dr (P:=P) t c.ok).QO r;haveI:=(Dr (P:=P) e c.ok).XE j;unfold gK at a;split at a
 ·rename_i A y
  split at a
  ·rename_i x w v u s
   injection a with a
   subst a;exact gS (λ_ _=>ND p q f A y x (f9 w) v u s) h
  ·cases a
 ·cases a
theorem yY{T:TypeId}{x:Operand}{e:E}{ds:List D}(a:ev (look L) x=some e)(b:QD e=true)(c:OA (eC e)=some ds)(h:Lex P TB Z ops (Ak fl (i+1) n) K (look ((d,.o (.ip ds))::L)) σ nx):Fk P TB Z ops ⟨some d,.box T x,ty,pos,af,g⟩ fl i n K L σ nx:=gS (λ_ _=>ET a b c) h
def ak:Nat->List (Nat×Operand)->Bool
 | _,[]=>true
 | k,(i,_)::r=>Nat.beq i k && ak (k+1) r
theorem UM:∀(l:List (Nat×Operand)) (k:Nat),ak k l=true->CX k (l.map (·.2))=l
 | [],_,_=>rfl
 | (i,x)::r,k,h=>by
  unfold ak at h;rw [d4] at h;have a:=f9 h.1;subst a;have:=UM r (i+1) h.2;simp [CX,this]
def aq(c:Nat):Option E->Bool
 | some (.o (.ptr id _ _ _))=>Pn c || (Nat.beq c (10+id) && !Nat.ble 1000 c)
 | _=>Pn c
theorem YL{T:List (Nat×TI)}{σ σ':Ab}{f:Env}{t:TypeId}{x:Operand}{id k i j:Nat}(a:ev f x=some (.o (.ptr id k i j)))(h:look σ' id=look σ id):LI T σ' f (.load t x)=LI T σ f (.load t x):=by
 unfold LI;simp only [a]
 cases (IF T t).ld with
 | none=>rfl
 | some p=>obtain⟨ag,n⟩:=p;simp only [h]
def UX(T:List (Nat×TI))(sl:Bool)(c nx:Nat)(σ:Ab)(L:List (Nat×E)):Option Tmp->Op->Option (List (Nat×E)×Ab×Nat)
 | some d,.alloc t=>match Nat.beq c 1,(IF T t).ze with
  | true,some z=>match z.all Od with
   | true=>some ((d,.o (.ptr nx z.length 0 0))::L,(nx,.cells t z.length [z.map zC])::σ,nx+1)
   | false=>none
  | _,_=>none
 | none,.store t x y=>match Nat.beq c 1,OX T σ (look L) t x y with
  | true,some σ'=>some (L,σ',nx)
  | _,_=>none
 | some d,.load t x=>match aq c (ev (look L) x),LI T σ (look L) (.load t x) with
  | true,some e=>some ((d,e)::L,σ,nx)
  | _,_=>none
 | some d,.box _ x=>match sl,ev (look L) x with
  | true,some e=>match QD e,OA (eC e) with
   | true,some ds=>some ((d,.o (.ip ds))::L,σ,nx)
   | _,_=>none
  | _,_=>none
 | some d,.buildSlice t m parts=>match sl,(IF T t).sl with
  | true,some (e,k,_)=>match (IF T e).ze,Jl (look L) (parts.toList.map (·.2)) with
   | some z,some es=>match gK k m z es,ak 0 parts.toList,Nat.beq parts.toList.length m with
    | some rows,true,true=>some ((d,.o (.d (.l rows)))::L,σ,nx)
    | _,_,_=>none
   | _,_=>none
  | _,_=>none
 | _,_=>none
theorem yU[o:CB P]{sl:Bool}{d:Option Tmp}{L':List (Nat×E)}{σ':Ab}{nx':Nat}(h:UX o.T sl (fl i) nx σ L d op=some (L',σ',nx'))(hk:Lex P TB Z ops (Ak fl (i+1) n) K (look L') σ' nx'):Fk P TB Z ops ⟨d,op,ty,pos,af,g⟩ fl i n K L σ nx:=by
 unfold UX at h;split at h
 ·split at h
  ·rename_i a b
   split at h
   ·rename_i j
    injection h with h;injection h with f h;injection h with e c;subst f;subst e;subst c
    exact yO b j (f9 a) hk
   ·cases h
  ·cases h
 ·split at h
  ·rename_i a b
   injection h with h;injection h with f h;injection h with e c;subst f;subst e;subst c
   exact yW b (f9 a) hk
  ·cases h
 ·split at h
  ·rename_i a b
   injection h with h;injection h with f h;injection h with e c;subst f;subst e;subst c
   unfold aq at a;split at a
   ·rename_i l
    rw [jh] at a
    rcases a with a|a
    ·exact yS b a hk
    ·rw [d4] at a
     have j:=f9 a.1;refine λm=>eZ (λσ' nx' k=>NH (by rw [j,Nat.add_sub_cancel_left] at k;rw [YL (σ:=σ) (σ':=σ') l k];exact b)) m ⟨lg (by omega),by simpa using a.2⟩ hk
   ·exact yS b a hk
  ·cases h
 ·split at h
  ·rename_i a
   split at h
   ·rename_i b j
    injection h with h;injection h with f h;injection h with e c;subst f;subst e;subst c
    exact yY a b j hk
   ·cases h
  ·cases h
 ·split at h
  ·rename_i a
   split at h
   ·rename_i b j
    split at h
    ·rename_i r q p
     injection h with h;injection h with f h;injection h with e c;subst f;subst e;subst c
     exact yZ a b (UM _ _ q) (f9 p) j r hk
    ·cases h
   ·cases h
  ·cases h
 ·cases h
theorem yP{x:Operand}{args:Array Operand}{tys:Array TypeId}{gg:FuncId}{cap:List C}{es:List E}{r:E}(b:ev (look L) x=some (.o (.fn gg cap)))(a:Jl (look L) args.toList=some es)(f:(es.all E.FM && C.HE cap)=true)
 (c:Pure P TB gg (es++cap.map .o) r) (e:r.FM=true) (h:Lex P TB Z ops (Ak fl (i+1) n) K (look ((d,r)::L)) σ nx):Fk P TB Z ops ⟨some d,.call ⟨.value x,args,tys⟩,ty,pos,af,g⟩ fl i n K L σ nx:=gS (λ_ _=>Gp b a f c e) h
theorem yC{x:Operand}{args:Array Operand}{tys:Array TypeId}{gg:FuncId}{cap:List C}{es:List E}{c:Bool}(e:ev (look L) x=some (.o (.fn gg cap)))(a:Jl (look L) args.toList=some es)(j:(es.all E.FM && C.HE cap)=true)
 (f:Pure P TB gg (es++cap.map .o) (eB c)) (h:∀b,c=b->Lex P TB Z ops (Ak fl (i+1) n) K (look ((d,eB b)::L)) σ nx):Fk P TB Z ops ⟨some d,.call ⟨.value x,args,tys⟩,ty,pos,af,g⟩ fl i n K L σ nx:=gB (λ_ _=>Gp e a j f rfl) h
end
abbrev Gv:=Prop×List (Nat×E)×Ab×Nat
def bO(T : List (Nat×TI))(md sl:Bool)(ops:Array Oper)(fl:Fl)(i:Nat)(L:List (Nat×E))(σ:Ab)(nx:Nat):Option Gv:=
 match Ny ops.toList (fl.p i) with
 | some ⟨ds,op,ty,pos,af,g⟩=>match Bo ops ⟨ds,op,ty,pos,af,g⟩ (look L) with
  | some true=>match ds with
   | some d=>match YK T md (look L) op with
    | some (q,e)=>some (q,(d,e)::L,σ,nx)
    | none=>match UX T sl (fl i) nx σ L (some d) op with
     | some (L',σ',nx')=>some (True,L',σ',nx')
     | none=>none
   | none=>match UX T sl (fl i) nx σ L none op with
    | some (L',σ',nx')=>some (True,L',σ',nx')
    | none=>none
  | some false=>match ds with
   | some d=>some (True,(d,.t [])::L,σ,nx)
   | none=>some (True,L,σ,nx)
  | none=>none
 | none=>none
def db(ops:Array Oper)(fl:Fl)(i:Nat)(L:List (Nat×E)):Option (Option Tmp×Op):=match Ny ops.toList (fl.p i) with
 | some ⟨ds,op,ty,pos,af,g⟩=>match Bo ops ⟨ds,op,ty,pos,af,g⟩ (look L) with
  | some true=>some (ds,op)
  | _=>none
 | none=>none
def il(T:List (Nat×TI))(ops:Array Oper)(fl:Fl)(i:Nat)(L:List (Nat×E)):Option (Nat×List (List D)):=match db ops fl i L with
 | some (some d,.call ⟨.builtin .len,⟨[x]⟩,⟨[t]⟩⟩)=>match (IF T t).sl,ev (look L) x with
  | some _,some (.o (.d (.l rows)))=>some (d,rows)
  | _,_=>none
 | _=>none
structure As where
 β:Type
 l:List β
 m:Nat
 k:β->Option Gv
def gk(T : List (Nat×TI))(ops:Array Oper)(fl:Fl)(i:Nat)(L:List (Nat×E))(σ:Ab)(nx:Nat):Option As:=match db ops fl i L with
 | some (some d,.indexAddr t x y)=>match (IF T t).sl,ev (look L) x,ev (look L) y with
  | some (_,k,_),some (.o (.d (.l rows))),some (.o (.d (.v (.int _ m))))=>some ⟨List D,rows,m.toNat,λr=>match Nat.beq r.length k with
   | true=>some (0<=m,(d,.o (.ip r))::L,σ,nx)
   | false=>none⟩
  | _,_,_=>none
 | some (some d,.index t x y)=>match (IF T t).st,ev (look L) x,ev (look L) y with
  | true,some (.o (.d (.v (.string ⟨⟨s⟩⟩)))),some (.o (.d (.v (.int _ m))))=>some ⟨UInt8,s,m.toNat,λc=>some (0<=m,(d,eI .u8 (c.toNat:Int))::L,σ,nx)⟩
  | _,_,_=>none
 | some (some d,.load t x)=>match (IF T t).ld,ev (look L) x with
  | some (ag,m),some (.o (.ptr id k i' j))=>match look σ id with
   | some (.cells _ k' rows)=>match Nat.beq k k',aq (fl i) (some (.o (.ptr id k i' j))) with
    | true,true=>some ⟨List C,rows,i',λr=>match eL ag m j r with
     | some e=>some (True,(d,e)::L,σ,nx)
     | none=>none⟩
    | _,_=>none
   | _=>none
  | _,_=>none
 | some (none,.store t x y)=>match (IF T t).ld,ev (look L) x,ev (look L) y with
  | some (_,m),some (.o (.ptr id k i' j)),some e=>match look σ id with
   | some (.cells ct k' rows)=>match Nat.beq k k',Nat.beq (fl i) 1,QD e,Nat.beq (eC e).length m,Nat.ble (j+m) k with
    | true,true,true,true,true=>some ⟨List C,rows,i',λr=>some (True,L,(id,.cells ct k (rows.set i' (Ag r j (eC e))))::σ,nx)⟩
    | _,_,_,_,_=>none
   | _=>none
  | _,_,_=>none
 | _=>none
def iA(T:List (Nat×TI))(ops:Array Oper)(fl:Fl)(i:Nat)(L:List (Nat×E)):Option (Nat×Bool):=match db ops fl i L with
 | some (some d,op)=>match RG T (look L) op with
  | some c=>some (d,c)
  | none=>none
 | _=>none
def iM(ops:Array Oper)(fl:Fl)(i:Nat)(L:List (Nat×E)):Option Bool:=match Ny ops.toList (fl.p i) with
 | some ⟨_,_,_,_,_,some (j,_)⟩=>match (ops[j]?).bind (·.dst) with
  | some t=>match look L t with
   | some (.o (.d (.v (.bool b))))=>some b
   | _=>none
  | none=>none
 | _=>none
def fT(ops:Array Oper)(fl:Fl)(i:Nat)(L:List (Nat×E)):Option (Nat×FuncId×List E):=match db ops fl i L with
 | some (some d,.call ⟨.value x,args,_⟩)=>match ev (look L) x,Jl (look L) args.toList with
  | some (.o (.fn gg cap)),some es=>match es.all E.FM && C.HE cap with
   | true=>some (d,gg,es++cap.map .o)
   | false=>none
  | _,_=>none
 | _=>none
section
variable {P:Program}{TB:BA}{Z:Ctx}{ops:Array Oper}{fl:Fl}{i n:Nat}{L L':List (Nat×E)}{σ σ':Ab}{nx nx' d:Nat}{K:Env->Ab->Nat->Prop}
theorem Hm{ds:Option Tmp}{op:Op}(h:db ops fl i L=some (ds,op))(k:∀ty pos af g,Fk P TB Z ops ⟨ds,op,ty,pos,af,g⟩ fl i n K L σ nx):Lex P TB Z ops (Ak fl i (n+1)) K (look L) σ nx:=by
 unfold db at h;split at h
 ·rename_i a
  split at h
  ·rename_i b
   injection h with h;injection h with d c;subst d;subst c
   exact Av a (k _ _ _ _ b)
  ·cases h
 ·cases h
theorem s1{md sl:Bool}[k:CB P]{q:Prop}(h:bO k.T md sl ops fl i L σ nx=some (q,L',σ',nx'))(j:q)(hk:Lex P TB Z ops (Ak fl (i+1) n) K (look L') σ' nx'):Lex P TB Z ops (Ak fl i (n+1)) K (look L) σ nx:=by
 unfold bO at h;split at h
 ·rename_i a
  split at h
  ·rename_i f
   split at h
   ·split at h
    ·rename_i g
     injection h with h;injection h with e h;injection h with d h;injection h with c b;subst e;subst d;subst c;subst b
     exact Av a (yQ g j hk f)
    ·split at h
     ·rename_i g
      injection h with h;injection h with e h;injection h with d h;injection h with c b;subst e;subst d;subst c;subst b
      exact Av a (yU g hk f)
     ·cases h
   ·split at h
    ·rename_i g
     injection h with h;injection h with e h;injection h with d h;injection h with c b;subst e;subst d;subst c;subst b
     exact Av a (yU g hk f)
    ·cases h
  ·rename_i f
   split at h
   ·injection h with h;injection h with e h;injection h with d h;injection h with c b;subst e;subst d;subst c;subst b
    exact Av a (λa=>Yt a f (by rw [DM];exact hk))
   ·injection h with h;injection h with e h;injection h with d h;injection h with c b;subst e;subst d;subst c;subst b
    exact Av a (λa=>Yt a f hk)
  ·cases h
 ·cases h
theorem sA[b:CB P]{q:Prop}(h:bO b.T false true ops fl i L σ nx=some (q,L',σ',nx'))(a:q)(hk:Lex P TB Z ops (Ak fl (i+1) n) K (look L') σ' nx'):Lex P TB Z ops (Ak fl i (n+1)) K (look L) σ nx:=s1 h a hk
theorem sM[b:CB P]{q:Prop}(h:bO b.T true false ops fl i L σ nx=some (q,L',σ',nx'))(a:q)(hk:Lex P TB Z ops (Ak fl (i+1) n) K (look L') σ' nx'):Lex P TB Z ops (Ak fl i (n+1)) K (look L) σ nx:=s1 h a hk
theorem sX[b:CB P]{q:Prop}(h:bO b.T false false ops fl i L σ nx=some (q,L',σ',nx'))(a:q)(hk:Lex P TB Z ops (Ak fl (i+1) n) K (look L') σ' nx'):Lex P TB Z ops (Ak fl i (n+1)) K (look L) σ nx:=s1 h a hk
theorem sN[e:CB P]{α:Type}{l:List α}{f:α->List D}(h:il e.T ops fl i L=some (d,l.map f))(hk:Lex P TB Z ops (Ak fl (i+1) n) K (look ((d,eI .i64 l.length)::L)) σ nx):Lex P TB Z ops (Ak fl i (n+1)) K (look L) σ nx:=by
 unfold il at h;split at h
 ·rename_i b
  split at h
  ·rename_i c a
   injection h with h;injection h with j g;subst j;subst g
   exact Hm b λ_ _ _ _=>iS a c hk
  ·cases h
 ·cases h
theorem s4[x : CB P]{β:Type}{l:List β}{m:Nat}{k:β->Option Gv}{r:β}{q:Prop}(h:gk x.T ops fl i L σ nx=some ⟨β,l,m,k⟩)(s:l[m]? = some r)(e:k r=some (q,L',σ',nx'))(v:q)
 (hk:Lex P TB Z ops (Ak fl (i+1) n) K (look L') σ' nx'):Lex P TB Z ops (Ak fl i (n+1)) K (look L) σ nx:=by
 unfold gk at h;split at h
 ·rename_i j
  split at h
  ·rename_i o g p
   injection h with h;injection h with d c b a;subst d;subst c;subst b
   have a:=eq_of_heq a;subst a;dsimp only at e;split at e
   ·rename_i hb
    injection e with h;injection h with d h;injection h with c h;injection h with b a;subst d;subst c;subst b;subst a
    exact Hm j λ_ _ _ _=>yL g p s o (f9 hb) v hk
   ·cases e
  ·cases h
 ·rename_i j
  split at h
  ·rename_i o g p
   injection h with h;injection h with d c b a;subst d;subst c;subst b
   have a:=eq_of_heq a;subst a;dsimp only at e
   injection e with h;injection h with d h;injection h with c h;injection h with b a;subst d;subst c;subst b;subst a
   exact Hm j λ_ _ _ _=>yT g p s o v hk
  ·cases h
 ·rename_i j
  split at h
  ·rename_i o g
   split at h
   ·rename_i t
    split at h
    ·rename_i hb f
     injection h with h;injection h with d c b a;subst d;subst c;subst b
     have a:=eq_of_heq a;subst a;dsimp only at e;split at e
     ·rename_i w
      injection e with h;injection h with d h;injection h with c h;injection h with b a;subst d;subst c;subst b;subst a
      have hb:=f9 hb;subst hb;unfold aq at f;rw [jh] at f
      rcases f with f|f
      ·exact Hm j λ_ _ _ _=>yM g t s o w f hk
      ·rw [d4] at f
       have F:=f9 f.1;haveI:=(Dr (P:=P) _ x.ok).Lt o;exact Hm j λ_ _ _ _ y=>eZ (λσ' nx' u=>YF g (by rw [F,Nat.add_sub_cancel_left] at u;rw [u];exact t) s w) y ⟨lg (by omega),by simpa using f.2⟩ hk
     ·cases e
    ·cases h
   ·cases h
  ·cases h
 ·rename_i j
  split at h
  ·rename_i o g p
   split at h
   ·rename_i t
    split at h
    ·rename_i hb f B A z
     injection h with h;injection h with d c b a;subst d;subst c;subst b
     have a:=eq_of_heq a;subst a;dsimp only at e
     injection e with h;injection h with d h;injection h with c h;injection h with b a;subst d;subst c;subst b;subst a
     have hb:=f9 hb;subst hb;exact Hm j λ_ _ _ _=>yV g p B t s o (f9 A) z (f9 f) hk
    ·cases h
   ·cases h
  ·cases h
 ·cases h
theorem tA[a:CB P](h:bO a.T false true ops fl i L σ nx=some (True,L',σ',nx'))(hk:Lex P TB Z ops (Ak fl (i+1) n) K (look L') σ' nx'):Lex P TB Z ops (Ak fl i (n+1)) K (look L) σ nx:=s1 h True.intro hk
theorem tM[a:CB P](h:bO a.T true false ops fl i L σ nx=some (True,L',σ',nx'))(hk:Lex P TB Z ops (Ak fl (i+1) n) K (look L') σ' nx'):Lex P TB Z ops (Ak fl i (n+1)) K (look L) σ nx:=s1 h True.intro hk
theorem tX[a:CB P](h:bO a.T false false ops fl i L σ nx=some (True,L',σ',nx'))(hk:Lex P TB Z ops (Ak fl (i+1) n) K (look L') σ' nx'):Lex P TB Z ops (Ak fl i (n+1)) K (look L) σ nx:=s1 h True.intro hk
theorem t4[b:CB P]{β:Type}{l:List β}{m:Nat}{k:β->Option Gv}{r:β}(h:gk b.T ops fl i L σ nx=some ⟨β,l,m,k⟩)(a:l[m]? = some r)(c:k r=some (True,L',σ',nx'))
 (hk:Lex P TB Z ops (Ak fl (i+1) n) K (look L') σ' nx'):Lex P TB Z ops (Ak fl i (n+1)) K (look L) σ nx:=s4 h a c True.intro hk
theorem s2[f:CB P]{c:Bool}(h:iA f.T ops fl i L=some (d,c))(hk:∀b,c=b->Lex P TB Z ops (Ak fl (i+1) n) K (look ((d,eB b)::L)) σ nx):Lex P TB Z ops (Ak fl i (n+1)) K (look L) σ nx:=by
 unfold iA at h;split at h
 ·rename_i e
  split at h
  ·rename_i a
   injection h with h;injection h with j g;subst j;subst g
   exact Hm e λ_ _ _ _=>yB a hk
  ·cases h
 ·cases h
theorem s3{b:Bool}(_h:iM ops fl i L=some b)(a:b=true->Lex P TB Z ops (Ak fl i (n+1)) K (look L) σ nx)(c:b=false->Lex P TB Z ops (Ak fl i (n+1)) K (look L) σ nx):Lex P TB Z ops (Ak fl i (n+1)) K (look L) σ nx:=by
 cases b
 ·exact c rfl
 ·exact a rfl
theorem Uz{gg:FuncId}{es:List E}(h:fT ops fl i L=some (d,gg,es)):∃x args tys cap a,db ops fl i L=some (some d,.call ⟨.value x,args,tys⟩)/\ev (look L) x=some (.o (.fn gg cap))/\Jl (look L) args.toList=some a/\(a.all E.FM && C.HE cap)=true/\es=a++cap.map .o:=by
 unfold fT at h;split at h
 ·rename_i e
  split at h
  ·rename_i b f
   split at h
   ·rename_i c
    injection h with h;injection h with k h;injection h with j g;subst k;subst j;subst g
    exact⟨_,_,_,_,_,e,b,f,c,rfl⟩
   ·cases h
  ·cases h
 ·cases h
theorem sP{gg:FuncId}{es:List E}{r:E}(h:fT ops fl i L=some (d,gg,es))(b:Pure P TB gg es r)(c:r.FM=true)(hk:Lex P TB Z ops (Ak fl (i+1) n) K (look ((d,r)::L)) σ nx):Lex P TB Z ops (Ak fl i (n+1)) K (look L) σ nx:=by
 obtain⟨x,args,tys,cap,j,f,a,g,e,rfl⟩:=Uz h;exact Hm f λ_ _ _ _=>yP a g e b c hk
theorem sC{gg:FuncId}{es:List E}{c:Bool}(h:fT ops fl i L=some (d,gg,es))(e:Pure P TB gg es (eB c))(hk:∀b,c=b->Lex P TB Z ops (Ak fl (i+1) n) K (look ((d,eB b)::L)) σ nx):Lex P TB Z ops (Ak fl i (n+1)) K (look L) σ nx:=by
 obtain⟨x,args,tys,cap,k,g,a,j,f,rfl⟩:=Uz h;exact Hm g λ_ _ _ _=>yC a j f e hk
theorem tI:True:=True.intro
end
section
variable {P:Program}{TB:BA}{Z:Ctx}{N:Nat}{ops:Array Oper}{fl:Fl}{i:Nat}{K:Env->Ab->Nat->Prop}{Q:Exit->Env->Ab->Nat->Prop}{f:Env}{σ:Ab}{nx:Nat}
theorem aS{x y:Code}(h:Ai P TB Z N x (Kp (Ai P TB Z N y Q) Q) f σ nx):Ai P TB Z N (.seq x y) Q f σ nx:=.seq h
def SM(N:Nat):List Oper->Bool
 | []=>true
 | o::r=>match o.dst with
  | some d=>bif Nat.ble (d+1) N then SM N r else false
  | none=>SM N r
theorem Uy{N:Nat}:∀ {l:List Oper},SM N l=true->∀o∈l,(match o.dst with|some d=>Nat.blt d N|none=>true)=true
 | [],_,o,a=>by cases a
 | x :: l,h,o,a=>by
  unfold SM at h
  rcases je.1 a with rfl|a
  ·cases b:o.dst with
   | none=>rfl
   | some d=>
    rw [b] at h;dsimp only at h |-
    cases hb:Nat.ble (d+1) N with
    | false=>rw [hb] at h;cases h
    | true=>exact hb
  ·refine Uy ?_ o a
   cases b:x.dst with
   | none=>rw [b] at h;exact h
   | some d=>
    rw [b] at h;dsimp only at h
    cases hb:Nat.ble (d+1) N with
    | false=>rw [hb] at h;cases h
    | true=>rw [hb] at h;exact h
theorem Xp{N:Nat}{ops:Array Oper}(h:SM N ops.toList=true):Gd N ops=true:=by
 unfold Gd;rw [Array.all_eq_true];intro i hi;exact Uy h _ (by simp)
def dS(P:Program)(TB:BA)(Z:Ctx)(N:Nat):Code->(Exit->Env->Ab->Nat->Prop)->Option (Env->Ab->Nat->Prop)
 | .region _ ops false,Q=>bif SM N ops.toList then some (Lex P TB Z ops (Ak XA 0 ops.size) (λf σ nx=>Q .normal f σ nx)) else none
 | .seq c d,Q=>match dS P TB Z N c (Kp (Ai P TB Z N d Q) Q) with
  | some G=>some G
  | none=>some (Ai P TB Z N c (Kp (Ai P TB Z N d Q) Q))
 | _,_=>none
theorem XZ:∀ {c:Code} {Q:Exit->Env->Ab->Nat->Prop} {G:Env->Ab->Nat->Prop} {f:Env} {σ:Ab} {nx:Nat},dS P TB Z N c Q=some G->G f σ nx->Ai P TB Z N c Q f σ nx
 | .region _ ops false,Q,G,f,σ,nx,h,g=>by
  unfold dS at h
  cases b:SM N ops.toList with
  | false=>rw [b] at h;cases h
  | true=>rw [b] at h;injection h with h;subst h;exact iq (Xp b) g
 | .seq c d,Q,G,f,σ,nx,h,g=>by
  unfold dS at h;refine .seq ?_
  cases a:dS P TB Z N c (Kp (Ai P TB Z N d Q) Q) with
  | none=>rw [a] at h;injection h with h;subst h;exact g
  | some G=>rw [a] at h;injection h with h;subst h;exact XZ a g
 | .region _ ops true,Q,G,f,σ,nx,h,g=>by cases h
 | .skip,Q,G,f,σ,nx,h,g=>by cases h
 | .cond ..,Q,G,f,σ,nx,h,g=>by cases h
 | .block ..,Q,G,f,σ,nx,h,g=>by cases h
 | .ret,Q,G,f,σ,nx,h,g=>by cases h
 | .exit ..,Q,G,f,σ,nx,h,g=>by cases h
theorem aU{c:Code}{G:Env->Ab->Nat->Prop}(h:dS P TB Z N c Q=some G)(g:G f σ nx):Ai P TB Z N c Q f σ nx:=XZ h g
theorem aR(h:Q .ret f σ nx):Ai P TB Z N .ret Q f σ nx:=.ret h
theorem aK(h:Q .normal f σ nx):Ai P TB Z N .skip Q f σ nx:=.skip h
theorem aE{id:Nat}(h:Q (.exit id) f σ nx):Ai P TB Z N (.exit id) Q f σ nx:=.exit h
theorem aB{id:Nat}{c:Code}(h:Ai P TB Z N c (fW id Q) f σ nx):Ai P TB Z N (.block id c) Q f σ nx:=.block h
theorem aC{c:Operand}{x y:Code}{b:Bool}(e:ev f c=some (.o (.d (.v (.bool b)))))(ht:b=true->Ai P TB Z N x Q f σ nx)(a:b=false->Ai P TB Z N y Q f σ nx):Ai P TB Z N (.cond c x y) Q f σ nx:=.cond e ht a
theorem eN {g:FuncId} {fn:Func} {c:Code} {args:List E} {post:E->Ab->Nat->Prop} (b:P.funcs[g]? = some fn) (hb:fn.body=some c) (a:(fn.name == "runtime.NumGoroutine")=false) (ha:Nat.ble args.length fn.ntmps=true)
 (h:∀Z:Ctx,Z.V.nx=nx->Ai P TB Z fn.ntmps c (dW fn.results post) (look (BV 0 args)) σ nx):Spec P TB g σ nx args post:=.of b hb a (ce ha) h
end
section
variable {P:Program}{TB:BA}{Z:Ctx}{d:Option Tmp}{ty:TypeId}{pos:String}{af:Array Edge}{g:Option (Nat×Bool)}{f:Env}{σ:Ab}{nx:Nat}
theorem TP{t e:TypeId}{k b:Nat}{z:List Value}{ik ik':IntKind}{n c:Int}(B:bN P t=some (e,k,b))(x:WU P e=some z)(f:z.length=k)(H:0 < b)(I:0<=n)(A:n<=c)(G:c*b<=140737488355328)(w:World) :
 ∃zv:Value,zv.cells.toList=z/\(Instr.makeSlice t (.int ik n) (.int ik' c)).run P w=.ok (.slice (some ⟨w.heap.size,0,none⟩) n.toNat c.toNat) (w.alloc (.cells ((Array.range (c.toNat*z.length)).map (zv.cells[· % zv.cells.size]!)) e)):=by
 obtain⟨i,y,hi,j,l⟩:=Gs B;obtain⟨i',zv,a,m,h⟩:=Hx x
 rw [hi] at a;injection a with a;subst a
 refine⟨zv,h,?_⟩
 have p:0<=c:=by omega
 have F:c<=c*b:=by
  have:=jw (show (1:Int)<=(b:Int) by omega) p;omega
 have wn:IntKind.i64.wrap n=n:=IntWalk.i64_in n (by omega);have wc:IntKind.i64.wrap c=c:=IntWalk.i64_in c (by omega)
 have v:zv.cells.size=k:=by rw [<-f,<-h];simp
 have q:(b:Int)*c<=140737488355328:=by rw [kU];exact G
 have ht:¬(281474976710656:Int) < (b:Int)*c:=by omega
 generalize d:(Array.range (c.toNat*z.length)).map (zv.cells[· % zv.cells.size]!)=cur
 have u:¬c < 0:=by omega
 have s:¬n < 0:=by omega
 have r:¬c < n:=by omega
 simp only [Instr.makeSlice,jb,run_underlying y,iW,asInt,asIntOf,pure_bind,bind_pure_comp,map_pure,typeInfo,sizeOf,wn,wc];by_cases g:c.toNat*k=0
 ·have o:cur = #[]:=by
   have:cur.size=0:=by rw [<-d];simp [f,g]
   exact ko this
  simp [go_sem,hi,l,j,u,s,r,ht,askRoom,g,newRow,newObj,o];rfl
 ·simp [go_sem,hi,l,j,u,s,r,ht,askRoom,g,newRow,newObj,zeroValue,typeInfo,m,<-d,f]
  rfl
theorem US{t e:TypeId}{k b:Nat}{z:List Value}{dz:List D}{x y:Operand}{ik ik':IntKind}{n:Int}[Y:Cs P t e k b][S:BJ P e z](X:ev f x=some (eI ik n))(T:ev f y=some (eI ik' n))(p:z.length=k)(G:z.all Od=true)(q:z.map zC=dz.map C.d)(K:0 < b)
 (R:0<=n) (hc:n*b<=140737488355328):A8 P TB Z ⟨d,.makeSlice t x y,ty,pos,af,g⟩ f σ nx (.o (.d (.l (List.replicate n.toNat dz)))):=
 Iq λV U Q h2=>by
  have B:U x=.int ik n:=AL.val (Q.get (by simp [Op.operands]) X);have A:U y=.int ik' n:=AL.val (Q.get (by simp [Op.operands]) T);obtain⟨zv,u,c⟩:=TP (ik:=ik) (ik':=ik') Y.out S.out p K R (mB n) hc V.w
  have hcb:n<=n*b:=by
   have:=jw (show (1:Int)<=(b:Int) by omega) R;omega
  have m:=Lj (V:=V) (n:=n.toNat) u G;generalize N:(Array.range (n.toNat*z.length)).map (zv.cells[· % zv.cells.size]!)=cur at c m;obtain⟨hi,M⟩:=h2.SC (w:=V.w.alloc (.cells cur e)) rfl rfl rfl (by simp) (λb hb=>A6 _ _ _ hb)
  have J:dz.length=k:=by have:=congrArg List.length q;simp at this;omega
  have a:∀(i:Nat) (r:List D) (j:Nat) (x:D),(List.replicate n.toNat dz)[i]? = some r->r[j]? = some x->∃v,cur[i*k+j]? = some v/\CI V.I V.w x v:=λi r j x hi s=>by
   have F:r=dz:=km (co hi);subst F
   have H:i < n.toNat:=by have:=(am.1 hi).1;simpa using this
   obtain⟨v,h9,h⟩:=Ge (k:=k) m (λr F=>by rw [km F];simp [p]) i (z.map zC) j (.d x) (by simp [H]) (by rw [q];simp [s])
   cases h with
   | d h=>exact⟨v,h9,h⟩
  refine⟨.slice (some ⟨V.w.heap.size,0,none⟩) n.toNat n.toNat,JP V (V.w.alloc (.cells cur e)),?_,M,hi,rfl,?_⟩
  ·show ((do let v <-Instr.makeSlice t (U x) (U y);pure (Go.Next.value v):Sem Go.Next)).run P V.w=_
   rw [B,A];simp only [jb,c,iW];rfl
  ·have hb:(JP V (V.w.alloc (.cells cur e))).I V.w.heap.size:=.inr rfl
   have hh:(JP V (V.w.alloc (.cells cur e))).w.heap[V.w.heap.size]? = some (.cells cur e):=BT _ _;have := @CI.l (JP V (V.w.alloc (.cells cur e))).I (JP V (V.w.alloc (.cells cur e))).w (List.replicate n.toNat dz) V.w.heap.size 0 k n.toNat (λi j=>cur.getD (i*k+j) undef) hb (by simp) (by unfold maxLen;omega)
    (λi r hi=>by rw [km (co hi)];exact J)
    (λi r j x hi s=>by
     obtain⟨v,L,_⟩:=a i r j x hi s
     simp [World.cell?,hh,L])
    (λi r j x hi s=>by
     obtain⟨v,L,h7⟩:=a i r j x hi s
     have:cur.getD (i*k+j) undef=v:=by simp [L]
     rw [this];exact h7.ext M)
   rw [lX] at this;exact .d this
end
end Go.Am
