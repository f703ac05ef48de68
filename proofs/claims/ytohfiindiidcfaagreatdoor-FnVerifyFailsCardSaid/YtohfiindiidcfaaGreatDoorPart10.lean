/-
  The steps of a walk, few and short: what an operation gives is reckoned.
-/
import Derived.Test.YtohfiindiidcfaaGreatDoorPart9
set_option linter.all false
namespace Go.Am
open Go
class Sh (P:Program) (t:TypeId):Prop where
 out:P.underlying t=some .bool
theorem oA{p:Prop}[Decidable p]:(decide p=true)=p:=decide_eq_true_eq
theorem oB{p:Prop}[Decidable p]:decide p=false↔¬p:=decide_eq_false_iff_not
theorem oC{α β:Type}{l:List α}{f:α->β}:(l.map f).length=l.length:=gt f
theorem oD{α:Type}{l m:List α}:(l++m).length=l.length+m.length:=pj
theorem oE{α:Type}{n:Nat}{x:α}:(List.replicate n x).length=n:=rh
theorem oF{α:Type}{x:α}{l:List α}:(x::l).length=l.length+1:=oR
theorem oG{α:Type}:([]:List α).length=0:=rt
theorem oZ:(∀(p:Prop) [Decidable p],(decide p=true)=p)/\(∀(p:Prop) [Decidable p],decide p=false↔¬p)/\(∀(α β:Type) (l:List α) (f:α->β),(l.map f).length=l.length)/\(∀(α:Type) (l m:List α),(l++m).length=l.length+m.length)/\(∀(α:Type) (n:Nat) (x:α),(List.replicate n x).length=n)/\(∀(α:Type) (x:α) (l:List α),(x::l).length=l.length+1)/\∀(α:Type),([]:List α).length=0:=
 ⟨λ_ _=>oA,λ_ _=>oB,λ_ _ _ _=>oC,λ_ _ _=>oD,λ_ _ _=>oE,λ_ _ _=>oF,λ_=>oG⟩
structure TI where
 ld:Option (Bool×Nat):=none
 ik:Option IntKind:=none
 st:Bool:=false
 sl:Option (Nat×Nat×Nat):=none
 ar:Option (Nat×Nat):=none
 fl:List (Option (Nat×Bool×Nat)):=[]
 pt:Bool:=false
 bo:Bool:=false
 ze:Option (List Value):=none
def TN(P:Program)(t:Nat):Nat->List (Option (Nat×Bool×Nat))->Prop
 | _,[]=>True
 | k,none::r=>TN P t (k+1) r
 | k,some x::r=>(ZL P t k=some x.1/\ZM P t k=some x)/\TN P t (k+1) r
structure Fa (P:Program) (t:Nat) (i:TI):Prop where
 ld:i.ld=none\/jf P t=i.ld
 ik:i.ik=none\/P.underlying t=i.ik.map .int
 st:i.st=false\/P.underlying t=some .string
 sl:i.sl=none\/im P t=i.sl
 ar:i.ar=none\/ku P t=i.ar
 fl:TN P t 0 i.fl
 pt:i.pt=false\/∃e,P.underlying t=some (.pointer e)
 bo:i.bo=false\/P.underlying t=some .bool
 ze:i.ze=none\/aY P t=i.ze
def XL(P:Program):List (Nat×TI)->Prop
 | []=>True
 | (t,i)::r=>Fa P t i/\XL P r
def mZ:Value->Value->Bool
 | .int k n,.int k' n'=>decide (k=k') && decide (n=n')
 | .bool a,.bool b=>decide (a=b)
 | .string ⟨⟨a⟩⟩,.string ⟨⟨b⟩⟩=>a.isEmpty && b.isEmpty
 | .slice none 0 0,.slice none 0 0=>true
 | .pointer none,.pointer none=>true
 | .map none,.map none=>true
 | .nilFunc,.nilFunc=>true
 | .nilIface,.nilIface=>true
 | _,_=>false
theorem jS:∀ {a b:Value},mZ a b=true->a=b:=by
 intro a b h;unfold mZ at h;split at h<;>simp_all
def mg:List Value->List Value->Bool
 | [],[]=>true
 | a::l,b::m=>mZ a b && mg l m
 | _,_=>false
theorem eU:∀ {l m:List Value},mg l m=true->l=m
 | [],[],_=>rfl
 | a::l,b::m,h=>by
  unfold mg at h;rw [d4] at h;rw [jS h.1,eU h.2]
 | [],_::_,h=>by cases h
 | _::_,[],h=>by cases h
def kI(P:Program)(t:Nat):Nat->List (Option (Nat×Bool×Nat))->Bool
 | _,[]=>true
 | k,none::r=>kI P t (k+1) r
 | k,some x::r=>decide (ZL P t k=some x.1) && decide (ZM P t k=some x) && kI P t (k+1) r
theorem WE{P:Program}{t:Nat}:∀ {l:List (Option (Nat×Bool×Nat))} {k:Nat},kI P t k l=true->TN P t k l
 | [],_,_=>trivial
 | none::r,k,h=>WE (l:=r) (k:=k+1) h
 | some x::r,k,h=>by
  unfold kI at h;simp only [d4,decide_eq_true_eq] at h;exact⟨h.1,WE h.2⟩
def nz(d:Option TypeDesc)(i:TI):Bool:=match d with
 | some (.int k)=>(match i.ik with|none=>true|some k'=>decide (k=k')) && !i.st && !i.pt && !i.bo
 | some .string=>i.ik.isNone && !i.pt && !i.bo
 | some (.pointer _)=>i.ik.isNone && !i.st && !i.bo
 | some .bool=>i.ik.isNone && !i.st && !i.pt
 | _=>i.ik.isNone && !i.st && !i.pt && !i.bo
def mS(P:Program)(t:Nat)(i:TI):Bool:=
 (i.ld.isNone || decide (jf P t=i.ld)) && (nz (P.underlying t) i && ((i.sl.isNone || decide (im P t=i.sl)) && ((i.ar.isNone || decide (ku P t=i.ar)) && (kI P t 0 i.fl && match i.ze with
  | none=>true
  | some l=>match aY P t with
   | some l'=>mg l' l
   | none=>false))))
theorem or_none{α:Type}[DecidableEq α]{a b:Option α}(h:(b.isNone || decide (a=b))=true):b=none\/a=b:=by
 rw [og] at h
 rcases h with h|h
 ·left;cases b<;>simp_all
 ·right;exact of_decide_eq_true h
theorem jO{P:Program}{t:Nat}{i:TI}(h:mS P t i=true):Fa P t i:=by
 unfold mS at h;simp only [d4] at h;obtain⟨o,f,n,m,j,b⟩:=h
 have a:(i.ik=none\/P.underlying t=i.ik.map .int)/\(i.st=false\/P.underlying t=some .string)/\(i.pt=false\/∃e,P.underlying t=some (.pointer e))/\(i.bo=false\/P.underlying t=some .bool):=by
  unfold nz at f;split at f
  ·rename_i k hk
   cases g:i.ik<;>simp_all
  all_goals simp_all
 refine⟨or_none o,a.1,a.2.1,or_none n,or_none m,WE j,a.2.2.1,a.2.2.2,?_⟩;split at b
 ·rename_i d;exact .inl d
 ·rename_i l d
  split at b
  ·rename_i l' c
   right;rw [c,d,eU b]
  ·cases b
def iF(P:Program):List (Nat×TI)->Bool
 | []=>true
 | (t,i)::r=>mS P t i && iF P r
theorem XU{P:Program}:∀ {l:List (Nat×TI)},iF P l=true->XL P l
 | [],_=>trivial
 | (t,i)::r,h=>by
  unfold iF at h;rw [d4] at h;exact⟨jO h.1,XU h.2⟩
class Db (P:Program) where
 T:List (Nat×TI)
 ok:XL P T
def J0:List (Nat×TI)->Nat->TI
 | [],_=>{}
 | (k,x)::r,t=>bif Nat.beq k t then x else J0 r t
def nth{α:Type}:List α->Nat->Option α
 | [],_=>none
 | x::_,0=>some x
 | _::r,n+1=>nth r n
theorem Oz{α:Type}:∀(l:List α) (i:Nat),nth l i=l[i]?
 | [],_=>by simp [nth]
 | o::_,0=>by simp [nth]
 | _::r,n+1=>by simp [nth,Oz r n]
theorem Ec{P:Program}(t:Nat):∀ {T:List (Nat×TI)},XL P T->Fa P t (J0 T t)
 | [],_=>⟨.inl rfl,.inl rfl,.inl rfl,.inl rfl,.inl rfl,trivial,.inl rfl,.inl rfl,.inl rfl⟩
 | (k,x)::r,h=>by
  unfold J0;cases hb:Nat.beq k t
  ·exact Ec t h.2
  ·have:=i7 hb
   subst this;exact h.1
section
variable {P:Program}{t:Nat}{i:TI}
theorem Fa.NH(h:Fa P t i){ag:Bool}{n:Nat}(e:i.ld=some (ag,n)):DV P t ag n:=⟨by rcases h.ld with h|h<;>simp_all⟩
theorem Fa.cm(h:Fa P t i){k:IntKind}(e:i.ik=some k):Kk P t k:=⟨by rcases h.ik with h|h<;>simp_all⟩
theorem Fa.cr(h:Fa P t i)(e:i.st=true):D0 P t:=⟨by rcases h.st with h|h<;>simp_all⟩
theorem Fa.Ut(h:Fa P t i){e k b:Nat}(a:i.sl=some (e,k,b)):CS P t e k b:=⟨by rcases h.sl with h|h<;>simp_all⟩
theorem Fa.kL(h:Fa P t i){n k:Nat}(a:i.ar=some (n,k)):QO P t n k:=⟨by rcases h.ar with h|h<;>simp_all⟩
theorem Fa.cn(h:Fa P t i)(e:i.pt=true):VW P t:=⟨h.pt.resolve_left (by simp [e])⟩
theorem Fa.fD(h:Fa P t i)(e:i.bo=true):Sh P t:=⟨by rcases h.bo with h|h<;>simp_all⟩
theorem Fa.cu(h:Fa P t i){z:List Value}(e:i.ze=some z):BQ P t z:=⟨by rcases h.ze with h|h<;>simp_all⟩
theorem TN.get:∀ {l:List (Option (Nat×Bool×Nat))} {k j:Nat} {x:Nat×Bool×Nat},TN P t k l->nth l j=some (some x)->ZL P t (k+j)=some x.1/\ZM P t (k+j)=some x
 | [],_,_,_,_,h=>by simp [nth] at h
 | none::r,k,0,x,_,h=>by simp [nth] at h
 | some y::r,k,0,x,a,h=>by simp [nth] at h;subst h;exact a.1
 | none::r,k,j+1,x,a,h=>by
  have:=TN.get (l:=r) (k:=k+1) (j:=j) (x:=x) a h;rwa [show k+(j+1)=k+1+j by omega]
 | some y::r,k,j+1,x,a,h=>by
  have:=TN.get (l:=r) (k:=k+1) (j:=j) (x:=x) a.2 h;rwa [show k+(j+1)=k+1+j by omega]
theorem Fa.iZ(h:Fa P t i){j off n:Nat}{ag:Bool}(e:nth i.fl j=some (some (off,ag,n))):Si P t j off:=⟨by have:=(h.fl.get e).1;rwa [n7] at this⟩
theorem Fa.fE(h:Fa P t i){j off n:Nat}{ag:Bool}(e:nth i.fl j=some (some (off,ag,n))):Oj P t j off ag n:=⟨by have:=(h.fl.get e).2;rwa [n7] at this⟩
end
def GF(P:Program)(TB:BF)(Γ:Ctx)(ops:Array Oper)(o:Oper)(fl:Fl)(i n:Nat)(K:Env->Ab->Nat->Prop)(L:List (Nat×E))(σ:Ab)(nx:Nat):Prop:=
 BD ops o (look L)=some true->Bv P TB Γ ops o fl i n K L σ nx
def xE:Bool×List C->Option E
 | (false,[c])=>some (.o c)
 | (true,cs)=>some (.a cs)
 | _=>none
def mA(f:Env):Op->Option E
 | .move x=>ev f x
 | .pick c x y=>match ev f c with
  | some (.o (.d (.v (.bool true))))=>ev f x
  | some (.o (.d (.v (.bool false))))=>ev f y
  | _=>none
 | .extract x k=>match ev f x with
  | some (.t xs)=>(xs[k]?).bind xE
  | _=>none
 | .nilCheck x=>match ev f x with
  | some (.o (.d (.p cs)))=>some (.o (.ip cs))
  | some (.o (.ptr id k i j))=>some (.o (.ptr id k i j))
  | some (.o (.fn gg cs))=>some (.o (.fn gg cs))
  | _=>none
 | _=>none
def j8:IntKind->IntKind->Bool
 | .i64,.i64|.u8,.u8|.u64,.u64|.i32,.i32|.u16,.u16|.u32,.u32=>true
 | _,_=>false
theorem Pe{a b:IntKind}(h:j8 a b=true):a=b:=by cases a<;>cases b<;>first|rfl|cases h
def kE(o:BinOp)(m n:Int):Option Bool:=match o with
 | .lss=>some (decide (m < n))
 | .leq=>some (decide (m<=n))
 | .gtr=>some (decide (m > n))
 | .geq=>some (decide (m>=n))
 | .eql=>some (decide (m=n))
 | .neq=>some (decide (m≠n))
 | _=>none
def kD(o:BinOp)(a b:List UInt8):Option Bool:=match o with
 | .eql=>some (decide (a=b))
 | .neq=>some (decide (a≠b))
 | _=>none
def iO(o:BinOp):E->E->Option Bool
 | .o (.d (.v (.int k m))),.o (.d (.v (.int k' n)))=>match j8 k k' with
  | true=>kE o m n
  | false=>none
 | .o (.d (.v (.string ⟨⟨a⟩⟩))),.o (.d (.v (.string ⟨⟨b⟩⟩)))=>kD o a b
 | _,_=>none
def ay:IntKind->Int->Option Prop
 | .i64,m=>some (-9223372036854775808<=m/\m<=9223372036854775807)
 | .u64,m=>some (0<=m/\m<=18446744073709551615)
 | .u8,m=>some (0<=m/\m<=255)
 | .i32,m=>some (-2147483648<=m/\m<=2147483647)
 | _,_=>none
def ng(o:BinOp)(k:IntKind)(m n:Int):Option (Prop×E):=match o with
 | .add=>(ay k (m+n)).map λq=>(q,eI k (m+n))
 | .sub=>(ay k (m - n)).map λq=>(q,eI k (m - n))
 | .mul=>(ay k (m*n)).map λq=>(q,eI k (m*n))
 | .rem=>some (0<=m/\0 < n,eI k (m % n))
 | .and=>some (True,eI k (Gi k m n))
 | .or=>some (True,eI k (Gw k m n))
 | _=>none
def mr(o:BinOp):E->E->Option (Prop×E)
 | .o (.d (.v (.int k m))),.o (.d (.v (.int k' n)))=>match o with
  | .shr=>some (0<=n,eI k (m.fdiv (2 ^ (min n.toNat k.bits))))
  | .quo=>match j8 k .i64,j8 k' .i64 with
   | true,true=>some ((0<=m/\m<=9223372036854775807)/\0 < n,eI .i64 (m / n))
   | _,_=>none
  | o=>match j8 k k' with
   | true=>ng o k m n
   | false=>none
 | .o (.d (.v (.string ⟨⟨a⟩⟩))),.o (.d (.v (.string ⟨⟨b⟩⟩)))=>match o with
  | .add=>some (a.length+b.length<=9223372036854775807,eT (a++b))
  | _=>none
 | _,_=>none
def iX(off:Nat):E->Option E
 | .o (.d (.p cs))=>some (.o (.ip (cs.drop off)))
 | .o (.ptr id k i j)=>some (.o (.ptr id k i (j+off)))
 | _=>none
def mE(ag:Bool)(n:Nat):E->Option E
 | .o (.d (.p cs))=>match ag,cs with
  | false,c::_=>some (.o (.d c))
  | true,cs=>match Nat.ble n cs.length with
   | true=>some (.a ((cs.take n).map .d))
   | false=>none
  | _,_=>none
 | _=>none
def jg(ag:Bool)(n j:Nat)(r:List C):Option E:=match ag with
 | false=>(r[j]?).map .o
 | true=>match Nat.ble (j+n) r.length with
  | true=>some (.a ((r.drop j).take n))
  | false=>none
def mB(ag:Bool)(off n:Nat)(cs:List C):Option E:=match ag with
 | false=>(cs[off]?).map .o
 | true=>match Nat.ble (off+n) cs.length with
  | true=>some (.a ((cs.drop off).take n))
  | false=>none
def mD(k:Nat)(n:Int):E->Option E
 | .o (.d (.p cs))=>some (.o (.ip (cs.drop (n.toNat*k))))
 | .o (.ptr id k' i j)=>some (.o (.ptr id k' i (j+n.toNat*k)))
 | _=>none
def mF(k:Nat):E->Option E
 | .o (.d (.l rows))=>some (eI .i64 rows.length)
 | .o (.arr _ k' _ len)=>match Nat.beq k' k with
  | true=>some (eI .i64 len)
  | false=>none
 | _=>none
def tr:Option E->Option (Prop×E)
 | some e=>some (True,e)
 | none=>none
def jr:Bool->E->E->Option (Prop×E)
 | true,.o (.d (.p _)),.o (.d (.v (.pointer none)))=>some (True,eB false)
 | true,.o (.d (.v (.pointer none))),.o (.d (.v (.pointer none)))=>some (True,eB true)
 | _,_,_=>none
def kz(pt:Bool)(o:BinOp)(a b:E):Option (Prop×E):=match o with
 | .eql=>jr pt a b
 | o=>mr o a b
def jc(i:TI):E->E->Option (Prop×E)
 | .o (.arr id k off len),.o (.d (.v (.int _ m)))=>match i.sl with
  | some (_,k',_)=>match Nat.beq k k' with
   | true=>some (0<=m/\m < len,.o (.ptr id k (off+m.toNat) 0))
   | false=>none
  | none=>none
 | a, .o (.d (.v (.int _ m)))=>match i.ar with
  | some (len,k)=>match mD k m a with
   | some e=>some (0<=m/\m < len,e)
   | none=>none
  | none=>none
 | _,_=>none
def jj(i:TI):E->Option E
 | .o (.d (.v (.string ⟨⟨s⟩⟩)))=>match i.st with
  | true=>some (eI .i64 s.length)
  | false=>none
 | e=>match i.sl with
  | some (_,k,_)=>mF k e
  | none=>none
def iP(k k':IntKind):E->Option (Prop×E)
 | .o (.d (.v (.int a m)))=>match j8 a k,ay k' m with
  | true,some q=>some (q,eI k' m)
  | _,_=>none
 | _=>none
def dM(T:List (Nat×TI))(md:Bool)(f:Env):Op->Option (Prop×E)
 | .assign x=>match md,notNil x with
  | true,false=>none
  | _,_=>tr (ev f x)
 | .binOp o t x y _=>match ev f x,ev f y with
  | some a,some b=>kz (J0 T t).pt o a b
  | _,_=>none
 | .fieldAddr s x k=>match nth (J0 T s).fl k,ev f x with
  | some (some (off,_,_)),some a=>tr (iX off a)
  | _,_=>none
 | .field t x k=>match nth (J0 T t).fl k,ev f x with
  | some (some (off,ag,n)),some (.a cs)=>tr (mB ag off n cs)
  | _,_=>none
 | .load t x=>match (J0 T t).ld,ev f x with
  | some (ag,n),some a=>tr (mE ag n a)
  | _,_=>none
 | .indexAddr t x y=>match ev f x,ev f y with
  | some a,some b=>jc (J0 T t) a b
  | _,_=>none
 | .call ⟨.builtin .len,⟨[x]⟩,⟨[t]⟩⟩=>match ev f x with
  | some a=>tr (jj (J0 T t) a)
  | none=>none
 | .convert s t x=>match (J0 T s).ik,(J0 T t).ik,ev f x with
  | some k,some k',some a=>iP k k' a
  | _,_,_=>none
 | .makeFunc (.func gg) ⟨[]⟩ caps=>match JW f caps.toList with
  | some es=>match eM es with
   | some cs=>some (True,.o (.fn gg cs))
   | none=>none
  | none=>none
 | op=>tr (mA f op)
def nh:BinOp->E->E->Option Bool
 | .eql,.o (.d (.v (.bool a))),.o (.d (.v (.bool b)))=>some (a == b)
 | .neq,.o (.d (.v (.bool a))),.o (.d (.v (.bool b)))=>some (a != b)
 | _,_,_=>none
def U9(T:List (Nat×TI))(f:Env):Op->Option Bool
 | .binOp o t x y _=>match ev f x,ev f y with
  | some a,some b=>match (J0 T t).bo with
   | true=>nh o a b
   | false=>iO o a b
  | _,_=>none
 | .unOp .not _ x=>match ev f x with
  | some (.o (.d (.v (.bool b))))=>some (!b)
  | _=>none
 | _=>none
def NS(T:List (Nat×TI))(σ:Ab)(f:Env):Op->Option E
 | .load t x=>match (J0 T t).ld,ev f x with
  | some (ag,n),some (.o (.ptr id k i j))=>match look σ id with
   | some (.cells _ k' rows)=>match Nat.beq k k',nth rows i with
    | true,some r=>jg ag n j r
    | _,_=>none
   | _=>none
  | _,_=>none
 | _=>none
def RQ(T:List (Nat×TI))(σ:Ab)(f:Env)(t:Nat)(x y:Operand):Option Ab:=
 match (J0 T t).ld,ev f x,ev f y with
 | some (_,n),some (.o (.ptr id k i j)),some e=>match look σ id with
  | some (.cells ct k' rows)=>match Nat.beq k k',nth rows i with
   | true,some r=>match Ui e,Nat.beq (eC e).length n,Nat.ble (j+n) k with
    | true,true,true=>some ((id,.cells ct k (rows.set i (Ae r j (eC e))))::σ)
    | _,_,_=>none
   | _,_=>none
  | _=>none
 | _,_,_=>none
section
variable {P:Program}{TB:BF}{Γ:Ctx}{d:Option Tmp}{ty:TypeId}{pos:String}{af:Array Edge}{g:Option (Nat×Bool)}{f:Env}{σ:Ab}{nx:Nat}
theorem Y9{t:TypeId}{a b:Bool}(c:P.underlying t=some .bool)(w:World):(Op.equal t (.bool a) (.bool b)).run P w=.ok (a == b) w:=by
 unfold Op.equal Op.maxDepth;rw [show 10000=9999+1 from rfl,Op.equalIn];simp [run_underlying c,go_sem]
theorem lk{t yt:TypeId}{x y:Operand}{a b:Bool}[h:Sh P t](e:ev f x=some (eB a))(c:ev f y=some (eB b)):A6 P TB Γ ⟨d,.binOp .eql t x y yt,ty,pos,af,g⟩ f σ nx (eB (a == b)):=
 BP e c rfl λw=>by
  have j:binOp .eql t (.bool a) (.bool b)=(do pure (.bool (<-Op.equal t (.bool a) (.bool b)))):=rfl;have i:eqGuard .eql t x y (.bool a) (.bool b)=pure ():=rfl;rw [j,i];simp [Y9 h.out w,go_sem]
theorem lD{t yt:TypeId}{x y:Operand}{a b:Bool}[h:Sh P t](e:ev f x=some (eB a))(c:ev f y=some (eB b)):A6 P TB Γ ⟨d,.binOp .neq t x y yt,ty,pos,af,g⟩ f σ nx (eB (a != b)):=
 BP e c rfl λw=>by
  have j:binOp .neq t (.bool a) (.bool b)=(do pure (.bool (!(<-Op.equal t (.bool a) (.bool b))))):=rfl;have i:eqGuard .neq t x y (.bool a) (.bool b)=pure ():=rfl;rw [j,i];simp [Y9 h.out w,go_sem,bne]
theorem nT{op:Op}{e:E}(h:mA f op=some e):A6 P TB Γ ⟨d,op,ty,pos,af,g⟩ f σ nx e:=by
 unfold mA at h;split at h
 ·exact jE h
 ·split at h
  ·rename_i a;exact gv a h
  ·rename_i a;exact gu a h
  ·cases h
 ·split at h
  ·rename_i a
   refine ak a ?_;rw [<-h];congr 1
  ·cases h
 ·split at h
  ·rename_i a;injection h with h;subst h;exact gq a
  ·rename_i a;injection h with h;subst h;exact jF a
  ·rename_i a;injection h with h;subst h;exact gp a
  ·cases h
 ·cases h
theorem lh{o:BinOp}{t yt:TypeId}{x y:Operand}{ex ey:E}{c:Bool}(e:ev f x=some ex)(b:ev f y=some ey)(a:iO o ex ey=some c) :
 A6 P TB Γ ⟨d,.binOp o t x y yt,ty,pos,af,g⟩ f σ nx (eB c):=by
 unfold iO at a;split at a
 ·split at a
  ·rename_i hk
   have hk:=Pe hk;subst hk;unfold kE at a
   split at a<;>first|(injection a with a;subst a)|cases a
   ·exact lC e b
   ·exact lB e b
   ·exact lz e b
   ·exact lv e b
   ·exact lr e b
   ·exact lF e b
  ·cases a
 ·unfold kD at a
  split at a<;>first|(injection a with a;subst a)|cases a
  ·exact lp e b
  ·exact lE e b
 ·cases a
theorem Tt{k:IntKind}{m:Int}{q:Prop}(h:ay k m=some q)(a:q):k.wrap m=m:=by
 unfold ay at h
 split at h<;>first|(injection h with h;subst h)|cases h
 ·exact IntWalk.i64_in _ a
 ·exact IntWalk.u64_in _ a
 ·exact IntWalk.u8_in _ a
 ·exact IntWalk.i32_in _ a
theorem mK{o:BinOp}{t yt:TypeId}{x y:Operand}{ex ey e:E}{q:Prop}(j:ev f x=some ex)(i:ev f y=some ey)(a:mr o ex ey=some (q,e))(h:q) :
 A6 P TB Γ ⟨d,.binOp o t x y yt,ty,pos,af,g⟩ f σ nx e:=by
 unfold mr at a;split at a
 ·split at a
  ·injection a with a;injection a with c b;subst c;subst b;exact lJ j i h rfl
  ·split at a
   ·rename_i hk k
    have hk:=Pe hk;have k:=Pe k;subst hk;subst k
    injection a with a;injection a with c b;subst c;subst b;exact jH j i h.1.1 h.1.2 h.2
   ·cases a
  ·split at a
   ·rename_i hk
    have hk:=Pe hk;subst hk;unfold ng at a;split at a
    ·obtain⟨q',l,m⟩:=d7.1 a
     injection m with c b;subst c;subst b;exact lf j i (Tt l h)
    ·obtain⟨q',l,m⟩:=d7.1 a
     injection m with c b;subst c;subst b;exact lK j i (Tt l h)
    ·obtain⟨q',l,m⟩:=d7.1 a
     injection m with c b;subst c;subst b;exact il j i (Tt l h)
    ·injection a with a;injection a with c b;subst c;subst b;exact jI j i h.1 h.2
    ·injection a with a;injection a with c b;subst b;exact ij j i rfl
    ·injection a with a;injection a with c b;subst b;exact jG j i rfl
    ·cases a
   ·cases a
 ·split at a
  ·injection a with a;injection a with c b;subst c;subst b;exact lg j i h
  ·cases a
 ·cases a
theorem lu{s k off:Nat}{x:Operand}{ex e:E}[b:Si P s k off](a:ev f x=some ex)(h:iX off ex=some e):A6 P TB Γ ⟨d,.fieldAddr s x k,ty,pos,af,g⟩ f σ nx e:=by
 unfold iX at h
 split at h<;>first|(injection h with h;subst h)|cases h
 ·exact ao a
 ·exact dw a
theorem mO{t:TypeId}{x:Operand}{ex e:E}{ag:Bool}{n:Nat}[b:DV P t ag n](a:ev f x=some ex)(h:mE ag n ex=some e):A6 P TB Γ ⟨d,.load t x,ty,pos,af,g⟩ f σ nx e:=by
 unfold mE at h;split at h
 ·split at h
  ·injection h with h;subst h;exact U0 a
  ·split at h
   ·rename_i hb;injection h with h;subst h;exact av a (am hb)
   ·cases h
  ·cases h
 ·cases h
theorem YU{t:TypeId}{x:Operand}{id k i j:Nat}{T:TypeId}{rows:List (List C)}{r:List C}{e:E}{ag:Bool}{n:Nat}[q:DV P t ag n](a:ev f x=some (.o (.ptr id k i j)))(l:look σ id=some (.cells T k rows))(b:rows[i]? = some r)
 (h:jg ag n j r=some e):A6 P TB Γ ⟨d,.load t x,ty,pos,af,g⟩ f σ nx e:=by
 unfold jg at h;split at h
 ·obtain⟨c,p,m⟩:=d7.1 h
  subst m;exact Tl a l b p
 ·split at h
  ·rename_i hb;injection h with h;subst h;exact dG a l b (am hb)
  ·cases h
theorem mM{t:TypeId}{x:Operand}{k off n:Nat}{ag:Bool}{cs:List C}{e:E}[l:Oj P t k off ag n](b:ev f x=some (.a cs))(h:mB ag off n cs=some e):A6 P TB Γ ⟨d,.field t x k,ty,pos,af,g⟩ f σ nx e:=by
 unfold mB at h;split at h
 ·obtain⟨c,j,i⟩:=d7.1 h
  subst i;exact gm b j
 ·split at h
  ·rename_i hb;injection h with h;subst h;exact dv b (am hb)
  ·cases h
theorem mN{t:TypeId}{x y:Operand}{ex e:E}{n:Int}{len k:Nat}{ik:IntKind}[i:QO P t len k](c:ev f x=some ex)(b:ev f y=some (eI ik n))(h:mD k n ex=some e)(a:0<=n/\n < len) :
 A6 P TB Γ ⟨d,.indexAddr t x y,ty,pos,af,g⟩ f σ nx e:=by
 unfold mD at h
 split at h<;>first|(injection h with h;subst h)|cases h
 ·exact aq c b a.1 a.2
 ·exact dC c b a.1 a.2
theorem lA{t e:TypeId}{x:Operand}{ex r:E}{k b:Nat}[c:CS P t e k b](a:ev f x=some ex)(h:mF k ex=some r):A6 P TB Γ ⟨d,.call ⟨.builtin .len,#[x],#[t]⟩,ty,pos,af,g⟩ f σ nx r:=by
 unfold mF at h;split at h
 ·injection h with h;subst h;exact dF a
 ·split at h
  ·injection h with h;subst h;exact jA a
  ·cases h
 ·cases h
theorem Ns{x:Option E}{q:Prop}{e:E}(h:tr x=some (q,e)):x=some e:=by
 cases x with
 | none=>cases h
 | some y=>injection h with h;injection h with _ h;rw [h]
theorem jk{i:TI}{t:TypeId}{x:Operand}{a e:E}(hi:Fa P t i)(b:ev f x=some a)(h:jj i a=some e):A6 P TB Γ ⟨d,.call ⟨.builtin .len,#[x],#[t]⟩,ty,pos,af,g⟩ f σ nx e:=by
 unfold jj at h;split at h
 ·split at h
  ·rename_i hs
   injection h with h;subst h
   haveI:=hi.cr hs;exact jD b
  ·cases h
 ·split at h
  ·rename_i hs
   haveI:=hi.Ut hs;exact lA b h
  ·cases h
theorem je{i:TI}{t:TypeId}{x y:Operand}{a b e:E}{q:Prop}(hi:Fa P t i)(m:ev f x=some a)(l:ev f y=some b)(h:jc i a b=some (q,e))(c:q):A6 P TB Γ ⟨d,.indexAddr t x y,ty,pos,af,g⟩ f σ nx e:=by
 unfold jc at h;split at h
 ·split at h
  ·rename_i hs
   split at h
   ·rename_i hk
    injection h with h;injection h with k j;subst k;subst j
    have:=i7 hk;subst this;haveI:=hi.Ut hs;exact dy m l c.1 c.2
   ·cases h
  ·cases h
 ·split at h
  ·rename_i hs
   split at h
   ·rename_i n
    injection h with h;injection h with k j;subst k;subst j
    haveI:=hi.kL hs;exact mN m l n c
   ·cases h
  ·cases h
 ·cases h
theorem js{i:TI}{t yt:TypeId}{x y:Operand}{a b e:E}{q:Prop}(hi:Fa P t i)(l:ev f x=some a)(k:ev f y=some b)(h:jr i.pt a b=some (q,e)):A6 P TB Γ ⟨d,.binOp .eql t x y yt,ty,pos,af,g⟩ f σ nx e:=by
 unfold jr at h;split at h
 ·rename_i c
  injection h with h;injection h with m j;subst j
  haveI:=hi.cn c;exact aj l k
 ·rename_i c
  injection h with h;injection h with m j;subst j
  haveI:=hi.cn c;exact Xk l k
 ·cases h
theorem iQ{i i':TI}{s t:TypeId}{k k':IntKind}{x:Operand}{a e:E}{q:Prop}(hi:Fa P s i)(c:Fa P t i')(hk:i.ik=some k)(b:i'.ik=some k')(l:ev f x=some a)(h:iP k k' a=some (q,e))(n:q):A6 P TB Γ ⟨d,.convert s t x,ty,pos,af,g⟩ f σ nx e:=by
 unfold iP at h;split at h
 ·split at h
  ·rename_i j m
   injection h with h;injection h with p o;subst p;subst o
   have j:=Pe j;subst j;haveI:=hi.cm hk;haveI:=c.cm b;exact Tj l (Tt m n)
  ·cases h
 ·cases h
theorem Y3[n:Db P]{md:Bool}{op:Op}{q:Prop}{e:E}(h:dM n.T md f op=some (q,e))(i:q):A6 P TB Γ ⟨d,op,ty,pos,af,g⟩ f σ nx e:=by
 have a:=λt=>Ec (P:=P) t n.ok;unfold dM at h;split at h
 ·split at h
  ·cases h
  ·exact CJ (Ns h)
 ·rename_i o t x y yt
  split at h
  ·rename_i b c
   unfold kz at h;split at h
   ·exact js (a t) b c h
   ·exact mK b c h i
  ·cases h
 ·rename_i s x k
  split at h
  ·rename_i j b
   haveI:=(a s).iZ j;exact lu b (Ns h)
  ·cases h
 ·rename_i t x k
  split at h
  ·rename_i j b
   haveI:=(a t).fE j;exact mM b (Ns h)
  ·cases h
 ·rename_i t x
  split at h
  ·rename_i p b
   haveI:=(a t).NH p;exact mO b (Ns h)
  ·cases h
 ·rename_i t x y
  split at h
  ·rename_i b c
   exact je (a t) b c h i
  ·cases h
 ·rename_i x t
  split at h
  ·rename_i b
   exact jk (a t) b (Ns h)
  ·cases h
 ·rename_i s t x
  split at h
  ·rename_i m l b
   exact iQ (a s) (a t) m l b h i
  ·cases h
 ·split at h
  ·rename_i m
   split at h
   ·rename_i l
    injection h with h;injection h with _ h;subst h
    exact mL m l
   ·cases h
  ·cases h
 ·exact nT (Ns h)
theorem Vi[i:Db P]{op:Op}{c:Bool}(h:U9 i.T f op=some c):A6 P TB Γ ⟨d,op,ty,pos,af,g⟩ f σ nx (eB c):=by
 have e:=λt=>Ec (P:=P) t i.ok;unfold U9 at h;split at h
 ·rename_i o t x y yt
  split at h
  ·rename_i a b
   split at h
   ·rename_i hb
    haveI:=(e t).fD hb;unfold nh at h;split at h
    ·injection h with h;subst h;exact lk a b
    ·injection h with h;subst h;exact lD a b
    ·cases h
   ·exact lh a b h
  ·cases h
 ·split at h
  ·rename_i a
   injection h with h;subst h
   exact lG a
  ·cases h
 ·cases h
theorem PG[c:Db P]{op:Op}{e:E}(h:NS c.T σ f op=some e):A6 P TB Γ ⟨d,op,ty,pos,af,g⟩ f σ nx e:=by
 have a:=λt=>Ec (P:=P) t c.ok;unfold NS at h;split at h
 ·rename_i t x
  split at h
  ·rename_i k i
   split at h
   ·rename_i j
    split at h
    ·rename_i hk b
     have hk:=i7 hk;subst hk;haveI:=(a t).NH k;rw [Oz] at b;exact YU i j b h
    ·cases h
   ·cases h
  ·cases h
 ·cases h
theorem PH[c:Db P]{t:TypeId}{x y:Operand}{σ':Ab}{K:E->Ab->Nat->Prop}(h:RQ c.T σ f t x y=some σ')(l:K (.t []) σ' nx):Cz P TB Γ ⟨d,.store t x y,ty,pos,af,g⟩ f σ nx K:=by
 have a:=λt=>Ec (P:=P) t c.ok;unfold RQ at h;split at h
 ·rename_i k i e
  split at h
  ·rename_i j
   split at h
   ·rename_i hk b
    split at h
    ·rename_i o n m
     have hk:=i7 hk;subst hk;haveI:=(a t).NH k;rw [Oz] at b
     injection h with h
     subst h;exact Eo i e o j b (i7 n) (am m) l
    ·cases h
   ·cases h
  ·cases h
 ·cases h
end
section
variable {P:Program}{TB:BF}{Γ:Ctx}{ops:Array Oper}{fl:Fl}{i n:Nat}{L:List (Nat×E)}{σ:Ab}{nx:Nat}{K:Env->Ab->Nat->Prop}{d:Tmp}{ty:TypeId}{pos:String}{af:Array Edge}{g:Option (Nat×Bool)}{op:Op}
theorem gA{d:Option Tmp}(hg:BD ops ⟨d,op,ty,pos,af,g⟩ (look L)=some true)(h:GF P TB Γ ops ⟨d,op,ty,pos,af,g⟩ fl i n K L σ nx):Bv P TB Γ ops ⟨d,op,ty,pos,af,g⟩ fl i n K L σ nx:=h hg
theorem gS{x:E}(a:∀σ nx,A6 P TB Γ ⟨some d,op,ty,pos,af,g⟩ (look L) σ nx x)(h:Lex P TB Γ ops (Av fl (i+1) n) K (look ((d,x)::L)) σ nx):GF P TB Γ ops ⟨some d,op,ty,pos,af,g⟩ fl i n K L σ nx:=λhg=>CE a hg h
theorem gQ{x:E}(a:A6 P TB Γ ⟨some d,op,ty,pos,af,g⟩ (look L) σ nx x)(b:Sq (fl i)=true)(h:Lex P TB Γ ops (Av fl (i+1) n) K (look ((d,x)::L)) σ nx):GF P TB Γ ops ⟨some d,op,ty,pos,af,g⟩ fl i n K L σ nx:=λhg=>gj a hg b h
theorem gB{c:Bool}(a:∀σ nx,A6 P TB Γ ⟨some d,op,ty,pos,af,g⟩ (look L) σ nx (eB c))(h:∀b,c=b->Lex P TB Γ ops (Av fl (i+1) n) K (look ((d,eB b)::L)) σ nx):GF P TB Γ ops ⟨some d,op,ty,pos,af,g⟩ fl i n K L σ nx:=λhg=>ah a hg h
theorem nq{c:Bool}(a:A6 P TB Γ ⟨some d,op,ty,pos,af,g⟩ (look L) σ nx (eB c))(e:Sq (fl i)=true)(h:∀b,c=b->Lex P TB Γ ops (Av fl (i+1) n) K (look ((d,eB b)::L)) σ nx):GF P TB Γ ops ⟨some d,op,ty,pos,af,g⟩ fl i n K L σ nx:=λhg=>gj a hg e (h c rfl)
theorem gW(h:Cz P TB Γ ⟨some d,op,ty,pos,af,g⟩ (look L) σ nx (λx σ' nx'=>Lex P TB Γ ops (Av fl (i+1) n) K (look ((d,x)::L)) σ' nx'))(a:fl i=1):GF P TB Γ ops ⟨some d,op,ty,pos,af,g⟩ fl i n K L σ nx:=λhg=>JY h hg a
theorem nr(h:Cz P TB Γ ⟨none,op,ty,pos,af,g⟩ (look L) σ nx (λ_ σ' nx'=>Lex P TB Γ ops (Av fl (i+1) n) K (look L) σ' nx'))(a:fl i=1):GF P TB Γ ops ⟨none,op,ty,pos,af,g⟩ fl i n K L σ nx:=λhg=>HV h hg a
theorem yQ{md:Bool}[b:Db P]{q:Prop}{x:E}(h:dM b.T md (look L) op=some (q,x))(a:q)(hk:Lex P TB Γ ops (Av fl (i+1) n) K (look ((d,x)::L)) σ nx):GF P TB Γ ops ⟨some d,op,ty,pos,af,g⟩ fl i n K L σ nx:=gS (λ_ _=>Y3 h a) hk
theorem yB[a:Db P]{c:Bool}(h:U9 a.T (look L) op=some c)(hk:∀b,c=b->Lex P TB Γ ops (Av fl (i+1) n) K (look ((d,eB b)::L)) σ nx):GF P TB Γ ops ⟨some d,op,ty,pos,af,g⟩ fl i n K L σ nx:=gB (λ_ _=>Vi h) hk
theorem yS[b:Db P]{x:E}(h:NS b.T σ (look L) op=some x)(a:Sq (fl i)=true)(hk:Lex P TB Γ ops (Av fl (i+1) n) K (look ((d,x)::L)) σ nx):GF P TB Γ ops ⟨some d,op,ty,pos,af,g⟩ fl i n K L σ nx:=gQ (PG h) a hk
theorem yW[b:Db P]{t:TypeId}{x y:Operand}{σ':Ab}(h:RQ b.T σ (look L) t x y=some σ')(a:fl i=1)(hk:Lex P TB Γ ops (Av fl (i+1) n) K (look L) σ' nx):GF P TB Γ ops ⟨none,.store t x y,ty,pos,af,g⟩ fl i n K L σ nx:=nr (PH h hk) a
theorem yO[b:Db P]{T:TypeId}{z:List Value}(h:(J0 b.T T).ze=some z)(a:z.all Qk=true)(c:fl i=1)(e:Lex P TB Γ ops (Av fl (i+1) n) K (look ((d,.o (.ptr nx z.length 0 0))::L)) ((nx,.cells T z.length [z.map zC])::σ) (nx+1)):GF P TB Γ ops ⟨some d,.alloc T,ty,pos,af,g⟩ fl i n K L σ nx:=
 haveI:=(Ec (P:=P) T b.ok).cu h
 gW (fV a e) c
theorem yM[a:Db P]{t:TypeId}{x:Operand}{id k i' j:Nat}{T:TypeId}{rows:List (List C)}{r:List C}{e:E}{ag:Bool}{m:Nat}(b:ev (look L) x=some (.o (.ptr id k i' j)))(f:look σ id=some (.cells T k rows))(c:rows[i']? = some r)(l:(J0 a.T t).ld=some (ag,m))
 (h:jg ag m j r=some e) (p:Sq (fl i)=true) (hk:Lex P TB Γ ops (Av fl (i+1) n) K (look ((d,e)::L)) σ nx):GF P TB Γ ops ⟨some d,.load t x,ty,pos,af,g⟩ fl i n K L σ nx:=
 haveI:=(Ec (P:=P) t a.ok).NH l
 gQ (YU b f c h) p hk
theorem yV[b:Db P]{t:TypeId}{x y:Operand}{id k i' j m:Nat}{T:TypeId}{rows:List (List C)}{r:List C}{e:E}{ag:Bool}(d:ev (look L) x=some (.o (.ptr id k i' j)))(c:ev (look L) y=some e)(h:Ui e=true)(a:look σ id=some (.cells T k rows))(f:rows[i']? = some r)
 (p:(J0 b.T t).ld=some (ag,m)) (l:(eC e).length=m) (q:Nat.ble (j+m) k=true) (s:fl i=1) (hk:Lex P TB Γ ops (Av fl (i+1) n) K (look L) ((id,.cells T k (rows.set i' (Ae r j (eC e))))::σ) nx):GF P TB Γ ops ⟨none,.store t x y,ty,pos,af,g⟩ fl i n K L σ nx:=
 haveI:=(Ec (P:=P) t b.ok).NH p
 nr (Eo d c h a f l (am q) hk) s
theorem nW[a:Db P]{α:Type}{t e:TypeId}{x:Operand}{l:List α}{h:α->List D}{k b:Nat}(c:ev (look L) x=some (.o (.d (.l (l.map h)))))(f:(J0 a.T t).sl=some (e,k,b))(hk:Lex P TB Γ ops (Av fl (i+1) n) K (look ((d,eI .i64 l.length)::L)) σ nx):GF P TB Γ ops ⟨some d,.call ⟨.builtin .len,#[x],#[t]⟩,ty,pos,af,g⟩ fl i n K L σ nx:=
 haveI:=(Ec (P:=P) t a.ok).Ut f
 gS (λ_ _=>jB c) hk
theorem yL[a:Db P]{t e:TypeId}{x y:Operand}{rows:List (List D)}{row:List D}{m:Int}{k b:Nat}{ik:IntKind}(f:ev (look L) x=some (.o (.d (.l rows))))(c:ev (look L) y=some (eI ik m))(h:rows[m.toNat]? = some row)(p:(J0 a.T t).sl=some (e,k,b))(j:row.length=k)(q:0<=m)
 (hk:Lex P TB Γ ops (Av fl (i+1) n) K (look ((d,.o (.ip row))::L)) σ nx):GF P TB Γ ops ⟨some d,.indexAddr t x y,ty,pos,af,g⟩ fl i n K L σ nx:=
 haveI:=(Ec (P:=P) t a.ok).Ut p
 gS (λ_ _=>dB f c q h j) hk
theorem yT[a:Db P]{t:TypeId}{x y:Operand}{s:List UInt8}{m:Int}{c:UInt8}{ik:IntKind}(e:ev (look L) x=some (eT s))(b:ev (look L) y=some (eI ik m))(h:s[m.toNat]? = some c)(f:(J0 a.T t).st=true)(j:0<=m)
 (hk:Lex P TB Γ ops (Av fl (i+1) n) K (look ((d,eI .u8 (c.toNat:Int))::L)) σ nx):GF P TB Γ ops ⟨some d,.index t x y,ty,pos,af,g⟩ fl i n K L σ nx:=
 haveI:=(Ec (P:=P) t a.ok).cr f
 gS (λ_ _=>dE e b j h) hk
def mR(k m:Nat)(z:List Value)(es:List E):Option (List (List D)):=match es.all Ui,Qc es with
 | true,some rows=>match rows.all λr=>Nat.beq r.length k,Nat.beq z.length k,z.all Qk,Nat.ble 1 k,Nat.ble (m*k) 16777216 with
  | true,true,true,true,true=>some rows
  | _,_,_,_,_=>none
 | _,_=>none
theorem yZ[c:Db P]{t e:TypeId}{k b m:Nat}{z:List Value}{parts:Array (Nat×Operand)}{es:List E}{rows:List (List D)}(r:(J0 c.T t).sl=some (e,k,b))(j:(J0 c.T e).ze=some z)(p:Dz 0 (parts.toList.map (·.2))=parts.toList)(q:parts.toList.length=m)
 (f:JW (look L) (parts.toList.map (·.2))=some es) (a:mR k m z es=some rows)
 (h:Lex P TB Γ ops (Av fl (i+1) n) K (look ((d,.o (.d (.l rows)))::L)) σ nx):GF P TB Γ ops ⟨some d,.buildSlice t m parts,ty,pos,af,g⟩ fl i n K L σ nx:=by
 haveI:=(Ec (P:=P) t c.ok).Ut r;haveI:=(Ec (P:=P) e c.ok).cu j;unfold mR at a;split at a
 ·rename_i A y
  split at a
  ·rename_i x w v u s
   injection a with a
   subst a;exact gS (λ_ _=>PC p q f A y x (i7 w) v u s) h
  ·cases a
 ·cases a
theorem yY{T:TypeId}{x:Operand}{e:E}{ds:List D}(a:ev (look L) x=some e)(b:Ui e=true)(c:QN (eC e)=some ds)(h:Lex P TB Γ ops (Av fl (i+1) n) K (look ((d,.o (.ip ds))::L)) σ nx):GF P TB Γ ops ⟨some d,.box T x,ty,pos,af,g⟩ fl i n K L σ nx:=gS (λ_ _=>C7 a b c) h
def fY:Nat->List (Nat×Operand)->Bool
 | _,[]=>true
 | k,(i,_)::r=>Nat.beq i k && fY (k+1) r
theorem YL:∀(l:List (Nat×Operand)) (k:Nat),fY k l=true->Dz k (l.map (·.2))=l
 | [],_,_=>rfl
 | (i,x)::r,k,h=>by
  unfold fY at h;rw [d4] at h;have a:=i7 h.1;subst a;have:=YL r (i+1) h.2;simp [Dz,this]
def gb(c:Nat):Option E->Bool
 | some (.o (.ptr id _ _ _))=>Sq c || (Nat.beq c (10+id) && !Nat.ble 1000 c)
 | _=>Sq c
theorem dN{T:List (Nat×TI)}{σ σ':Ab}{f:Env}{t:TypeId}{x:Operand}{id k i j:Nat}(a:ev f x=some (.o (.ptr id k i j)))(h:look σ' id=look σ id):NS T σ' f (.load t x)=NS T σ f (.load t x):=by
 unfold NS;simp only [a]
 cases (J0 T t).ld with
 | none=>rfl
 | some p=>obtain⟨ag,n⟩:=p;simp only [h]
def Y0(T:List (Nat×TI))(sl:Bool)(c nx:Nat)(σ:Ab)(L:List (Nat×E)):Option Tmp->Op->Option (List (Nat×E)×Ab×Nat)
 | some d,.alloc t=>match Nat.beq c 1,(J0 T t).ze with
  | true,some z=>match z.all Qk with
   | true=>some ((d,.o (.ptr nx z.length 0 0))::L,(nx,.cells t z.length [z.map zC])::σ,nx+1)
   | false=>none
  | _,_=>none
 | none,.store t x y=>match Nat.beq c 1,RQ T σ (look L) t x y with
  | true,some σ'=>some (L,σ',nx)
  | _,_=>none
 | some d,.load t x=>match gb c (ev (look L) x),NS T σ (look L) (.load t x) with
  | true,some e=>some ((d,e)::L,σ,nx)
  | _,_=>none
 | some d,.box _ x=>match sl,ev (look L) x with
  | true,some e=>match Ui e,QN (eC e) with
   | true,some ds=>some ((d,.o (.ip ds))::L,σ,nx)
   | _,_=>none
  | _,_=>none
 | some d,.buildSlice t m parts=>match sl,(J0 T t).sl with
  | true,some (e,k,_)=>match (J0 T e).ze,JW (look L) (parts.toList.map (·.2)) with
   | some z,some es=>match mR k m z es,fY 0 parts.toList,Nat.beq parts.toList.length m with
    | some rows,true,true=>some ((d,.o (.d (.l rows)))::L,σ,nx)
    | _,_,_=>none
   | _,_=>none
  | _,_=>none
 | _,_=>none
theorem yU[l:Db P]{sl:Bool}{d:Option Tmp}{L':List (Nat×E)}{σ':Ab}{nx':Nat}(h:Y0 l.T sl (fl i) nx σ L d op=some (L',σ',nx'))(hk:Lex P TB Γ ops (Av fl (i+1) n) K (look L') σ' nx'):GF P TB Γ ops ⟨d,op,ty,pos,af,g⟩ fl i n K L σ nx:=by
 unfold Y0 at h;split at h
 ·split at h
  ·rename_i a b
   split at h
   ·rename_i j
    injection h with h;injection h with f h;injection h with e c;subst f;subst e;subst c
    exact yO b j (i7 a) hk
   ·cases h
  ·cases h
 ·split at h
  ·rename_i a b
   injection h with h;injection h with f h;injection h with e c;subst f;subst e;subst c
   exact yW b (i7 a) hk
  ·cases h
 ·split at h
  ·rename_i a b
   injection h with h;injection h with f h;injection h with e c;subst f;subst e;subst c
   unfold gb at a;split at a
   ·rename_i k
    rw [og] at a
    rcases a with a|a
    ·exact yS b a hk
    ·rw [d4] at a
     have j:=i7 a.1;refine λhg=>k8 (λσ' nx' hs=>PG (by rw [j,Nat.add_sub_cancel_left] at hs;rw [dN (σ:=σ) (σ':=σ') k hs];exact b)) hg ⟨qD (by omega),by simpa using a.2⟩ hk
   ·exact yS b a hk
  ·cases h
 ·split at h
  ·rename_i a
   split at h
   ·rename_i b j
    injection h with h;injection h with f h;injection h with e c;subst f;subst e;subst c
    exact yY a b j hk
   ·cases h
  ·cases h
 ·split at h
  ·rename_i a
   split at h
   ·rename_i b j
    split at h
    ·rename_i p o m
     injection h with h;injection h with f h;injection h with e c;subst f;subst e;subst c
     exact yZ a b (YL _ _ o) (i7 m) j p hk
    ·cases h
   ·cases h
  ·cases h
 ·cases h
theorem yP{x:Operand}{args:Array Operand}{tys:Array TypeId}{gg:FuncId}{cap:List C}{es:List E}{r:E}(b:ev (look L) x=some (.o (.fn gg cap)))(a:JW (look L) args.toList=some es)(e:(es.all E.Cm && C.Dl cap)=true)
 (hs:Pure P TB gg (es++cap.map .o) r) (c:r.Cm=true) (h:Lex P TB Γ ops (Av fl (i+1) n) K (look ((d,r)::L)) σ nx):GF P TB Γ ops ⟨some d,.call ⟨.value x,args,tys⟩,ty,pos,af,g⟩ fl i n K L σ nx:=gS (λ_ _=>Bt b a e hs c) h
theorem yC{x:Operand}{args:Array Operand}{tys:Array TypeId}{gg:FuncId}{cap:List C}{es:List E}{c:Bool}(e:ev (look L) x=some (.o (.fn gg cap)))(a:JW (look L) args.toList=some es)(f:(es.all E.Cm && C.Dl cap)=true)
 (hs:Pure P TB gg (es++cap.map .o) (eB c)) (h:∀b,c=b->Lex P TB Γ ops (Av fl (i+1) n) K (look ((d,eB b)::L)) σ nx):GF P TB Γ ops ⟨some d,.call ⟨.value x,args,tys⟩,ty,pos,af,g⟩ fl i n K L σ nx:=gB (λ_ _=>Bt e a f hs rfl) h
end
abbrev Gv:=Prop×List (Nat×E)×Ab×Nat
def iq(T : List (Nat×TI))(md sl:Bool)(ops:Array Oper)(fl:Fl)(i:Nat)(L:List (Nat×E))(σ:Ab)(nx:Nat):Option Gv:=
 match Pw ops.toList (fl.p i) with
 | some ⟨ds,op,ty,pos,af,g⟩=>match BD ops ⟨ds,op,ty,pos,af,g⟩ (look L) with
  | some true=>match ds with
   | some d=>match dM T md (look L) op with
    | some (q,e)=>some (q,(d,e)::L,σ,nx)
    | none=>match Y0 T sl (fl i) nx σ L (some d) op with
     | some (L',σ',nx')=>some (True,L',σ',nx')
     | none=>none
   | none=>match Y0 T sl (fl i) nx σ L none op with
    | some (L',σ',nx')=>some (True,L',σ',nx')
    | none=>none
  | some false=>match ds with
   | some d=>some (True,(d,.t [])::L,σ,nx)
   | none=>some (True,L,σ,nx)
  | none=>none
 | none=>none
def jv(ops:Array Oper)(fl:Fl)(i:Nat)(L:List (Nat×E)):Option (Option Tmp×Op):=match Pw ops.toList (fl.p i) with
 | some ⟨ds,op,ty,pos,af,g⟩=>match BD ops ⟨ds,op,ty,pos,af,g⟩ (look L) with
  | some true=>some (ds,op)
  | _=>none
 | none=>none
def nu(T:List (Nat×TI))(ops:Array Oper)(fl:Fl)(i:Nat)(L:List (Nat×E)):Option (Nat×List (List D)):=match jv ops fl i L with
 | some (some d,.call ⟨.builtin .len,⟨[x]⟩,⟨[t]⟩⟩)=>match (J0 T t).sl,ev (look L) x with
  | some _,some (.o (.d (.l rows)))=>some (d,rows)
  | _,_=>none
 | _=>none
structure As where
 β:Type
 l:List β
 m:Nat
 k:β->Option Gv
def mu(T : List (Nat×TI))(ops:Array Oper)(fl:Fl)(i:Nat)(L:List (Nat×E))(σ:Ab)(nx:Nat):Option As:=match jv ops fl i L with
 | some (some d,.indexAddr t x y)=>match (J0 T t).sl,ev (look L) x,ev (look L) y with
  | some (_,k,_),some (.o (.d (.l rows))),some (.o (.d (.v (.int _ m))))=>some ⟨List D,rows,m.toNat,λr=>match Nat.beq r.length k with
   | true=>some (0<=m,(d,.o (.ip r))::L,σ,nx)
   | false=>none⟩
  | _,_,_=>none
 | some (some d,.index t x y)=>match (J0 T t).st,ev (look L) x,ev (look L) y with
  | true,some (.o (.d (.v (.string ⟨⟨s⟩⟩)))),some (.o (.d (.v (.int _ m))))=>some ⟨UInt8,s,m.toNat,λc=>some (0<=m,(d,eI .u8 (c.toNat:Int))::L,σ,nx)⟩
  | _,_,_=>none
 | some (some d,.load t x)=>match (J0 T t).ld,ev (look L) x with
  | some (ag,m),some (.o (.ptr id k i' j))=>match look σ id with
   | some (.cells _ k' rows)=>match Nat.beq k k',gb (fl i) (some (.o (.ptr id k i' j))) with
    | true,true=>some ⟨List C,rows,i',λr=>match jg ag m j r with
     | some e=>some (True,(d,e)::L,σ,nx)
     | none=>none⟩
    | _,_=>none
   | _=>none
  | _,_=>none
 | some (none,.store t x y)=>match (J0 T t).ld,ev (look L) x,ev (look L) y with
  | some (_,m),some (.o (.ptr id k i' j)),some e=>match look σ id with
   | some (.cells ct k' rows)=>match Nat.beq k k',Nat.beq (fl i) 1,Ui e,Nat.beq (eC e).length m,Nat.ble (j+m) k with
    | true,true,true,true,true=>some ⟨List C,rows,i',λr=>some (True,L,(id,.cells ct k (rows.set i' (Ae r j (eC e))))::σ,nx)⟩
    | _,_,_,_,_=>none
   | _=>none
  | _,_,_=>none
 | _=>none
def nI(T:List (Nat×TI))(ops:Array Oper)(fl:Fl)(i:Nat)(L:List (Nat×E)):Option (Nat×Bool):=match jv ops fl i L with
 | some (some d,op)=>match U9 T (look L) op with
  | some c=>some (d,c)
  | none=>none
 | _=>none
def nQ(ops:Array Oper)(fl:Fl)(i:Nat)(L:List (Nat×E)):Option Bool:=match Pw ops.toList (fl.p i) with
 | some ⟨_,_,_,_,_,some (j,_)⟩=>match (ops[j]?).bind (·.dst) with
  | some t=>match look L t with
   | some (.o (.d (.v (.bool b))))=>some b
   | _=>none
  | none=>none
 | _=>none
def l5(ops:Array Oper)(fl:Fl)(i:Nat)(L:List (Nat×E)):Option (Nat×FuncId×List E):=match jv ops fl i L with
 | some (some d,.call ⟨.value x,args,_⟩)=>match ev (look L) x,JW (look L) args.toList with
  | some (.o (.fn gg cap)),some es=>match es.all E.Cm && C.Dl cap with
   | true=>some (d,gg,es++cap.map .o)
   | false=>none
  | _,_=>none
 | _=>none
section
variable {P:Program}{TB:BF}{Γ:Ctx}{ops:Array Oper}{fl:Fl}{i n:Nat}{L L':List (Nat×E)}{σ σ':Ab}{nx nx' d:Nat}{K:Env->Ab->Nat->Prop}
theorem Iu{ds:Option Tmp}{op:Op}(h:jv ops fl i L=some (ds,op))(k:∀ty pos af g,GF P TB Γ ops ⟨ds,op,ty,pos,af,g⟩ fl i n K L σ nx):Lex P TB Γ ops (Av fl i (n+1)) K (look L) σ nx:=by
 unfold jv at h;split at h
 ·rename_i a
  split at h
  ·rename_i hg
   injection h with h;injection h with c b;subst c;subst b
   exact Af a (k _ _ _ _ hg)
  ·cases h
 ·cases h
theorem s1{md sl:Bool}[j:Db P]{q:Prop}(h:iq j.T md sl ops fl i L σ nx=some (q,L',σ',nx'))(g:q)(hk:Lex P TB Γ ops (Av fl (i+1) n) K (look L') σ' nx'):Lex P TB Γ ops (Av fl i (n+1)) K (look L) σ nx:=by
 unfold iq at h;split at h
 ·rename_i a
  split at h
  ·rename_i hg
   split at h
   ·split at h
    ·rename_i f
     injection h with h;injection h with e h;injection h with d h;injection h with c b;subst e;subst d;subst c;subst b
     exact Af a (yQ f g hk hg)
    ·split at h
     ·rename_i f
      injection h with h;injection h with e h;injection h with d h;injection h with c b;subst e;subst d;subst c;subst b
      exact Af a (yU f hk hg)
     ·cases h
   ·split at h
    ·rename_i f
     injection h with h;injection h with e h;injection h with d h;injection h with c b;subst e;subst d;subst c;subst b
     exact Af a (yU f hk hg)
    ·cases h
  ·rename_i hg
   split at h
   ·injection h with h;injection h with e h;injection h with d h;injection h with c b;subst e;subst d;subst c;subst b
    exact Af a (λa=>dk a hg (by rw [EF];exact hk))
   ·injection h with h;injection h with e h;injection h with d h;injection h with c b;subst e;subst d;subst c;subst b
    exact Af a (λa=>dk a hg hk)
  ·cases h
 ·cases h
theorem sA[b:Db P]{q:Prop}(h:iq b.T false true ops fl i L σ nx=some (q,L',σ',nx'))(a:q)(hk:Lex P TB Γ ops (Av fl (i+1) n) K (look L') σ' nx'):Lex P TB Γ ops (Av fl i (n+1)) K (look L) σ nx:=s1 h a hk
theorem sM[b:Db P]{q:Prop}(h:iq b.T true false ops fl i L σ nx=some (q,L',σ',nx'))(a:q)(hk:Lex P TB Γ ops (Av fl (i+1) n) K (look L') σ' nx'):Lex P TB Γ ops (Av fl i (n+1)) K (look L) σ nx:=s1 h a hk
theorem sX[b:Db P]{q:Prop}(h:iq b.T false false ops fl i L σ nx=some (q,L',σ',nx'))(a:q)(hk:Lex P TB Γ ops (Av fl (i+1) n) K (look L') σ' nx'):Lex P TB Γ ops (Av fl i (n+1)) K (look L) σ nx:=s1 h a hk
theorem sN[e:Db P]{α:Type}{l:List α}{f:α->List D}(h:nu e.T ops fl i L=some (d,l.map f))(hk:Lex P TB Γ ops (Av fl (i+1) n) K (look ((d,eI .i64 l.length)::L)) σ nx):Lex P TB Γ ops (Av fl i (n+1)) K (look L) σ nx:=by
 unfold nu at h;split at h
 ·rename_i b
  split at h
  ·rename_i c a
   injection h with h;injection h with j g;subst j;subst g
   exact Iu b λ_ _ _ _=>nW a c hk
  ·cases h
 ·cases h
theorem s4[w : Db P]{β:Type}{l:List β}{m:Nat}{k:β->Option Gv}{r:β}{q:Prop}(h:mu w.T ops fl i L σ nx=some ⟨β,l,m,k⟩)(s:l[m]? = some r)(e:k r=some (q,L',σ',nx'))(u:q)
 (hk:Lex P TB Γ ops (Av fl (i+1) n) K (look L') σ' nx'):Lex P TB Γ ops (Av fl i (n+1)) K (look L) σ nx:=by
 unfold mu at h;split at h
 ·rename_i j
  split at h
  ·rename_i o g p
   injection h with h;injection h with d c b a;subst d;subst c;subst b
   have a:=eq_of_heq a;subst a;dsimp only at e;split at e
   ·rename_i hb
    injection e with h;injection h with d h;injection h with c h;injection h with b a;subst d;subst c;subst b;subst a
    exact Iu j λ_ _ _ _=>yL g p s o (i7 hb) u hk
   ·cases e
  ·cases h
 ·rename_i j
  split at h
  ·rename_i o g p
   injection h with h;injection h with d c b a;subst d;subst c;subst b
   have a:=eq_of_heq a;subst a;dsimp only at e
   injection e with h;injection h with d h;injection h with c h;injection h with b a;subst d;subst c;subst b;subst a
   exact Iu j λ_ _ _ _=>yT g p s o u hk
  ·cases h
 ·rename_i j
  split at h
  ·rename_i o g
   split at h
   ·rename_i t
    split at h
    ·rename_i hb f
     injection h with h;injection h with d c b a;subst d;subst c;subst b
     have a:=eq_of_heq a;subst a;dsimp only at e;split at e
     ·rename_i v
      injection e with h;injection h with d h;injection h with c h;injection h with b a;subst d;subst c;subst b;subst a
      have hb:=i7 hb;subst hb;unfold gb at f;rw [og] at f
      rcases f with f|f
      ·exact Iu j λ_ _ _ _=>yM g t s o v f hk
      ·rw [d4] at f
       have A:=i7 f.1;haveI:=(Ec (P:=P) _ w.ok).NH o;exact Iu j λ_ _ _ _ hg=>k8 (λσ' nx' hs=>YU g (by rw [A,Nat.add_sub_cancel_left] at hs;rw [hs];exact t) s v) hg ⟨qD (by omega),by simpa using f.2⟩ hk
     ·cases e
    ·cases h
   ·cases h
  ·cases h
 ·rename_i j
  split at h
  ·rename_i o g p
   split at h
   ·rename_i t
    split at h
    ·rename_i hb f z y x
     injection h with h;injection h with d c b a;subst d;subst c;subst b
     have a:=eq_of_heq a;subst a;dsimp only at e
     injection e with h;injection h with d h;injection h with c h;injection h with b a;subst d;subst c;subst b;subst a
     have hb:=i7 hb;subst hb;exact Iu j λ_ _ _ _=>yV g p z t s o (i7 y) x (i7 f) hk
    ·cases h
   ·cases h
  ·cases h
 ·cases h
theorem tA[a:Db P](h:iq a.T false true ops fl i L σ nx=some (True,L',σ',nx'))(hk:Lex P TB Γ ops (Av fl (i+1) n) K (look L') σ' nx'):Lex P TB Γ ops (Av fl i (n+1)) K (look L) σ nx:=s1 h True.intro hk
theorem tM[a:Db P](h:iq a.T true false ops fl i L σ nx=some (True,L',σ',nx'))(hk:Lex P TB Γ ops (Av fl (i+1) n) K (look L') σ' nx'):Lex P TB Γ ops (Av fl i (n+1)) K (look L) σ nx:=s1 h True.intro hk
theorem tX[a:Db P](h:iq a.T false false ops fl i L σ nx=some (True,L',σ',nx'))(hk:Lex P TB Γ ops (Av fl (i+1) n) K (look L') σ' nx'):Lex P TB Γ ops (Av fl i (n+1)) K (look L) σ nx:=s1 h True.intro hk
theorem t4[b:Db P]{β:Type}{l:List β}{m:Nat}{k:β->Option Gv}{r:β}(h:mu b.T ops fl i L σ nx=some ⟨β,l,m,k⟩)(a:l[m]? = some r)(c:k r=some (True,L',σ',nx'))
 (hk:Lex P TB Γ ops (Av fl (i+1) n) K (look L') σ' nx'):Lex P TB Γ ops (Av fl i (n+1)) K (look L) σ nx:=s4 h a c True.intro hk
theorem s2[f:Db P]{c:Bool}(h:nI f.T ops fl i L=some (d,c))(hk:∀b,c=b->Lex P TB Γ ops (Av fl (i+1) n) K (look ((d,eB b)::L)) σ nx):Lex P TB Γ ops (Av fl i (n+1)) K (look L) σ nx:=by
 unfold nI at h;split at h
 ·rename_i e
  split at h
  ·rename_i a
   injection h with h;injection h with j g;subst j;subst g
   exact Iu e λ_ _ _ _=>yB a hk
  ·cases h
 ·cases h
theorem s3{b:Bool}(_h:nQ ops fl i L=some b)(a:b=true->Lex P TB Γ ops (Av fl i (n+1)) K (look L) σ nx)(c:b=false->Lex P TB Γ ops (Av fl i (n+1)) K (look L) σ nx):Lex P TB Γ ops (Av fl i (n+1)) K (look L) σ nx:=by
 cases b
 ·exact c rfl
 ·exact a rfl
theorem Yu{gg:FuncId}{es:List E}(h:l5 ops fl i L=some (d,gg,es)):∃x args tys cap a,jv ops fl i L=some (some d,.call ⟨.value x,args,tys⟩)/\ev (look L) x=some (.o (.fn gg cap))/\JW (look L) args.toList=some a/\(a.all E.Cm && C.Dl cap)=true/\es=a++cap.map .o:=by
 unfold l5 at h;split at h
 ·rename_i e
  split at h
  ·rename_i b f
   split at h
   ·rename_i c
    injection h with h;injection h with k h;injection h with j g;subst k;subst j;subst g
    exact⟨_,_,_,_,_,e,b,f,c,rfl⟩
   ·cases h
  ·cases h
 ·cases h
theorem sP{gg:FuncId}{es:List E}{r:E}(h:l5 ops fl i L=some (d,gg,es))(hs:Pure P TB gg es r)(b:r.Cm=true)(hk:Lex P TB Γ ops (Av fl (i+1) n) K (look ((d,r)::L)) σ nx):Lex P TB Γ ops (Av fl i (n+1)) K (look L) σ nx:=by
 obtain⟨x,args,tys,cap,g,e,a,f,c,rfl⟩:=Yu h;exact Iu e λ_ _ _ _=>yP a f c hs b hk
theorem sC{gg:FuncId}{es:List E}{c:Bool}(h:l5 ops fl i L=some (d,gg,es))(hs:Pure P TB gg es (eB c))(hk:∀b,c=b->Lex P TB Γ ops (Av fl (i+1) n) K (look ((d,eB b)::L)) σ nx):Lex P TB Γ ops (Av fl i (n+1)) K (look L) σ nx:=by
 obtain⟨x,args,tys,cap,j,f,a,g,e,rfl⟩:=Yu h;exact Iu f λ_ _ _ _=>yC a g e hs hk
theorem tI:True:=True.intro
end
section
variable {P:Program}{TB:BF}{Γ:Ctx}{N:Nat}{ops:Array Oper}{fl:Fl}{i:Nat}{K:Env->Ab->Nat->Prop}{Q:Exit->Env->Ab->Nat->Prop}{f:Env}{σ:Ab}{nx:Nat}
theorem aS{x y:Code}(h:Aj P TB Γ N x (Mm (Aj P TB Γ N y Q) Q) f σ nx):Aj P TB Γ N (.seq x y) Q f σ nx:=.seq h
def Wz(N:Nat):List Oper->Bool
 | []=>true
 | o::r=>match o.dst with
  | some d=>bif Nat.ble (d+1) N then Wz N r else false
  | none=>Wz N r
theorem Yt{N:Nat}:∀ {l:List Oper},Wz N l=true->∀o∈l,(match o.dst with|some d=>Nat.blt d N|none=>true)=true
 | [],_,o,a=>by cases a
 | x :: l,h,o,a=>by
  unfold Wz at h
  rcases n8.1 a with rfl|a
  ·cases b:o.dst with
   | none=>rfl
   | some d=>
    rw [b] at h;dsimp only at h |-
    cases hb:Nat.ble (d+1) N with
    | false=>rw [hb] at h;cases h
    | true=>exact hb
  ·refine Yt ?_ o a
   cases b:x.dst with
   | none=>rw [b] at h;exact h
   | some d=>
    rw [b] at h;dsimp only at h
    cases hb:Nat.ble (d+1) N with
    | false=>rw [hb] at h;cases h
    | true=>rw [hb] at h;exact h
theorem bS{N:Nat}{ops:Array Oper}(h:Wz N ops.toList=true):Hl N ops=true:=by
 unfold Hl;rw [Array.all_eq_true];intro i hi;exact Yt h _ (by simp)
def ka(P:Program)(TB:BF)(Γ:Ctx)(N:Nat):Code->(Exit->Env->Ab->Nat->Prop)->Option (Env->Ab->Nat->Prop)
 | .region _ ops false,Q=>bif Wz N ops.toList then some (Lex P TB Γ ops (Av cg 0 ops.size) (λf σ nx=>Q .normal f σ nx)) else none
 | .seq c d,Q=>match ka P TB Γ N c (Mm (Aj P TB Γ N d Q) Q) with
  | some G=>some G
  | none=>some (Aj P TB Γ N c (Mm (Aj P TB Γ N d Q) Q))
 | _,_=>none
theorem da:∀ {c:Code} {Q:Exit->Env->Ab->Nat->Prop} {G:Env->Ab->Nat->Prop} {f:Env} {σ:Ab} {nx:Nat},ka P TB Γ N c Q=some G->G f σ nx->Aj P TB Γ N c Q f σ nx
 | .region _ ops false,Q,G,f,σ,nx,h,g=>by
  unfold ka at h
  cases b:Wz N ops.toList with
  | false=>rw [b] at h;cases h
  | true=>rw [b] at h;injection h with h;subst h;exact ny (bS b) g
 | .seq c d,Q,G,f,σ,nx,h,g=>by
  unfold ka at h;refine .seq ?_
  cases a:ka P TB Γ N c (Mm (Aj P TB Γ N d Q) Q) with
  | none=>rw [a] at h;injection h with h;subst h;exact g
  | some G=>rw [a] at h;injection h with h;subst h;exact da a g
 | .region _ ops true,Q,G,f,σ,nx,h,g=>by cases h
 | .skip,Q,G,f,σ,nx,h,g=>by cases h
 | .cond ..,Q,G,f,σ,nx,h,g=>by cases h
 | .block ..,Q,G,f,σ,nx,h,g=>by cases h
 | .ret,Q,G,f,σ,nx,h,g=>by cases h
 | .exit ..,Q,G,f,σ,nx,h,g=>by cases h
theorem aU{c:Code}{G:Env->Ab->Nat->Prop}(h:ka P TB Γ N c Q=some G)(g:G f σ nx):Aj P TB Γ N c Q f σ nx:=da h g
theorem aR(h:Q .ret f σ nx):Aj P TB Γ N .ret Q f σ nx:=.ret h
theorem aK(h:Q .normal f σ nx):Aj P TB Γ N .skip Q f σ nx:=.skip h
theorem aE{id:Nat}(h:Q (.exit id) f σ nx):Aj P TB Γ N (.exit id) Q f σ nx:=.exit h
theorem aB{id:Nat}{c:Code}(h:Aj P TB Γ N c (l8 id Q) f σ nx):Aj P TB Γ N (.block id c) Q f σ nx:=.block h
theorem aC{c:Operand}{x y:Code}{b:Bool}(e:ev f c=some (.o (.d (.v (.bool b)))))(ht:b=true->Aj P TB Γ N x Q f σ nx)(a:b=false->Aj P TB Γ N y Q f σ nx):Aj P TB Γ N (.cond c x y) Q f σ nx:=.cond e ht a
theorem eN {g:FuncId} {fn:Func} {c:Code} {args:List E} {post:E->Ab->Nat->Prop} (b:P.funcs[g]? = some fn) (hb:fn.body=some c) (a:(fn.name == "runtime.NumGoroutine")=false) (ha:Nat.ble args.length fn.ntmps=true)
 (h:∀Γ:Ctx,Γ.V.nx=nx->Aj P TB Γ fn.ntmps c (kk fn.results post) (look (Cn 0 args)) σ nx):Spec P TB g σ nx args post:=.of b hb a (am ha) h
end
section
variable {P:Program}{TB:BF}{Γ:Ctx}{d:Option Tmp}{ty:TypeId}{pos:String}{af:Array Edge}{g:Option (Nat×Bool)}{f:Env}{σ:Ab}{nx:Nat}
theorem Xo{t e:TypeId}{k b:Nat}{z:List Value}{ik ik':IntKind}{n c:Int}(B:im P t=some (e,k,b))(x:aY P e=some z)(f:z.length=k)(H:0 < b)(I:0<=n)(A:n<=c)(G:c*b<=140737488355328)(w:World) :
 ∃zv:Value,zv.cells.toList=z/\(Instr.makeSlice t (.int ik n) (.int ik' c)).run P w=.ok (.slice (some ⟨w.heap.size,0,none⟩) n.toNat c.toNat) (w.alloc (.cells ((Array.range (c.toNat*z.length)).map (zv.cells[· % zv.cells.size]!)) e)):=by
 obtain⟨i,y,hi,j,l⟩:=GY B;obtain⟨i',zv,a,m,h⟩:=HA x
 rw [hi] at a;injection a with a;subst a
 refine⟨zv,h,?_⟩
 have p:0<=c:=by omega
 have F:c<=c*b:=by
  have:=oP (show (1:Int)<=(b:Int) by omega) p;omega
 have wn:IntKind.i64.wrap n=n:=IntWalk.i64_in n (by omega);have wc:IntKind.i64.wrap c=c:=IntWalk.i64_in c (by omega)
 have v:zv.cells.size=k:=by rw [<-f,<-h];simp
 have q:(b:Int)*c<=140737488355328:=by rw [ql];exact G
 have ht:¬(281474976710656:Int) < (b:Int)*c:=by omega
 generalize d:(Array.range (c.toNat*z.length)).map (zv.cells[· % zv.cells.size]!)=cur
 have u:¬c < 0:=by omega
 have s:¬n < 0:=by omega
 have r:¬c < n:=by omega
 simp only [Instr.makeSlice,nZ,run_underlying y,jp,asInt,asIntOf,pure_bind,bind_pure_comp,map_pure,typeInfo,sizeOf,wn,wc];by_cases g:c.toNat*k=0
 ·have o:cur = #[]:=by
   have:cur.size=0:=by rw [<-d];simp [f,g]
   exact pL this
  simp [go_sem,hi,l,j,u,s,r,ht,askRoom,g,newRow,newObj,o];rfl
 ·simp [go_sem,hi,l,j,u,s,r,ht,askRoom,g,newRow,newObj,zeroValue,typeInfo,m,<-d,f]
  rfl
theorem YX{t e:TypeId}{k b:Nat}{z:List Value}{dz:List D}{x y:Operand}{ik ik':IntKind}{n:Int}[X:CS P t e k b][S:BQ P e z](U:ev f x=some (eI ik n))(T:ev f y=some (eI ik' n))(p:z.length=k)(G:z.all Qk=true)(q:z.map zC=dz.map C.d)(K:0 < b)
 (R:0<=n) (hc:n*b<=140737488355328):A6 P TB Γ ⟨d,.makeSlice t x y,ty,pos,af,g⟩ f σ nx (.o (.d (.l (List.replicate n.toNat dz)))):=
 JJ λV ρ Q h2=>by
  have B:ρ x=.int ik n:=AH.val (Q.get (by simp [Op.operands]) U);have A:ρ y=.int ik' n:=AH.val (Q.get (by simp [Op.operands]) T);obtain⟨zv,u,c⟩:=Xo (ik:=ik) (ik':=ik') X.out S.out p K R (rY n) hc V.w
  have Z:n<=n*b:=by
   have:=oP (show (1:Int)<=(b:Int) by omega) R;omega
  have m:=Nw (V:=V) (n:=n.toNat) u G;generalize N:(Array.range (n.toNat*z.length)).map (zv.cells[· % zv.cells.size]!)=cur at c m;obtain⟨hi,M⟩:=h2.Wq (w:=V.w.alloc (.cells cur e)) rfl rfl rfl (by simp) (λb hb=>Bi _ _ _ hb)
  have J:dz.length=k:=by have:=congrArg List.length q;simp at this;omega
  have a:∀(i:Nat) (r:List D) (j:Nat) (x:D),(List.replicate n.toNat dz)[i]? = some r->r[j]? = some x->∃v,cur[i*k+j]? = some v/\Dh V.I V.w x v:=λi r j x hi s=>by
   have F:r=dz:=pK (co hi);subst F
   have H:i < n.toNat:=by have:=(ce.1 hi).1;simpa using this
   obtain⟨v,h9,h⟩:=Hm (k:=k) m (λr F=>by rw [pK F];simp [p]) i (z.map zC) j (.d x) (by simp [H]) (by rw [q];simp [s])
   cases h with
   | d h=>exact⟨v,h9,h⟩
  refine⟨.slice (some ⟨V.w.heap.size,0,none⟩) n.toNat n.toNat,LN V (V.w.alloc (.cells cur e)),?_,M,hi,rfl,?_⟩
  ·show ((do let v <-Instr.makeSlice t (ρ x) (ρ y);pure (Go.Next.value v):Sem Go.Next)).run P V.w=_
   rw [B,A];simp only [nZ,c,jp];rfl
  ·have hb:(LN V (V.w.alloc (.cells cur e))).I V.w.heap.size:=.inr rfl
   have Y:(LN V (V.w.alloc (.cells cur e))).w.heap[V.w.heap.size]? = some (.cells cur e):=Ci _ _;have := @Dh.l (LN V (V.w.alloc (.cells cur e))).I (LN V (V.w.alloc (.cells cur e))).w (List.replicate n.toNat dz) V.w.heap.size 0 k n.toNat (λi j=>cur.getD (i*k+j) undef) hb (by simp) (by unfold maxLen;omega)
    (λi r hi=>by rw [pK (co hi)];exact J)
    (λi r j x hi s=>by
     obtain⟨v,L,_⟩:=a i r j x hi s
     simp [World.cell?,Y,L])
    (λi r j x hi s=>by
     obtain⟨v,L,h7⟩:=a i r j x hi s
     have:cur.getD (i*k+j) undef=v:=by simp [L]
     rw [this];exact h7.ext M)
   rw [rh] at this;exact .d this
end
end Go.Am
namespace Go.Am
theorem ZX(L:W->Bool)(cols:List W)(v w:W):marks L (cols++[v]) w=marks L cols w++[RE (L (w++v))]:=by simp [marks]
theorem BS.row{L:W->Bool}{ls:List UInt8}{t:A1}(h:BS L ls t){i j:Nat}{r s:W}(hi:t.rows[i]? = some r)(g:t.rows[j]? = some s)(k:marks L t.cols r=marks L t.cols s):i=j:=by
 have d:(AI L t)[i]? = some (marks L t.cols r):=by simp [AI,hi]
 have c:(AI L t)[j]? = some (marks L t.cols r):=by simp [AI,g,k]
 have l1:=(ce.1 d).1;have l2:=(ce.1 c).1;have f:=(ce.1 d).2;have e:=(ce.1 c).2;have b:=oe.1 h.nd
 rcases qX i j with a|a|a
 ·exact absurd (f.trans e.symm) (b i j l1 l2 a)
 ·exact a
 ·exact absurd (e.trans f.symm) (b j i l2 l1 a)
structure Split (L:W->Bool) (ls:List UInt8) (t:A1) (u v:W):Prop where
 suf:∃p,p≠[]/\u=p++v
 new:v∉t.cols
 opens:∃r∈t.rows,∃c∈ls,marks L (t.cols++[v]) (r++[c])∉AI L ⟨t.rows,t.cols++[v]⟩
theorem VA{L:W->Bool}{ls:List UInt8}{t:A1}(h:BS L ls t)(b:Bool):∀(u:W) (i:Nat) (r:W),AR ls u->t.rows[i]? = some r->L (r++u)=b->L (t.rows.getD (runM L t i u) [])≠b->∃v,splitAt L t b i u=some v/\Split L ls t u v
 | [],i,r,_,hi,hb,z=>by
  have a:t.rows.getD i []=r:=by simp [hi]
  rw [oO] at hb;exact absurd (by show L (t.rows.getD i [])=b;rw [a];exact hb) z
 | c :: v,i,r,A,hi,hb,z=>by
  have F:c∈ls:=A c (by simp)
  have j:t.rows.getD i []=r:=by simp [hi]
  obtain⟨r',a,G⟩:=h.idx hi F
  have g:t.rows.getD (C3 L t (r++[c])) []=r':=by simp [a]
  unfold splitAt;rw [j,g];by_cases k:L (r'++v)≠b
  ·rw [if_pos k]
   have n:r++c::v=(r++[c])++v:=by simp
   have f:L ((r++[c])++v)≠L (r'++v):=by rw [<-n,hb];exact λe=>k e.symm
   refine⟨v,rfl,⟨[c],by simp,rfl⟩,λl=>f ((UL.1 G v l).symm),r,co hi,c,F,λl=>?_⟩;unfold AI at l;obtain⟨s,hs,B⟩:=d9.1 l;simp only [ZX] at B;obtain⟨R,Q⟩:=List.append_inj' B rfl;obtain⟨q,I,o⟩:=oy hs
   have d:t.rows[q]? = some s:=by rw [d6 I,o]
   have:=h.row d a (R.trans G.symm);subst this;rw [d] at a
   injection a with a
   subst a
   have P:RE (L (s++v))=RE (L (r++[c]++v)):=by simpa using Q
   exact f (YG P).symm
  ·rw [if_neg k]
   have m:L (r'++v)=b:=by simpa using k
   have y:L (t.rows.getD (runM L t (C3 L t (r++[c])) v) [])≠b:=by
    have:runM L t i (c::v)=runM L t (C3 L t (r++[c])) v:=by show runM L t (C3 L t (t.rows.getD i []++[c])) v=_;rw [j]
    rwa [this] at z
   obtain⟨w,N,⟨p,S,M⟩,K,J⟩:=VA h b v _ r' (λx H=>A x (by simp [H])) a m y;exact⟨w,N,⟨c::p,by simp,by rw [M];rfl⟩,K,J⟩
theorem gf{L:W->Bool}{ls:List UInt8}{t:A1}{r:W}{c:UInt8}(a:r∈t.rows)(d:c∈ls)(b:marks L t.cols (r++[c])∉AI L t):Bh L ls t≠none:=λh=>b (GU h r a c d)
end Go.Am
