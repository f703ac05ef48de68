/-
  The steps of a walk, few and short: what an operation gives is reckoned.
-/
import Derived.Test.YtohfiindiidcfaaGreatDoorPart10
set_option linter.all false
namespace Go.Am
open Go
class Sz (P:Program) (t:TypeId):Prop where
 out:P.underlying t=some .bool
theorem oA{p:Prop}[Decidable p]:(decide p=true)=p:=decide_eq_true_eq
theorem oB{p:Prop}[Decidable p]:decide p=false↔¬p:=decide_eq_false_iff_not
theorem oC{α β:Type}{l:List α}{f:α->β}:(l.map f).length=l.length:=ge f
theorem oD{α:Type}{l m:List α}:(l++m).length=l.length+m.length:=pC
theorem oE{α:Type}{n:Nat}{x:α}:(List.replicate n x).length=n:=rN
theorem oF{α:Type}{x:α}{l:List α}:(x::l).length=l.length+1:=o9
theorem oG{α:Type}:([]:List α).length=0:=ru
theorem oZ:(∀(p:Prop) [Decidable p],(decide p=true)=p)/\(∀(p:Prop) [Decidable p],decide p=false↔¬p)/\(∀(α β:Type) (l:List α) (f:α->β),(l.map f).length=l.length)/\(∀(α:Type) (l m:List α),(l++m).length=l.length+m.length)/\(∀(α:Type) (n:Nat) (x:α),(List.replicate n x).length=n)/\(∀(α:Type) (x:α) (l:List α),(x::l).length=l.length+1)/\∀(α:Type),([]:List α).length=0:=
 ⟨λ_ _=>oA,λ_ _=>oB,λ_ _ _ _=>oC,λ_ _ _=>oD,λ_ _ _=>oE,λ_ _ _=>oF,λ_=>oG⟩
structure TI where
 ld:Option (Bool×Nat):=none
 ik:Option IntKind:=none
 st:Bool:=false
 sl:Option (Nat×Nat×Nat):=none
 ar:Option (Nat×Nat):=none
 fl:List (Option (Nat×Bool×Nat)):=[]
 pt:Bool:=false
 bo:Bool:=false
 ze:Option (List Value):=none
def Uc(P:Program)(t:Nat):Nat->List (Option (Nat×Bool×Nat))->Prop
 | _,[]=>True
 | k,none::r=>Uc P t (k+1) r
 | k,some x::r=>(ZU P t k=some x.1/\ZV P t k=some x)/\Uc P t (k+1) r
structure Fc (P:Program) (t:Nat) (i:TI):Prop where
 ld:i.ld=none\/jx P t=i.ld
 ik:i.ik=none\/P.underlying t=i.ik.map .int
 st:i.st=false\/P.underlying t=some .string
 sl:i.sl=none\/iK P t=i.sl
 ar:i.ar=none\/kQ P t=i.ar
 fl:Uc P t 0 i.fl
 pt:i.pt=false\/∃e,P.underlying t=some (.pointer e)
 bo:i.bo=false\/P.underlying t=some .bool
 ze:i.ze=none\/bB P t=i.ze
def XV(P:Program):List (Nat×TI)->Prop
 | []=>True
 | (t,i)::r=>Fc P t i/\XV P r
def nA:Value->Value->Bool
 | .int k n,.int k' n'=>decide (k=k') && decide (n=n')
 | .bool a,.bool b=>decide (a=b)
 | .string ⟨⟨a⟩⟩,.string ⟨⟨b⟩⟩=>a.isEmpty && b.isEmpty
 | .slice none 0 0,.slice none 0 0=>true
 | .pointer none,.pointer none=>true
 | .map none,.map none=>true
 | .nilFunc,.nilFunc=>true
 | .nilIface,.nilIface=>true
 | _,_=>false
theorem ko:∀ {a b:Value},nA a b=true->a=b:=by
 intro a b h;unfold nA at h;split at h<;>simp_all
def mK:List Value->List Value->Bool
 | [],[]=>true
 | a::l,b::m=>nA a b && mK l m
 | _,_=>false
theorem fi:∀ {l m:List Value},mK l m=true->l=m
 | [],[],_=>rfl
 | a::l,b::m,h=>by
  unfold mK at h;rw [d4] at h;rw [ko h.1,fi h.2]
 | [],_::_,h=>by cases h
 | _::_,[],h=>by cases h
def lf(P:Program)(t:Nat):Nat->List (Option (Nat×Bool×Nat))->Bool
 | _,[]=>true
 | k,none::r=>lf P t (k+1) r
 | k,some x::r=>decide (ZU P t k=some x.1) && decide (ZV P t k=some x) && lf P t (k+1) r
theorem WJ{P:Program}{t:Nat}:∀ {l:List (Option (Nat×Bool×Nat))} {k:Nat},lf P t k l=true->Uc P t k l
 | [],_,_=>trivial
 | none::r,k,h=>WJ (l:=r) (k:=k+1) h
 | some x::r,k,h=>by
  unfold lf at h;simp only [d4,decide_eq_true_eq] at h;exact⟨h.1,WJ h.2⟩
def nS(d:Option TypeDesc)(i:TI):Bool:=match d with
 | some (.int k)=>(match i.ik with|none=>true|some k'=>decide (k=k')) && !i.st && !i.pt && !i.bo
 | some .string=>i.ik.isNone && !i.pt && !i.bo
 | some (.pointer _)=>i.ik.isNone && !i.st && !i.bo
 | some .bool=>i.ik.isNone && !i.st && !i.pt
 | _=>i.ik.isNone && !i.st && !i.pt && !i.bo
def nu(P:Program)(t:Nat)(i:TI):Bool:=
 (i.ld.isNone || decide (jx P t=i.ld)) && (nS (P.underlying t) i && ((i.sl.isNone || decide (iK P t=i.sl)) && ((i.ar.isNone || decide (kQ P t=i.ar)) && (lf P t 0 i.fl && match i.ze with
  | none=>true
  | some l=>match bB P t with
   | some l'=>mK l' l
   | none=>false))))
theorem or_none{α:Type}[DecidableEq α]{a b:Option α}(h:(b.isNone || decide (a=b))=true):b=none\/a=b:=by
 rw [oN] at h
 rcases h with h|h
 ·left;cases b<;>simp_all
 ·right;exact of_decide_eq_true h
theorem kh{P:Program}{t:Nat}{i:TI}(h:nu P t i=true):Fc P t i:=by
 unfold nu at h;simp only [d4] at h;obtain⟨o,f,n,m,j,b⟩:=h
 have a:(i.ik=none\/P.underlying t=i.ik.map .int)/\(i.st=false\/P.underlying t=some .string)/\(i.pt=false\/∃e,P.underlying t=some (.pointer e))/\(i.bo=false\/P.underlying t=some .bool):=by
  unfold nS at f;split at f
  ·rename_i k hk
   cases g:i.ik<;>simp_all
  all_goals simp_all
 refine⟨or_none o,a.1,a.2.1,or_none n,or_none m,WJ j,a.2.2.1,a.2.2.2,?_⟩;split at b
 ·rename_i d;exact .inl d
 ·rename_i l d
  split at b
  ·rename_i l' c
   right;rw [c,d,fi b]
  ·cases b
def iX(P:Program):List (Nat×TI)->Bool
 | []=>true
 | (t,i)::r=>nu P t i && iX P r
theorem X9{P:Program}:∀ {l:List (Nat×TI)},iX P l=true->XV P l
 | [],_=>trivial
 | (t,i)::r,h=>by
  unfold iX at h;rw [d4] at h;exact⟨kh h.1,X9 h.2⟩
class Dg (P:Program) where
 T:List (Nat×TI)
 ok:XV P T
def Kf:List (Nat×TI)->Nat->TI
 | [],_=>{}
 | (k,x)::r,t=>bif Nat.beq k t then x else Kf r t
def nth{α:Type}:List α->Nat->Option α
 | [],_=>none
 | x::_,0=>some x
 | _::r,n+1=>nth r n
theorem OI{α:Type}:∀(l:List α) (i:Nat),nth l i=l[i]?
 | [],_=>by simp [nth]
 | o::_,0=>by simp [nth]
 | _::r,n+1=>by simp [nth,OI r n]
theorem Ed{P:Program}(t:Nat):∀ {T:List (Nat×TI)},XV P T->Fc P t (Kf T t)
 | [],_=>⟨.inl rfl,.inl rfl,.inl rfl,.inl rfl,.inl rfl,trivial,.inl rfl,.inl rfl,.inl rfl⟩
 | (k,x)::r,h=>by
  unfold Kf;cases hb:Nat.beq k t
  ·exact Ed t h.2
  ·have:=i7 hb
   subst this;exact h.1
section
variable {P:Program}{t:Nat}{i:TI}
theorem Fc.NQ(h:Fc P t i){ag:Bool}{n:Nat}(e:i.ld=some (ag,n)):DV P t ag n:=⟨by rcases h.ld with h|h<;>simp_all⟩
theorem Fc.cI(h:Fc P t i){k:IntKind}(e:i.ik=some k):Ks P t k:=⟨by rcases h.ik with h|h<;>simp_all⟩
theorem Fc.cK(h:Fc P t i)(e:i.st=true):D0 P t:=⟨by rcases h.st with h|h<;>simp_all⟩
theorem Fc.UE(h:Fc P t i){e k b:Nat}(a:i.sl=some (e,k,b)):CX P t e k b:=⟨by rcases h.sl with h|h<;>simp_all⟩
theorem Fc.lk(h:Fc P t i){n k:Nat}(a:i.ar=some (n,k)):Rt P t n k:=⟨by rcases h.ar with h|h<;>simp_all⟩
theorem Fc.cJ(h:Fc P t i)(e:i.pt=true):Ws P t:=⟨h.pt.resolve_left (by simp [e])⟩
theorem Fc.fR(h:Fc P t i)(e:i.bo=true):Sz P t:=⟨by rcases h.bo with h|h<;>simp_all⟩
theorem Fc.cL(h:Fc P t i){z:List Value}(e:i.ze=some z):BT P t z:=⟨by rcases h.ze with h|h<;>simp_all⟩
theorem Uc.get:∀ {l:List (Option (Nat×Bool×Nat))} {k j:Nat} {x:Nat×Bool×Nat},Uc P t k l->nth l j=some (some x)->ZU P t (k+j)=some x.1/\ZV P t (k+j)=some x
 | [],_,_,_,_,h=>by simp [nth] at h
 | none::r,k,0,x,_,h=>by simp [nth] at h
 | some y::r,k,0,x,a,h=>by simp [nth] at h;subst h;exact a.1
 | none::r,k,j+1,x,a,h=>by
  have:=Uc.get (l:=r) (k:=k+1) (j:=j) (x:=x) a h;rwa [show k+(j+1)=k+1+j by omega]
 | some y::r,k,j+1,x,a,h=>by
  have:=Uc.get (l:=r) (k:=k+1) (j:=j) (x:=x) a.2 h;rwa [show k+(j+1)=k+1+j by omega]
theorem Fc.js(h:Fc P t i){j off n:Nat}{ag:Bool}(e:nth i.fl j=some (some (off,ag,n))):SA P t j off:=⟨by have:=(h.fl.get e).1;rwa [oH] at this⟩
theorem Fc.fS(h:Fc P t i){j off n:Nat}{ag:Bool}(e:nth i.fl j=some (some (off,ag,n))):Ot P t j off ag n:=⟨by have:=(h.fl.get e).2;rwa [oH] at this⟩
end
def GC(P:Program)(TB:BC)(Z:Ctx)(ops:Array Oper)(o:Oper)(fl:Fl)(i n:Nat)(K:Env->Ab->Nat->Prop)(L:List (Nat×E))(σ:Ab)(nx:Nat):Prop:=
 BE ops o (look L)=some true->Bl P TB Z ops o fl i n K L σ nx
def xE:Bool×List C->Option E
 | (false,[c])=>some (.o c)
 | (true,cs)=>some (.a cs)
 | _=>none
def mW(f:Env):Op->Option E
 | .move x=>ev f x
 | .pick c x y=>match ev f c with
  | some (.o (.d (.v (.bool true))))=>ev f x
  | some (.o (.d (.v (.bool false))))=>ev f y
  | _=>none
 | .extract x k=>match ev f x with
  | some (.t xs)=>(xs[k]?).bind xE
  | _=>none
 | .nilCheck x=>match ev f x with
  | some (.o (.d (.p cs)))=>some (.o (.ip cs))
  | some (.o (.ptr id k i j))=>some (.o (.ptr id k i j))
  | some (.o (.fn gg cs))=>some (.o (.fn gg cs))
  | _=>none
 | _=>none
def kz:IntKind->IntKind->Bool
 | .i64,.i64|.u8,.u8|.u64,.u64|.i32,.i32|.u16,.u16|.u32,.u32=>true
 | _,_=>false
theorem Pt{a b:IntKind}(h:kz a b=true):a=b:=by cases a<;>cases b<;>first|rfl|cases h
def kX(o:BinOp)(m n:Int):Option Bool:=match o with
 | .lss=>some (decide (m < n))
 | .leq=>some (decide (m<=n))
 | .gtr=>some (decide (m > n))
 | .geq=>some (decide (m>=n))
 | .eql=>some (decide (m=n))
 | .neq=>some (decide (m≠n))
 | _=>none
def kW(o:BinOp)(a b:List UInt8):Option Bool:=match o with
 | .eql=>some (decide (a=b))
 | .neq=>some (decide (a≠b))
 | _=>none
def jg(o:BinOp):E->E->Option Bool
 | .o (.d (.v (.int k m))),.o (.d (.v (.int k' n)))=>match kz k k' with
  | true=>kX o m n
  | false=>none
 | .o (.d (.v (.string ⟨⟨a⟩⟩))),.o (.d (.v (.string ⟨⟨b⟩⟩)))=>kW o a b
 | _,_=>none
def aP:IntKind->Int->Option Prop
 | .i64,m=>some (-9223372036854775808<=m/\m<=9223372036854775807)
 | .u64,m=>some (0<=m/\m<=18446744073709551615)
 | .u8,m=>some (0<=m/\m<=255)
 | .i32,m=>some (-2147483648<=m/\m<=2147483647)
 | _,_=>none
def nG(o:BinOp)(k:IntKind)(m n:Int):Option (Prop×E):=match o with
 | .add=>(aP k (m+n)).map λq=>(q,eI k (m+n))
 | .sub=>(aP k (m - n)).map λq=>(q,eI k (m - n))
 | .mul=>(aP k (m*n)).map λq=>(q,eI k (m*n))
 | .rem=>some (0<=m/\0 < n,eI k (m % n))
 | .and=>some (True,eI k (Gh k m n))
 | .or=>some (True,eI k (Gt k m n))
 | _=>none
def mQ(o:BinOp):E->E->Option (Prop×E)
 | .o (.d (.v (.int k m))),.o (.d (.v (.int k' n)))=>match o with
  | .shr=>some (0<=n,eI k (m.fdiv (2 ^ (min n.toNat k.bits))))
  | .quo=>match kz k .i64,kz k' .i64 with
   | true,true=>some ((0<=m/\m<=9223372036854775807)/\0 < n,eI .i64 (m / n))
   | _,_=>none
  | o=>match kz k k' with
   | true=>nG o k m n
   | false=>none
 | .o (.d (.v (.string ⟨⟨a⟩⟩))),.o (.d (.v (.string ⟨⟨b⟩⟩)))=>match o with
  | .add=>some (a.length+b.length<=9223372036854775807,eT (a++b))
  | _=>none
 | _,_=>none
def jq(off:Nat):E->Option E
 | .o (.d (.p cs))=>some (.o (.ip (cs.drop off)))
 | .o (.ptr id k i j)=>some (.o (.ptr id k i (j+off)))
 | _=>none
def m8(ag:Bool)(n:Nat):E->Option E
 | .o (.d (.p cs))=>match ag,cs with
  | false,c::_=>some (.o (.d c))
  | true,cs=>match Nat.ble n cs.length with
   | true=>some (.a ((cs.take n).map .d))
   | false=>none
  | _,_=>none
 | _=>none
def jy(ag:Bool)(n j:Nat)(r:List C):Option E:=match ag with
 | false=>(r[j]?).map .o
 | true=>match Nat.ble (j+n) r.length with
  | true=>some (.a ((r.drop j).take n))
  | false=>none
def mY(ag:Bool)(off n:Nat)(cs:List C):Option E:=match ag with
 | false=>(cs[off]?).map .o
 | true=>match Nat.ble (off+n) cs.length with
  | true=>some (.a ((cs.drop off).take n))
  | false=>none
def m7(k:Nat)(n:Int):E->Option E
 | .o (.d (.p cs))=>some (.o (.ip (cs.drop (n.toNat*k))))
 | .o (.ptr id k' i j)=>some (.o (.ptr id k' i (j+n.toNat*k)))
 | _=>none
def m9(k:Nat):E->Option E
 | .o (.d (.l rows))=>some (eI .i64 rows.length)
 | .o (.arr _ k' _ len)=>match Nat.beq k' k with
  | true=>some (eI .i64 len)
  | false=>none
 | _=>none
def tr:Option E->Option (Prop×E)
 | some e=>some (True,e)
 | none=>none
def jH:Bool->E->E->Option (Prop×E)
 | true,.o (.d (.p _)),.o (.d (.v (.pointer none)))=>some (True,eB false)
 | true,.o (.d (.v (.pointer none))),.o (.d (.v (.pointer none)))=>some (True,eB true)
 | _,_,_=>none
def kT(pt:Bool)(o:BinOp)(a b:E):Option (Prop×E):=match o with
 | .eql=>jH pt a b
 | o=>mQ o a b
def ju(i:TI):E->E->Option (Prop×E)
 | .o (.arr id k off len),.o (.d (.v (.int _ m)))=>match i.sl with
  | some (_,k',_)=>match Nat.beq k k' with
   | true=>some (0<=m/\m < len,.o (.ptr id k (off+m.toNat) 0))
   | false=>none
  | none=>none
 | a, .o (.d (.v (.int _ m)))=>match i.ar with
  | some (len,k)=>match m7 k m a with
   | some e=>some (0<=m/\m < len,e)
   | none=>none
  | none=>none
 | _,_=>none
def jA(i:TI):E->Option E
 | .o (.d (.v (.string ⟨⟨s⟩⟩)))=>match i.st with
  | true=>some (eI .i64 s.length)
  | false=>none
 | e=>match i.sl with
  | some (_,k,_)=>m9 k e
  | none=>none
def jh(k k':IntKind):E->Option (Prop×E)
 | .o (.d (.v (.int a m)))=>match kz a k,aP k' m with
  | true,some q=>some (q,eI k' m)
  | _,_=>none
 | _=>none
def dY(T:List (Nat×TI))(md:Bool)(f:Env):Op->Option (Prop×E)
 | .assign x=>match md,notNil x with
  | true,false=>none
  | _,_=>tr (ev f x)
 | .binOp o t x y _=>match ev f x,ev f y with
  | some a,some b=>kT (Kf T t).pt o a b
  | _,_=>none
 | .fieldAddr s x k=>match nth (Kf T s).fl k,ev f x with
  | some (some (off,_,_)),some a=>tr (jq off a)
  | _,_=>none
 | .field t x k=>match nth (Kf T t).fl k,ev f x with
  | some (some (off,ag,n)),some (.a cs)=>tr (mY ag off n cs)
  | _,_=>none
 | .load t x=>match (Kf T t).ld,ev f x with
  | some (ag,n),some a=>tr (m8 ag n a)
  | _,_=>none
 | .indexAddr t x y=>match ev f x,ev f y with
  | some a,some b=>ju (Kf T t) a b
  | _,_=>none
 | .call ⟨.builtin .len,⟨[x]⟩,⟨[t]⟩⟩=>match ev f x with
  | some a=>tr (jA (Kf T t) a)
  | none=>none
 | .convert s t x=>match (Kf T s).ik,(Kf T t).ik,ev f x with
  | some k,some k',some a=>jh k k' a
  | _,_,_=>none
 | .makeFunc (.func gg) ⟨[]⟩ caps=>match J8 f caps.toList with
  | some es=>match ff es with
   | some cs=>some (True,.o (.fn gg cs))
   | none=>none
  | none=>none
 | op=>tr (mW f op)
def nH:BinOp->E->E->Option Bool
 | .eql,.o (.d (.v (.bool a))),.o (.d (.v (.bool b)))=>some (a == b)
 | .neq,.o (.d (.v (.bool a))),.o (.d (.v (.bool b)))=>some (a != b)
 | _,_,_=>none
def Vr(T:List (Nat×TI))(f:Env):Op->Option Bool
 | .binOp o t x y _=>match ev f x,ev f y with
  | some a,some b=>match (Kf T t).bo with
   | true=>nH o a b
   | false=>jg o a b
  | _,_=>none
 | .unOp .not _ x=>match ev f x with
  | some (.o (.d (.v (.bool b))))=>some (!b)
  | _=>none
 | _=>none
def N0(T:List (Nat×TI))(σ:Ab)(f:Env):Op->Option E
 | .load t x=>match (Kf T t).ld,ev f x with
  | some (ag,n),some (.o (.ptr id k i j))=>match look σ id with
   | some (.cells _ k' rows)=>match Nat.beq k k',nth rows i with
    | true,some r=>jy ag n j r
    | _,_=>none
   | _=>none
  | _,_=>none
 | _=>none
def Sh(T:List (Nat×TI))(σ:Ab)(f:Env)(t:Nat)(x y:Operand):Option Ab:=
 match (Kf T t).ld,ev f x,ev f y with
 | some (_,n),some (.o (.ptr id k i j)),some e=>match look σ id with
  | some (.cells ct k' rows)=>match Nat.beq k k',nth rows i with
   | true,some r=>match Uu e,Nat.beq (eC e).length n,Nat.ble (j+n) k with
    | true,true,true=>some ((id,.cells ct k (rows.set i (Ae r j (eC e))))::σ)
    | _,_,_=>none
   | _,_=>none
  | _=>none
 | _,_,_=>none
section
variable {P:Program}{TB:BC}{Z:Ctx}{d:Option Tmp}{ty:TypeId}{pos:String}{af:Array Edge}{g:Option (Nat×Bool)}{f:Env}{σ:Ab}{nx:Nat}
theorem Zf{t:TypeId}{a b:Bool}(c:P.underlying t=some .bool)(w:World):(Op.equal t (.bool a) (.bool b)).run P w=.ok (a == b) w:=by
 unfold Op.equal Op.maxDepth;rw [show 10000=9999+1 from rfl,Op.equalIn];simp [run_underlying c,go_sem]
theorem lN{t yt:TypeId}{x y:Operand}{a b:Bool}[h:Sz P t](e:ev f x=some (eB a))(c:ev f y=some (eB b)):A3 P TB Z ⟨d,.binOp .eql t x y yt,ty,pos,af,g⟩ f σ nx (eB (a == b)):=
 BQ e c rfl λw=>by
  have j:binOp .eql t (.bool a) (.bool b)=(do pure (.bool (<-Op.equal t (.bool a) (.bool b)))):=rfl;have i:eqGuard .eql t x y (.bool a) (.bool b)=pure ():=rfl;rw [j,i];simp [Zf h.out w,go_sem]
theorem lX{t yt:TypeId}{x y:Operand}{a b:Bool}[h:Sz P t](e:ev f x=some (eB a))(c:ev f y=some (eB b)):A3 P TB Z ⟨d,.binOp .neq t x y yt,ty,pos,af,g⟩ f σ nx (eB (a != b)):=
 BQ e c rfl λw=>by
  have j:binOp .neq t (.bool a) (.bool b)=(do pure (.bool (!(<-Op.equal t (.bool a) (.bool b))))):=rfl;have i:eqGuard .neq t x y (.bool a) (.bool b)=pure ():=rfl;rw [j,i];simp [Zf h.out w,go_sem,bne]
theorem ou{op:Op}{e:E}(h:mW f op=some e):A3 P TB Z ⟨d,op,ty,pos,af,g⟩ f σ nx e:=by
 unfold mW at h;split at h
 ·exact jU h
 ·split at h
  ·rename_i a;exact gP a h
  ·rename_i a;exact gO a h
  ·cases h
 ·split at h
  ·rename_i a
   refine aG a ?_;rw [<-h];congr 1
  ·cases h
 ·split at h
  ·rename_i a;injection h with h;subst h;exact gL a
  ·rename_i a;injection h with h;subst h;exact jV a
  ·rename_i a;injection h with h;subst h;exact gK a
  ·cases h
 ·cases h
theorem lM{o:BinOp}{t yt:TypeId}{x y:Operand}{ex ey:E}{c:Bool}(e:ev f x=some ex)(b:ev f y=some ey)(a:jg o ex ey=some c) :
 A3 P TB Z ⟨d,.binOp o t x y yt,ty,pos,af,g⟩ f σ nx (eB c):=by
 unfold jg at a;split at a
 ·split at a
  ·rename_i hk
   have hk:=Pt hk;subst hk;unfold kX at a
   split at a<;>first|(injection a with a;subst a)|cases a
   ·exact lW e b
   ·exact lV e b
   ·exact lT e b
   ·exact lS e b
   ·exact lQ e b
   ·exact lZ e b
  ·cases a
 ·unfold kW at a
  split at a<;>first|(injection a with a;subst a)|cases a
  ·exact lO e b
  ·exact lY e b
 ·cases a
theorem TM{k:IntKind}{m:Int}{q:Prop}(h:aP k m=some q)(a:q):k.wrap m=m:=by
 unfold aP at h
 split at h<;>first|(injection h with h;subst h)|cases h
 ·exact IntWalk.i64_in _ a
 ·exact IntWalk.u64_in _ a
 ·exact IntWalk.u8_in _ a
 ·exact IntWalk.i32_in _ a
theorem nh{o:BinOp}{t yt:TypeId}{x y:Operand}{ex ey e:E}{q:Prop}(j:ev f x=some ex)(i:ev f y=some ey)(a:mQ o ex ey=some (q,e))(h:q) :
 A3 P TB Z ⟨d,.binOp o t x y yt,ty,pos,af,g⟩ f σ nx e:=by
 unfold mQ at a;split at a
 ·split at a
  ·injection a with a;injection a with c b;subst c;subst b;exact l6 j i h rfl
  ·split at a
   ·rename_i hk k
    have hk:=Pt hk;have k:=Pt k;subst hk;subst k
    injection a with a;injection a with c b;subst c;subst b;exact jX j i h.1.1 h.1.2 h.2
   ·cases a
  ·split at a
   ·rename_i hk
    have hk:=Pt hk;subst hk;unfold nG at a;split at a
    ·obtain⟨q',l,m⟩:=d7.1 a
     injection m with c b;subst c;subst b;exact lK j i (TM l h)
    ·obtain⟨q',l,m⟩:=d7.1 a
     injection m with c b;subst c;subst b;exact l7 j i (TM l h)
    ·obtain⟨q',l,m⟩:=d7.1 a
     injection m with c b;subst c;subst b;exact iJ j i (TM l h)
    ·injection a with a;injection a with c b;subst c;subst b;exact jY j i h.1 h.2
    ·injection a with a;injection a with c b;subst b;exact iI j i rfl
    ·injection a with a;injection a with c b;subst b;exact jW j i rfl
    ·cases a
   ·cases a
 ·split at a
  ·injection a with a;injection a with c b;subst c;subst b;exact lL j i h
  ·cases a
 ·cases a
theorem lR{s k off:Nat}{x:Operand}{ex e:E}[b:SA P s k off](a:ev f x=some ex)(h:jq off ex=some e):A3 P TB Z ⟨d,.fieldAddr s x k,ty,pos,af,g⟩ f σ nx e:=by
 unfold jq at h
 split at h<;>first|(injection h with h;subst h)|cases h
 ·exact aH a
 ·exact dK a
theorem nq{t:TypeId}{x:Operand}{ex e:E}{ag:Bool}{n:Nat}[b:DV P t ag n](a:ev f x=some ex)(h:m8 ag n ex=some e):A3 P TB Z ⟨d,.load t x,ty,pos,af,g⟩ f σ nx e:=by
 unfold m8 at h;split at h
 ·split at h
  ·injection h with h;subst h;exact Vo a
  ·split at h
   ·rename_i hb;injection h with h;subst h;exact aJ a (am hb)
   ·cases h
  ·cases h
 ·cases h
theorem Y0{t:TypeId}{x:Operand}{id k i j:Nat}{T:TypeId}{rows:List (List C)}{r:List C}{e:E}{ag:Bool}{n:Nat}[q:DV P t ag n](a:ev f x=some (.o (.ptr id k i j)))(l:look σ id=some (.cells T k rows))(b:rows[i]? = some r)
 (h:jy ag n j r=some e):A3 P TB Z ⟨d,.load t x,ty,pos,af,g⟩ f σ nx e:=by
 unfold jy at h;split at h
 ·obtain⟨c,p,m⟩:=d7.1 h
  subst m;exact TF a l b p
 ·split at h
  ·rename_i hb;injection h with h;subst h;exact dS a l b (am hb)
  ·cases h
theorem nk{t:TypeId}{x:Operand}{k off n:Nat}{ag:Bool}{cs:List C}{e:E}[l:Ot P t k off ag n](b:ev f x=some (.a cs))(h:mY ag off n cs=some e):A3 P TB Z ⟨d,.field t x k,ty,pos,af,g⟩ f σ nx e:=by
 unfold mY at h;split at h
 ·obtain⟨c,j,i⟩:=d7.1 h
  subst i;exact gH b j
 ·split at h
  ·rename_i hb;injection h with h;subst h;exact dJ b (am hb)
  ·cases h
theorem nn{t:TypeId}{x y:Operand}{ex e:E}{n:Int}{len k:Nat}{ik:IntKind}[i:Rt P t len k](c:ev f x=some ex)(b:ev f y=some (eI ik n))(h:m7 k n ex=some e)(a:0<=n/\n < len) :
 A3 P TB Z ⟨d,.indexAddr t x y,ty,pos,af,g⟩ f σ nx e:=by
 unfold m7 at h
 split at h<;>first|(injection h with h;subst h)|cases h
 ·exact aI c b a.1 a.2
 ·exact dO c b a.1 a.2
theorem lU{t e:TypeId}{x:Operand}{ex r:E}{k b:Nat}[c:CX P t e k b](a:ev f x=some ex)(h:m9 k ex=some r):A3 P TB Z ⟨d,.call ⟨.builtin .len,#[x],#[t]⟩,ty,pos,af,g⟩ f σ nx r:=by
 unfold m9 at h;split at h
 ·injection h with h;subst h;exact dR a
 ·split at h
  ·injection h with h;subst h;exact jQ a
  ·cases h
 ·cases h
theorem NA{x:Option E}{q:Prop}{e:E}(h:tr x=some (q,e)):x=some e:=by
 cases x with
 | none=>cases h
 | some y=>injection h with h;injection h with _ h;rw [h]
theorem jB{i:TI}{t:TypeId}{x:Operand}{a e:E}(hi:Fc P t i)(c:ev f x=some a)(h:jA i a=some e):A3 P TB Z ⟨d,.call ⟨.builtin .len,#[x],#[t]⟩,ty,pos,af,g⟩ f σ nx e:=by
 unfold jA at h;split at h
 ·split at h
  ·rename_i b
   injection h with h;subst h
   haveI:=hi.cK b;exact jT c
  ·cases h
 ·split at h
  ·rename_i b
   haveI:=hi.UE b;exact lU c h
  ·cases h
theorem jw{i:TI}{t:TypeId}{x y:Operand}{a b e:E}{q:Prop}(hi:Fc P t i)(n:ev f x=some a)(m:ev f y=some b)(h:ju i a b=some (q,e))(j:q):A3 P TB Z ⟨d,.indexAddr t x y,ty,pos,af,g⟩ f σ nx e:=by
 unfold ju at h;split at h
 ·split at h
  ·rename_i c
   split at h
   ·rename_i hk
    injection h with h;injection h with l k;subst l;subst k
    have:=i7 hk;subst this;haveI:=hi.UE c;exact dL n m j.1 j.2
   ·cases h
  ·cases h
 ·split at h
  ·rename_i c
   split at h
   ·rename_i o
    injection h with h;injection h with l k;subst l;subst k
    haveI:=hi.lk c;exact nn n m o j
   ·cases h
  ·cases h
 ·cases h
theorem jI{i:TI}{t yt:TypeId}{x y:Operand}{a b e:E}{q:Prop}(hi:Fc P t i)(l:ev f x=some a)(k:ev f y=some b)(h:jH i.pt a b=some (q,e)):A3 P TB Z ⟨d,.binOp .eql t x y yt,ty,pos,af,g⟩ f σ nx e:=by
 unfold jH at h;split at h
 ·rename_i c
  injection h with h;injection h with m j;subst j
  haveI:=hi.cJ c;exact aF l k
 ·rename_i c
  injection h with h;injection h with m j;subst j
  haveI:=hi.cJ c;exact Xt l k
 ·cases h
theorem jj{i i':TI}{s t:TypeId}{k k':IntKind}{x:Operand}{a e:E}{q:Prop}(hi:Fc P s i)(c:Fc P t i')(hk:i.ik=some k)(b:i'.ik=some k')(l:ev f x=some a)(h:jh k k' a=some (q,e))(n:q):A3 P TB Z ⟨d,.convert s t x,ty,pos,af,g⟩ f σ nx e:=by
 unfold jh at h;split at h
 ·split at h
  ·rename_i j m
   injection h with h;injection h with p o;subst p;subst o
   have j:=Pt j;subst j;haveI:=hi.cI hk;haveI:=c.cI b;exact TD l (TM m n)
  ·cases h
 ·cases h
theorem Zc[n:Dg P]{md:Bool}{op:Op}{q:Prop}{e:E}(h:dY n.T md f op=some (q,e))(i:q):A3 P TB Z ⟨d,op,ty,pos,af,g⟩ f σ nx e:=by
 have a:=λt=>Ed (P:=P) t n.ok;unfold dY at h;split at h
 ·split at h
  ·cases h
  ·exact CL (NA h)
 ·rename_i o t x y yt
  split at h
  ·rename_i b c
   unfold kT at h;split at h
   ·exact jI (a t) b c h
   ·exact nh b c h i
  ·cases h
 ·rename_i s x k
  split at h
  ·rename_i j b
   haveI:=(a s).js j;exact lR b (NA h)
  ·cases h
 ·rename_i t x k
  split at h
  ·rename_i j b
   haveI:=(a t).fS j;exact nk b (NA h)
  ·cases h
 ·rename_i t x
  split at h
  ·rename_i p b
   haveI:=(a t).NQ p;exact nq b (NA h)
  ·cases h
 ·rename_i t x y
  split at h
  ·rename_i b c
   exact jw (a t) b c h i
  ·cases h
 ·rename_i x t
  split at h
  ·rename_i b
   exact jB (a t) b (NA h)
  ·cases h
 ·rename_i s t x
  split at h
  ·rename_i m l b
   exact jj (a s) (a t) m l b h i
  ·cases h
 ·split at h
  ·rename_i m
   split at h
   ·rename_i l
    injection h with h;injection h with _ h;subst h
    exact nj m l
   ·cases h
  ·cases h
 ·exact ou (NA h)
theorem Vs[i:Dg P]{op:Op}{c:Bool}(h:Vr i.T f op=some c):A3 P TB Z ⟨d,op,ty,pos,af,g⟩ f σ nx (eB c):=by
 have e:=λt=>Ed (P:=P) t i.ok;unfold Vr at h;split at h
 ·rename_i o t x y yt
  split at h
  ·rename_i a b
   split at h
   ·rename_i hb
    haveI:=(e t).fR hb;unfold nH at h;split at h
    ·injection h with h;subst h;exact lN a b
    ·injection h with h;subst h;exact lX a b
    ·cases h
   ·exact lM a b h
  ·cases h
 ·split at h
  ·rename_i a
   injection h with h;subst h
   exact l3 a
  ·cases h
 ·cases h
theorem PW[c:Dg P]{op:Op}{e:E}(h:N0 c.T σ f op=some e):A3 P TB Z ⟨d,op,ty,pos,af,g⟩ f σ nx e:=by
 have a:=λt=>Ed (P:=P) t c.ok;unfold N0 at h;split at h
 ·rename_i t x
  split at h
  ·rename_i k i
   split at h
   ·rename_i j
    split at h
    ·rename_i hk b
     have hk:=i7 hk;subst hk;haveI:=(a t).NQ k;rw [OI] at b;exact Y0 i j b h
    ·cases h
   ·cases h
  ·cases h
 ·cases h
theorem PX[c:Dg P]{t:TypeId}{x y:Operand}{σ':Ab}{K:E->Ab->Nat->Prop}(h:Sh c.T σ f t x y=some σ')(l:K (.t []) σ' nx):Cp P TB Z ⟨d,.store t x y,ty,pos,af,g⟩ f σ nx K:=by
 have a:=λt=>Ed (P:=P) t c.ok;unfold Sh at h;split at h
 ·rename_i k i e
  split at h
  ·rename_i j
   split at h
   ·rename_i hk b
    split at h
    ·rename_i o n m
     have hk:=i7 hk;subst hk;haveI:=(a t).NQ k;rw [OI] at b
     injection h with h
     subst h;exact Er i e o j b (i7 n) (am m) l
    ·cases h
   ·cases h
  ·cases h
 ·cases h
end
section
variable {P:Program}{TB:BC}{Z:Ctx}{ops:Array Oper}{fl:Fl}{i n:Nat}{L:List (Nat×E)}{σ:Ab}{nx:Nat}{K:Env->Ab->Nat->Prop}{d:Tmp}{ty:TypeId}{pos:String}{af:Array Edge}{g:Option (Nat×Bool)}{op:Op}
theorem gA{d:Option Tmp}(a:BE ops ⟨d,op,ty,pos,af,g⟩ (look L)=some true)(h:GC P TB Z ops ⟨d,op,ty,pos,af,g⟩ fl i n K L σ nx):Bl P TB Z ops ⟨d,op,ty,pos,af,g⟩ fl i n K L σ nx:=h a
theorem gS{x:E}(a:∀σ nx,A3 P TB Z ⟨some d,op,ty,pos,af,g⟩ (look L) σ nx x)(h:Lex P TB Z ops (Av fl (i+1) n) K (look ((d,x)::L)) σ nx):GC P TB Z ops ⟨some d,op,ty,pos,af,g⟩ fl i n K L σ nx:=λb=>CI a b h
theorem gQ{x:E}(a:A3 P TB Z ⟨some d,op,ty,pos,af,g⟩ (look L) σ nx x)(c:SJ (fl i)=true)(h:Lex P TB Z ops (Av fl (i+1) n) K (look ((d,x)::L)) σ nx):GC P TB Z ops ⟨some d,op,ty,pos,af,g⟩ fl i n K L σ nx:=λb=>gE a b c h
theorem gB{c:Bool}(a:∀σ nx,A3 P TB Z ⟨some d,op,ty,pos,af,g⟩ (look L) σ nx (eB c))(h:∀b,c=b->Lex P TB Z ops (Av fl (i+1) n) K (look ((d,eB b)::L)) σ nx):GC P TB Z ops ⟨some d,op,ty,pos,af,g⟩ fl i n K L σ nx:=λe=>aD a e h
theorem nL{c:Bool}(a:A3 P TB Z ⟨some d,op,ty,pos,af,g⟩ (look L) σ nx (eB c))(f:SJ (fl i)=true)(h:∀b,c=b->Lex P TB Z ops (Av fl (i+1) n) K (look ((d,eB b)::L)) σ nx):GC P TB Z ops ⟨some d,op,ty,pos,af,g⟩ fl i n K L σ nx:=λe=>gE a e f (h c rfl)
theorem gW(h:Cp P TB Z ⟨some d,op,ty,pos,af,g⟩ (look L) σ nx (λx σ' nx'=>Lex P TB Z ops (Av fl (i+1) n) K (look ((d,x)::L)) σ' nx'))(b:fl i=1):GC P TB Z ops ⟨some d,op,ty,pos,af,g⟩ fl i n K L σ nx:=λa=>J9 h a b
theorem nM(h:Cp P TB Z ⟨none,op,ty,pos,af,g⟩ (look L) σ nx (λ_ σ' nx'=>Lex P TB Z ops (Av fl (i+1) n) K (look L) σ' nx'))(b:fl i=1):GC P TB Z ops ⟨none,op,ty,pos,af,g⟩ fl i n K L σ nx:=λa=>HU h a b
theorem yQ{md:Bool}[b:Dg P]{q:Prop}{x:E}(h:dY b.T md (look L) op=some (q,x))(a:q)(hk:Lex P TB Z ops (Av fl (i+1) n) K (look ((d,x)::L)) σ nx):GC P TB Z ops ⟨some d,op,ty,pos,af,g⟩ fl i n K L σ nx:=gS (λ_ _=>Zc h a) hk
theorem yB[a:Dg P]{c:Bool}(h:Vr a.T (look L) op=some c)(hk:∀b,c=b->Lex P TB Z ops (Av fl (i+1) n) K (look ((d,eB b)::L)) σ nx):GC P TB Z ops ⟨some d,op,ty,pos,af,g⟩ fl i n K L σ nx:=gB (λ_ _=>Vs h) hk
theorem yS[b:Dg P]{x:E}(h:N0 b.T σ (look L) op=some x)(a:SJ (fl i)=true)(hk:Lex P TB Z ops (Av fl (i+1) n) K (look ((d,x)::L)) σ nx):GC P TB Z ops ⟨some d,op,ty,pos,af,g⟩ fl i n K L σ nx:=gQ (PW h) a hk
theorem yW[b:Dg P]{t:TypeId}{x y:Operand}{σ':Ab}(h:Sh b.T σ (look L) t x y=some σ')(a:fl i=1)(hk:Lex P TB Z ops (Av fl (i+1) n) K (look L) σ' nx):GC P TB Z ops ⟨none,.store t x y,ty,pos,af,g⟩ fl i n K L σ nx:=nM (PX h hk) a
theorem yO[b:Dg P]{T:TypeId}{z:List Value}(h:(Kf b.T T).ze=some z)(a:z.all QA=true)(c:fl i=1)(e:Lex P TB Z ops (Av fl (i+1) n) K (look ((d,.o (.ptr nx z.length 0 0))::L)) ((nx,.cells T z.length [z.map zC])::σ) (nx+1)):GC P TB Z ops ⟨some d,.alloc T,ty,pos,af,g⟩ fl i n K L σ nx:=
 haveI:=(Ed (P:=P) T b.ok).cL h
 gW (gm a e) c
theorem yM[a:Dg P]{t:TypeId}{x:Operand}{id k i' j:Nat}{T:TypeId}{rows:List (List C)}{r:List C}{e:E}{ag:Bool}{m:Nat}(b:ev (look L) x=some (.o (.ptr id k i' j)))(f:look σ id=some (.cells T k rows))(c:rows[i']? = some r)(l:(Kf a.T t).ld=some (ag,m))
 (h:jy ag m j r=some e) (p:SJ (fl i)=true) (hk:Lex P TB Z ops (Av fl (i+1) n) K (look ((d,e)::L)) σ nx):GC P TB Z ops ⟨some d,.load t x,ty,pos,af,g⟩ fl i n K L σ nx:=
 haveI:=(Ed (P:=P) t a.ok).NQ l
 gQ (Y0 b f c h) p hk
theorem yV[b:Dg P]{t:TypeId}{x y:Operand}{id k i' j m:Nat}{T:TypeId}{rows:List (List C)}{r:List C}{e:E}{ag:Bool}(d:ev (look L) x=some (.o (.ptr id k i' j)))(c:ev (look L) y=some e)(h:Uu e=true)(a:look σ id=some (.cells T k rows))(f:rows[i']? = some r)
 (p:(Kf b.T t).ld=some (ag,m)) (l:(eC e).length=m) (q:Nat.ble (j+m) k=true) (s:fl i=1) (hk:Lex P TB Z ops (Av fl (i+1) n) K (look L) ((id,.cells T k (rows.set i' (Ae r j (eC e))))::σ) nx):GC P TB Z ops ⟨none,.store t x y,ty,pos,af,g⟩ fl i n K L σ nx:=
 haveI:=(Ed (P:=P) t b.ok).NQ p
 nM (Er d c h a f l (am q) hk) s
theorem ox[a:Dg P]{α:Type}{t e:TypeId}{x:Operand}{l:List α}{h:α->List D}{k b:Nat}(c:ev (look L) x=some (.o (.d (.l (l.map h)))))(f:(Kf a.T t).sl=some (e,k,b))(hk:Lex P TB Z ops (Av fl (i+1) n) K (look ((d,eI .i64 l.length)::L)) σ nx):GC P TB Z ops ⟨some d,.call ⟨.builtin .len,#[x],#[t]⟩,ty,pos,af,g⟩ fl i n K L σ nx:=
 haveI:=(Ed (P:=P) t a.ok).UE f
 gS (λ_ _=>jR c) hk
theorem yL[a:Dg P]{t e:TypeId}{x y:Operand}{rows:List (List D)}{row:List D}{m:Int}{k b:Nat}{ik:IntKind}(f:ev (look L) x=some (.o (.d (.l rows))))(c:ev (look L) y=some (eI ik m))(h:rows[m.toNat]? = some row)(p:(Kf a.T t).sl=some (e,k,b))(j:row.length=k)(q:0<=m)
 (hk:Lex P TB Z ops (Av fl (i+1) n) K (look ((d,.o (.ip row))::L)) σ nx):GC P TB Z ops ⟨some d,.indexAddr t x y,ty,pos,af,g⟩ fl i n K L σ nx:=
 haveI:=(Ed (P:=P) t a.ok).UE p
 gS (λ_ _=>dN f c q h j) hk
theorem yT[a:Dg P]{t:TypeId}{x y:Operand}{s:List UInt8}{m:Int}{c:UInt8}{ik:IntKind}(e:ev (look L) x=some (eT s))(b:ev (look L) y=some (eI ik m))(h:s[m.toNat]? = some c)(f:(Kf a.T t).st=true)(j:0<=m)
 (hk:Lex P TB Z ops (Av fl (i+1) n) K (look ((d,eI .u8 (c.toNat:Int))::L)) σ nx):GC P TB Z ops ⟨some d,.index t x y,ty,pos,af,g⟩ fl i n K L σ nx:=
 haveI:=(Ed (P:=P) t a.ok).cK f
 gS (λ_ _=>dQ e b j h) hk
def nt(k m:Nat)(z:List Value)(es:List E):Option (List (List D)):=match es.all Uu,Qs es with
 | true,some rows=>match rows.all λr=>Nat.beq r.length k,Nat.beq z.length k,z.all QA,Nat.ble 1 k,Nat.ble (m*k) 16777216 with
  | true,true,true,true,true=>some rows
  | _,_,_,_,_=>none
 | _,_=>none
theorem yZ[c:Dg P]{t e:TypeId}{k b m:Nat}{z:List Value}{parts:Array (Nat×Operand)}{es:List E}{rows:List (List D)}(r:(Kf c.T t).sl=some (e,k,b))(j:(Kf c.T e).ze=some z)(p:DD 0 (parts.toList.map (·.2))=parts.toList)(q:parts.toList.length=m)
 (f:J8 (look L) (parts.toList.map (·.2))=some es) (a:nt k m z es=some rows)
 (h:Lex P TB Z ops (Av fl (i+1) n) K (look ((d,.o (.d (.l rows)))::L)) σ nx):GC P TB Z ops ⟨some d,.buildSlice t m parts,ty,pos,af,g⟩ fl i n K L σ nx:=by
 haveI:=(Ed (P:=P) t c.ok).UE r;haveI:=(Ed (P:=P) e c.ok).cL j;unfold nt at a;split at a
 ·rename_i A y
  split at a
  ·rename_i x w v u s
   injection a with a
   subst a;exact gS (λ_ _=>PR p q f A y x (i7 w) v u s) h
  ·cases a
 ·cases a
theorem yY{T:TypeId}{x:Operand}{e:E}{ds:List D}(a:ev (look L) x=some e)(b:Uu e=true)(c:Rs (eC e)=some ds)(h:Lex P TB Z ops (Av fl (i+1) n) K (look ((d,.o (.ip ds))::L)) σ nx):GC P TB Z ops ⟨some d,.box T x,ty,pos,af,g⟩ fl i n K L σ nx:=gS (λ_ _=>Db a b c) h
def gq:Nat->List (Nat×Operand)->Bool
 | _,[]=>true
 | k,(i,_)::r=>Nat.beq i k && gq (k+1) r
theorem YS:∀(l:List (Nat×Operand)) (k:Nat),gq k l=true->DD k (l.map (·.2))=l
 | [],_,_=>rfl
 | (i,x)::r,k,h=>by
  unfold gq at h;rw [d4] at h;have a:=i7 h.1;subst a;have:=YS r (i+1) h.2;simp [DD,this]
def gv(c:Nat):Option E->Bool
 | some (.o (.ptr id _ _ _))=>SJ c || (Nat.beq c (10+id) && !Nat.ble 1000 c)
 | _=>SJ c
theorem dZ{T:List (Nat×TI)}{σ σ':Ab}{f:Env}{t:TypeId}{x:Operand}{id k i j:Nat}(a:ev f x=some (.o (.ptr id k i j)))(h:look σ' id=look σ id):N0 T σ' f (.load t x)=N0 T σ f (.load t x):=by
 unfold N0;simp only [a]
 cases (Kf T t).ld with
 | none=>rfl
 | some p=>obtain⟨ag,n⟩:=p;simp only [h]
def Zb(T:List (Nat×TI))(sl:Bool)(c nx:Nat)(σ:Ab)(L:List (Nat×E)):Option Tmp->Op->Option (List (Nat×E)×Ab×Nat)
 | some d,.alloc t=>match Nat.beq c 1,(Kf T t).ze with
  | true,some z=>match z.all QA with
   | true=>some ((d,.o (.ptr nx z.length 0 0))::L,(nx,.cells t z.length [z.map zC])::σ,nx+1)
   | false=>none
  | _,_=>none
 | none,.store t x y=>match Nat.beq c 1,Sh T σ (look L) t x y with
  | true,some σ'=>some (L,σ',nx)
  | _,_=>none
 | some d,.load t x=>match gv c (ev (look L) x),N0 T σ (look L) (.load t x) with
  | true,some e=>some ((d,e)::L,σ,nx)
  | _,_=>none
 | some d,.box _ x=>match sl,ev (look L) x with
  | true,some e=>match Uu e,Rs (eC e) with
   | true,some ds=>some ((d,.o (.ip ds))::L,σ,nx)
   | _,_=>none
  | _,_=>none
 | some d,.buildSlice t m parts=>match sl,(Kf T t).sl with
  | true,some (e,k,_)=>match (Kf T e).ze,J8 (look L) (parts.toList.map (·.2)) with
   | some z,some es=>match nt k m z es,gq 0 parts.toList,Nat.beq parts.toList.length m with
    | some rows,true,true=>some ((d,.o (.d (.l rows)))::L,σ,nx)
    | _,_,_=>none
   | _,_=>none
  | _,_=>none
 | _,_=>none
theorem yU[o:Dg P]{sl:Bool}{d:Option Tmp}{L':List (Nat×E)}{σ':Ab}{nx':Nat}(h:Zb o.T sl (fl i) nx σ L d op=some (L',σ',nx'))(hk:Lex P TB Z ops (Av fl (i+1) n) K (look L') σ' nx'):GC P TB Z ops ⟨d,op,ty,pos,af,g⟩ fl i n K L σ nx:=by
 unfold Zb at h;split at h
 ·split at h
  ·rename_i a b
   split at h
   ·rename_i j
    injection h with h;injection h with f h;injection h with e c;subst f;subst e;subst c
    exact yO b j (i7 a) hk
   ·cases h
  ·cases h
 ·split at h
  ·rename_i a b
   injection h with h;injection h with f h;injection h with e c;subst f;subst e;subst c
   exact yW b (i7 a) hk
  ·cases h
 ·split at h
  ·rename_i a b
   injection h with h;injection h with f h;injection h with e c;subst f;subst e;subst c
   unfold gv at a;split at a
   ·rename_i l
    rw [oN] at a
    rcases a with a|a
    ·exact yS b a hk
    ·rw [d4] at a
     have j:=i7 a.1;refine λm=>lI (λσ' nx' k=>PW (by rw [j,Nat.add_sub_cancel_left] at k;rw [dZ (σ:=σ) (σ':=σ') l k];exact b)) m ⟨qY (by omega),by simpa using a.2⟩ hk
   ·exact yS b a hk
  ·cases h
 ·split at h
  ·rename_i a
   split at h
   ·rename_i b j
    injection h with h;injection h with f h;injection h with e c;subst f;subst e;subst c
    exact yY a b j hk
   ·cases h
  ·cases h
 ·split at h
  ·rename_i a
   split at h
   ·rename_i b j
    split at h
    ·rename_i r q p
     injection h with h;injection h with f h;injection h with e c;subst f;subst e;subst c
     exact yZ a b (YS _ _ q) (i7 p) j r hk
    ·cases h
   ·cases h
  ·cases h
 ·cases h
theorem yP{x:Operand}{args:Array Operand}{tys:Array TypeId}{gg:FuncId}{cap:List C}{es:List E}{r:E}(b:ev (look L) x=some (.o (.fn gg cap)))(a:J8 (look L) args.toList=some es)(f:(es.all E.Cm && C.Ds cap)=true)
 (c:Pure P TB gg (es++cap.map .o) r) (e:r.Cm=true) (h:Lex P TB Z ops (Av fl (i+1) n) K (look ((d,r)::L)) σ nx):GC P TB Z ops ⟨some d,.call ⟨.value x,args,tys⟩,ty,pos,af,g⟩ fl i n K L σ nx:=gS (λ_ _=>Bu b a f c e) h
theorem yC{x:Operand}{args:Array Operand}{tys:Array TypeId}{gg:FuncId}{cap:List C}{es:List E}{c:Bool}(e:ev (look L) x=some (.o (.fn gg cap)))(a:J8 (look L) args.toList=some es)(j:(es.all E.Cm && C.Ds cap)=true)
 (f:Pure P TB gg (es++cap.map .o) (eB c)) (h:∀b,c=b->Lex P TB Z ops (Av fl (i+1) n) K (look ((d,eB b)::L)) σ nx):GC P TB Z ops ⟨some d,.call ⟨.value x,args,tys⟩,ty,pos,af,g⟩ fl i n K L σ nx:=gB (λ_ _=>Bu e a j f rfl) h
theorem yG{d:Option Tmp}{j t:Nat}{w b:Bool}(f:(ops[j]?).bind (·.dst)=some t)(e:look L t=some (eB b))
 (a:b=true->Lex P TB Z ops (Av fl i (n+1)) K (look L) σ nx) (c:b=false->Lex P TB Z ops (Av fl i (n+1)) K (look L) σ nx):Bl P TB Z ops ⟨d,op,ty,pos,af,some (j,w)⟩ fl i n K L σ nx:=by
 intro _;cases b
 ·exact c rfl
 ·exact a rfl
end
abbrev Gv:=Prop×List (Nat×E)×Ab×Nat
def iL(T : List (Nat×TI))(md sl:Bool)(ops:Array Oper)(fl:Fl)(i:Nat)(L:List (Nat×E))(σ:Ab)(nx:Nat):Option Gv:=
 match PK ops.toList (fl.p i) with
 | some ⟨ds,op,ty,pos,af,g⟩=>match BE ops ⟨ds,op,ty,pos,af,g⟩ (look L) with
  | some true=>match ds with
   | some d=>match dY T md (look L) op with
    | some (q,e)=>some (q,(d,e)::L,σ,nx)
    | none=>match Zb T sl (fl i) nx σ L (some d) op with
     | some (L',σ',nx')=>some (True,L',σ',nx')
     | none=>none
   | none=>match Zb T sl (fl i) nx σ L none op with
    | some (L',σ',nx')=>some (True,L',σ',nx')
    | none=>none
  | some false=>match ds with
   | some d=>some (True,(d,.t [])::L,σ,nx)
   | none=>some (True,L,σ,nx)
  | none=>none
 | none=>none
def jL(ops:Array Oper)(fl:Fl)(i:Nat)(L:List (Nat×E)):Option (Option Tmp×Op):=match PK ops.toList (fl.p i) with
 | some ⟨ds,op,ty,pos,af,g⟩=>match BE ops ⟨ds,op,ty,pos,af,g⟩ (look L) with
  | some true=>some (ds,op)
  | _=>none
 | none=>none
def nO(T:List (Nat×TI))(ops:Array Oper)(fl:Fl)(i:Nat)(L:List (Nat×E)):Option (Nat×List (List D)):=match jL ops fl i L with
 | some (some d,.call ⟨.builtin .len,⟨[x]⟩,⟨[t]⟩⟩)=>match (Kf T t).sl,ev (look L) x with
  | some _,some (.o (.d (.l rows)))=>some (d,rows)
  | _,_=>none
 | _=>none
structure As where
 β:Type
 l:List β
 m:Nat
 k:β->Option Gv
def mR(T : List (Nat×TI))(ops:Array Oper)(fl:Fl)(i:Nat)(L:List (Nat×E))(σ:Ab)(nx:Nat):Option As:=match jL ops fl i L with
 | some (some d,.indexAddr t x y)=>match (Kf T t).sl,ev (look L) x,ev (look L) y with
  | some (_,k,_),some (.o (.d (.l rows))),some (.o (.d (.v (.int _ m))))=>some ⟨List D,rows,m.toNat,λr=>match Nat.beq r.length k with
   | true=>some (0<=m,(d,.o (.ip r))::L,σ,nx)
   | false=>none⟩
  | _,_,_=>none
 | some (some d,.index t x y)=>match (Kf T t).st,ev (look L) x,ev (look L) y with
  | true,some (.o (.d (.v (.string ⟨⟨s⟩⟩)))),some (.o (.d (.v (.int _ m))))=>some ⟨UInt8,s,m.toNat,λc=>some (0<=m,(d,eI .u8 (c.toNat:Int))::L,σ,nx)⟩
  | _,_,_=>none
 | some (some d,.load t x)=>match (Kf T t).ld,ev (look L) x with
  | some (ag,m),some (.o (.ptr id k i' j))=>match look σ id with
   | some (.cells _ k' rows)=>match Nat.beq k k',gv (fl i) (some (.o (.ptr id k i' j))) with
    | true,true=>some ⟨List C,rows,i',λr=>match jy ag m j r with
     | some e=>some (True,(d,e)::L,σ,nx)
     | none=>none⟩
    | _,_=>none
   | _=>none
  | _,_=>none
 | some (none,.store t x y)=>match (Kf T t).ld,ev (look L) x,ev (look L) y with
  | some (_,m),some (.o (.ptr id k i' j)),some e=>match look σ id with
   | some (.cells ct k' rows)=>match Nat.beq k k',Nat.beq (fl i) 1,Uu e,Nat.beq (eC e).length m,Nat.ble (j+m) k with
    | true,true,true,true,true=>some ⟨List C,rows,i',λr=>some (True,L,(id,.cells ct k (rows.set i' (Ae r j (eC e))))::σ,nx)⟩
    | _,_,_,_,_=>none
   | _=>none
  | _,_,_=>none
 | _=>none
def n8(T:List (Nat×TI))(ops:Array Oper)(fl:Fl)(i:Nat)(L:List (Nat×E)):Option (Nat×Bool):=match jL ops fl i L with
 | some (some d,op)=>match Vr T (look L) op with
  | some c=>some (d,c)
  | none=>none
 | _=>none
def oo(ops:Array Oper)(fl:Fl)(i:Nat)(L:List (Nat×E)):Option Bool:=match PK ops.toList (fl.p i) with
 | some ⟨_,_,_,_,_,some (j,_)⟩=>match (ops[j]?).bind (·.dst) with
  | some t=>match look L t with
   | some (.o (.d (.v (.bool b))))=>some b
   | _=>none
  | none=>none
 | _=>none
def mA(ops:Array Oper)(fl:Fl)(i:Nat)(L:List (Nat×E)):Option (Nat×FuncId×List E):=match jL ops fl i L with
 | some (some d,.call ⟨.value x,args,_⟩)=>match ev (look L) x,J8 (look L) args.toList with
  | some (.o (.fn gg cap)),some es=>match es.all E.Cm && C.Ds cap with
   | true=>some (d,gg,es++cap.map .o)
   | false=>none
  | _,_=>none
 | _=>none
section
variable {P:Program}{TB:BC}{Z:Ctx}{ops:Array Oper}{fl:Fl}{i n:Nat}{L L':List (Nat×E)}{σ σ':Ab}{nx nx' d:Nat}{K:Env->Ab->Nat->Prop}
theorem Ix{ds:Option Tmp}{op:Op}(h:jL ops fl i L=some (ds,op))(k:∀ty pos af g,GC P TB Z ops ⟨ds,op,ty,pos,af,g⟩ fl i n K L σ nx):Lex P TB Z ops (Av fl i (n+1)) K (look L) σ nx:=by
 unfold jL at h;split at h
 ·rename_i a
  split at h
  ·rename_i b
   injection h with h;injection h with d c;subst d;subst c
   exact Ag a (k _ _ _ _ b)
  ·cases h
 ·cases h
theorem s1{md sl:Bool}[k:Dg P]{q:Prop}(h:iL k.T md sl ops fl i L σ nx=some (q,L',σ',nx'))(j:q)(hk:Lex P TB Z ops (Av fl (i+1) n) K (look L') σ' nx'):Lex P TB Z ops (Av fl i (n+1)) K (look L) σ nx:=by
 unfold iL at h;split at h
 ·rename_i a
  split at h
  ·rename_i f
   split at h
   ·split at h
    ·rename_i g
     injection h with h;injection h with e h;injection h with d h;injection h with c b;subst e;subst d;subst c;subst b
     exact Ag a (yQ g j hk f)
    ·split at h
     ·rename_i g
      injection h with h;injection h with e h;injection h with d h;injection h with c b;subst e;subst d;subst c;subst b
      exact Ag a (yU g hk f)
     ·cases h
   ·split at h
    ·rename_i g
     injection h with h;injection h with e h;injection h with d h;injection h with c b;subst e;subst d;subst c;subst b
     exact Ag a (yU g hk f)
    ·cases h
  ·rename_i f
   split at h
   ·injection h with h;injection h with e h;injection h with d h;injection h with c b;subst e;subst d;subst c;subst b
    exact Ag a (λa=>Xq a f (by rw [DS];exact hk))
   ·injection h with h;injection h with e h;injection h with d h;injection h with c b;subst e;subst d;subst c;subst b
    exact Ag a (λa=>Xq a f hk)
  ·cases h
 ·cases h
theorem sA[b:Dg P]{q:Prop}(h:iL b.T false true ops fl i L σ nx=some (q,L',σ',nx'))(a:q)(hk:Lex P TB Z ops (Av fl (i+1) n) K (look L') σ' nx'):Lex P TB Z ops (Av fl i (n+1)) K (look L) σ nx:=s1 h a hk
theorem sM[b:Dg P]{q:Prop}(h:iL b.T true false ops fl i L σ nx=some (q,L',σ',nx'))(a:q)(hk:Lex P TB Z ops (Av fl (i+1) n) K (look L') σ' nx'):Lex P TB Z ops (Av fl i (n+1)) K (look L) σ nx:=s1 h a hk
theorem sX[b:Dg P]{q:Prop}(h:iL b.T false false ops fl i L σ nx=some (q,L',σ',nx'))(a:q)(hk:Lex P TB Z ops (Av fl (i+1) n) K (look L') σ' nx'):Lex P TB Z ops (Av fl i (n+1)) K (look L) σ nx:=s1 h a hk
theorem sN[e:Dg P]{α:Type}{l:List α}{f:α->List D}(h:nO e.T ops fl i L=some (d,l.map f))(hk:Lex P TB Z ops (Av fl (i+1) n) K (look ((d,eI .i64 l.length)::L)) σ nx):Lex P TB Z ops (Av fl i (n+1)) K (look L) σ nx:=by
 unfold nO at h;split at h
 ·rename_i b
  split at h
  ·rename_i c a
   injection h with h;injection h with j g;subst j;subst g
   exact Ix b λ_ _ _ _=>ox a c hk
  ·cases h
 ·cases h
theorem s4[x : Dg P]{β:Type}{l:List β}{m:Nat}{k:β->Option Gv}{r:β}{q:Prop}(h:mR x.T ops fl i L σ nx=some ⟨β,l,m,k⟩)(s:l[m]? = some r)(e:k r=some (q,L',σ',nx'))(v:q)
 (hk:Lex P TB Z ops (Av fl (i+1) n) K (look L') σ' nx'):Lex P TB Z ops (Av fl i (n+1)) K (look L) σ nx:=by
 unfold mR at h;split at h
 ·rename_i j
  split at h
  ·rename_i o g p
   injection h with h;injection h with d c b a;subst d;subst c;subst b
   have a:=eq_of_heq a;subst a;dsimp only at e;split at e
   ·rename_i hb
    injection e with h;injection h with d h;injection h with c h;injection h with b a;subst d;subst c;subst b;subst a
    exact Ix j λ_ _ _ _=>yL g p s o (i7 hb) v hk
   ·cases e
  ·cases h
 ·rename_i j
  split at h
  ·rename_i o g p
   injection h with h;injection h with d c b a;subst d;subst c;subst b
   have a:=eq_of_heq a;subst a;dsimp only at e
   injection e with h;injection h with d h;injection h with c h;injection h with b a;subst d;subst c;subst b;subst a
   exact Ix j λ_ _ _ _=>yT g p s o v hk
  ·cases h
 ·rename_i j
  split at h
  ·rename_i o g
   split at h
   ·rename_i t
    split at h
    ·rename_i hb f
     injection h with h;injection h with d c b a;subst d;subst c;subst b
     have a:=eq_of_heq a;subst a;dsimp only at e;split at e
     ·rename_i w
      injection e with h;injection h with d h;injection h with c h;injection h with b a;subst d;subst c;subst b;subst a
      have hb:=i7 hb;subst hb;unfold gv at f;rw [oN] at f
      rcases f with f|f
      ·exact Ix j λ_ _ _ _=>yM g t s o w f hk
      ·rw [d4] at f
       have F:=i7 f.1;haveI:=(Ed (P:=P) _ x.ok).NQ o;exact Ix j λ_ _ _ _ y=>lI (λσ' nx' u=>Y0 g (by rw [F,Nat.add_sub_cancel_left] at u;rw [u];exact t) s w) y ⟨qY (by omega),by simpa using f.2⟩ hk
     ·cases e
    ·cases h
   ·cases h
  ·cases h
 ·rename_i j
  split at h
  ·rename_i o g p
   split at h
   ·rename_i t
    split at h
    ·rename_i hb f B A z
     injection h with h;injection h with d c b a;subst d;subst c;subst b
     have a:=eq_of_heq a;subst a;dsimp only at e
     injection e with h;injection h with d h;injection h with c h;injection h with b a;subst d;subst c;subst b;subst a
     have hb:=i7 hb;subst hb;exact Ix j λ_ _ _ _=>yV g p B t s o (i7 A) z (i7 f) hk
    ·cases h
   ·cases h
  ·cases h
 ·cases h
theorem tA[a:Dg P](h:iL a.T false true ops fl i L σ nx=some (True,L',σ',nx'))(hk:Lex P TB Z ops (Av fl (i+1) n) K (look L') σ' nx'):Lex P TB Z ops (Av fl i (n+1)) K (look L) σ nx:=s1 h True.intro hk
theorem tM[a:Dg P](h:iL a.T true false ops fl i L σ nx=some (True,L',σ',nx'))(hk:Lex P TB Z ops (Av fl (i+1) n) K (look L') σ' nx'):Lex P TB Z ops (Av fl i (n+1)) K (look L) σ nx:=s1 h True.intro hk
theorem tX[a:Dg P](h:iL a.T false false ops fl i L σ nx=some (True,L',σ',nx'))(hk:Lex P TB Z ops (Av fl (i+1) n) K (look L') σ' nx'):Lex P TB Z ops (Av fl i (n+1)) K (look L) σ nx:=s1 h True.intro hk
theorem t4[b:Dg P]{β:Type}{l:List β}{m:Nat}{k:β->Option Gv}{r:β}(h:mR b.T ops fl i L σ nx=some ⟨β,l,m,k⟩)(a:l[m]? = some r)(c:k r=some (True,L',σ',nx'))
 (hk:Lex P TB Z ops (Av fl (i+1) n) K (look L') σ' nx'):Lex P TB Z ops (Av fl i (n+1)) K (look L) σ nx:=s4 h a c True.intro hk
theorem s2[f:Dg P]{c:Bool}(h:n8 f.T ops fl i L=some (d,c))(hk:∀b,c=b->Lex P TB Z ops (Av fl (i+1) n) K (look ((d,eB b)::L)) σ nx):Lex P TB Z ops (Av fl i (n+1)) K (look L) σ nx:=by
 unfold n8 at h;split at h
 ·rename_i e
  split at h
  ·rename_i a
   injection h with h;injection h with j g;subst j;subst g
   exact Ix e λ_ _ _ _=>yB a hk
  ·cases h
 ·cases h
theorem s3{b:Bool}(_h:oo ops fl i L=some b)(a:b=true->Lex P TB Z ops (Av fl i (n+1)) K (look L) σ nx)(c:b=false->Lex P TB Z ops (Av fl i (n+1)) K (look L) σ nx):Lex P TB Z ops (Av fl i (n+1)) K (look L) σ nx:=by
 cases b
 ·exact c rfl
 ·exact a rfl
theorem YC{gg:FuncId}{es:List E}(h:mA ops fl i L=some (d,gg,es)):∃x args tys cap a,jL ops fl i L=some (some d,.call ⟨.value x,args,tys⟩)/\ev (look L) x=some (.o (.fn gg cap))/\J8 (look L) args.toList=some a/\(a.all E.Cm && C.Ds cap)=true/\es=a++cap.map .o:=by
 unfold mA at h;split at h
 ·rename_i e
  split at h
  ·rename_i b f
   split at h
   ·rename_i c
    injection h with h;injection h with k h;injection h with j g;subst k;subst j;subst g
    exact⟨_,_,_,_,_,e,b,f,c,rfl⟩
   ·cases h
  ·cases h
 ·cases h
theorem sP{gg:FuncId}{es:List E}{r:E}(h:mA ops fl i L=some (d,gg,es))(b:Pure P TB gg es r)(c:r.Cm=true)(hk:Lex P TB Z ops (Av fl (i+1) n) K (look ((d,r)::L)) σ nx):Lex P TB Z ops (Av fl i (n+1)) K (look L) σ nx:=by
 obtain⟨x,args,tys,cap,j,f,a,g,e,rfl⟩:=YC h;exact Ix f λ_ _ _ _=>yP a g e b c hk
theorem sC{gg:FuncId}{es:List E}{c:Bool}(h:mA ops fl i L=some (d,gg,es))(e:Pure P TB gg es (eB c))(hk:∀b,c=b->Lex P TB Z ops (Av fl (i+1) n) K (look ((d,eB b)::L)) σ nx):Lex P TB Z ops (Av fl i (n+1)) K (look L) σ nx:=by
 obtain⟨x,args,tys,cap,k,g,a,j,f,rfl⟩:=YC h;exact Ix g λ_ _ _ _=>yC a j f e hk
theorem tI:True:=True.intro
end
section
variable {P:Program}{TB:BC}{Z:Ctx}{N:Nat}{ops:Array Oper}{fl:Fl}{i:Nat}{K:Env->Ab->Nat->Prop}{Q:Exit->Env->Ab->Nat->Prop}{f:Env}{σ:Ab}{nx:Nat}
theorem aS{x y:Code}(h:Aj P TB Z N x (Ms (Aj P TB Z N y Q) Q) f σ nx):Aj P TB Z N (.seq x y) Q f σ nx:=.seq h
def WD(N:Nat):List Oper->Bool
 | []=>true
 | o::r=>match o.dst with
  | some d=>bif Nat.ble (d+1) N then WD N r else false
  | none=>WD N r
theorem YB{N:Nat}:∀ {l:List Oper},WD N l=true->∀o∈l,(match o.dst with|some d=>Nat.blt d N|none=>true)=true
 | [],_,o,a=>by cases a
 | x :: l,h,o,a=>by
  unfold WD at h
  rcases oI.1 a with rfl|a
  ·cases b:o.dst with
   | none=>rfl
   | some d=>
    rw [b] at h;dsimp only at h |-
    cases hb:Nat.ble (d+1) N with
    | false=>rw [hb] at h;cases h
    | true=>exact hb
  ·refine YB ?_ o a
   cases b:x.dst with
   | none=>rw [b] at h;exact h
   | some d=>
    rw [b] at h;dsimp only at h
    cases hb:Nat.ble (d+1) N with
    | false=>rw [hb] at h;cases h
    | true=>rw [hb] at h;exact h
theorem cg{N:Nat}{ops:Array Oper}(h:WD N ops.toList=true):Hl N ops=true:=by
 unfold Hl;rw [Array.all_eq_true];intro i hi;exact YB h _ (by simp)
def kC(P:Program)(TB:BC)(Z:Ctx)(N:Nat):Code->(Exit->Env->Ab->Nat->Prop)->Option (Env->Ab->Nat->Prop)
 | .region _ ops false,Q=>bif WD N ops.toList then some (Lex P TB Z ops (Av cH 0 ops.size) (λf σ nx=>Q .normal f σ nx)) else none
 | .seq c d,Q=>match kC P TB Z N c (Ms (Aj P TB Z N d Q) Q) with
  | some G=>some G
  | none=>some (Aj P TB Z N c (Ms (Aj P TB Z N d Q) Q))
 | _,_=>none
theorem dq:∀ {c:Code} {Q:Exit->Env->Ab->Nat->Prop} {G:Env->Ab->Nat->Prop} {f:Env} {σ:Ab} {nx:Nat},kC P TB Z N c Q=some G->G f σ nx->Aj P TB Z N c Q f σ nx
 | .region _ ops false,Q,G,f,σ,nx,h,g=>by
  unfold kC at h
  cases b:WD N ops.toList with
  | false=>rw [b] at h;cases h
  | true=>rw [b] at h;injection h with h;subst h;exact nR (cg b) g
 | .seq c d,Q,G,f,σ,nx,h,g=>by
  unfold kC at h;refine .seq ?_
  cases a:kC P TB Z N c (Ms (Aj P TB Z N d Q) Q) with
  | none=>rw [a] at h;injection h with h;subst h;exact g
  | some G=>rw [a] at h;injection h with h;subst h;exact dq a g
 | .region _ ops true,Q,G,f,σ,nx,h,g=>by cases h
 | .skip,Q,G,f,σ,nx,h,g=>by cases h
 | .cond ..,Q,G,f,σ,nx,h,g=>by cases h
 | .block ..,Q,G,f,σ,nx,h,g=>by cases h
 | .ret,Q,G,f,σ,nx,h,g=>by cases h
 | .exit ..,Q,G,f,σ,nx,h,g=>by cases h
theorem aU{c:Code}{G:Env->Ab->Nat->Prop}(h:kC P TB Z N c Q=some G)(g:G f σ nx):Aj P TB Z N c Q f σ nx:=dq h g
theorem aR(h:Q .ret f σ nx):Aj P TB Z N .ret Q f σ nx:=.ret h
theorem aK(h:Q .normal f σ nx):Aj P TB Z N .skip Q f σ nx:=.skip h
theorem aE{id:Nat}(h:Q (.exit id) f σ nx):Aj P TB Z N (.exit id) Q f σ nx:=.exit h
theorem aB{id:Nat}{c:Code}(h:Aj P TB Z N c (mD id Q) f σ nx):Aj P TB Z N (.block id c) Q f σ nx:=.block h
theorem aC{c:Operand}{x y:Code}{b:Bool}(e:ev f c=some (.o (.d (.v (.bool b)))))(ht:b=true->Aj P TB Z N x Q f σ nx)(a:b=false->Aj P TB Z N y Q f σ nx):Aj P TB Z N (.cond c x y) Q f σ nx:=.cond e ht a
theorem eN {g:FuncId} {fn:Func} {c:Code} {args:List E} {post:E->Ab->Nat->Prop} (b:P.funcs[g]? = some fn) (hb:fn.body=some c) (a:(fn.name == "runtime.NumGoroutine")=false) (ha:Nat.ble args.length fn.ntmps=true)
 (h:∀Z:Ctx,Z.V.nx=nx->Aj P TB Z fn.ntmps c (kJ fn.results post) (look (Cq 0 args)) σ nx):Spec P TB g σ nx args post:=.of b hb a (am ha) h
end
section
variable {P:Program}{TB:BC}{Z:Ctx}{d:Option Tmp}{ty:TypeId}{pos:String}{af:Array Edge}{g:Option (Nat×Bool)}{f:Env}{σ:Ab}{nx:Nat}
theorem Xx{t e:TypeId}{k b:Nat}{z:List Value}{ik ik':IntKind}{n c:Int}(B:iK P t=some (e,k,b))(x:bB P e=some z)(f:z.length=k)(H:0 < b)(I:0<=n)(A:n<=c)(G:c*b<=140737488355328)(w:World) :
 ∃zv:Value,zv.cells.toList=z/\(Instr.makeSlice t (.int ik n) (.int ik' c)).run P w=.ok (.slice (some ⟨w.heap.size,0,none⟩) n.toNat c.toNat) (w.alloc (.cells ((Array.range (c.toNat*z.length)).map (zv.cells[· % zv.cells.size]!)) e)):=by
 obtain⟨i,y,hi,j,l⟩:=G0 B;obtain⟨i',zv,a,m,h⟩:=Hz x
 rw [hi] at a;injection a with a;subst a
 refine⟨zv,h,?_⟩
 have p:0<=c:=by omega
 have F:c<=c*b:=by
  have:=pb (show (1:Int)<=(b:Int) by omega) p;omega
 have wn:IntKind.i64.wrap n=n:=IntWalk.i64_in n (by omega);have wc:IntKind.i64.wrap c=c:=IntWalk.i64_in c (by omega)
 have v:zv.cells.size=k:=by rw [<-f,<-h];simp
 have q:(b:Int)*c<=140737488355328:=by rw [qJ];exact G
 have ht:¬(281474976710656:Int) < (b:Int)*c:=by omega
 generalize d:(Array.range (c.toNat*z.length)).map (zv.cells[· % zv.cells.size]!)=cur
 have u:¬c < 0:=by omega
 have s:¬n < 0:=by omega
 have r:¬c < n:=by omega
 simp only [Instr.makeSlice,ol,run_underlying y,jp,asInt,asIntOf,pure_bind,bind_pure_comp,map_pure,typeInfo,sizeOf,wn,wc];by_cases g:c.toNat*k=0
 ·have o:cur = #[]:=by
   have:cur.size=0:=by rw [<-d];simp [f,g]
   exact qe this
  simp [go_sem,hi,l,j,u,s,r,ht,askRoom,g,newRow,newObj,o];rfl
 ·simp [go_sem,hi,l,j,u,s,r,ht,askRoom,g,newRow,newObj,zeroValue,typeInfo,m,<-d,f]
  rfl
theorem Y8{t e:TypeId}{k b:Nat}{z:List Value}{dz:List D}{x y:Operand}{ik ik':IntKind}{n:Int}[X:CX P t e k b][S:BT P e z](U:ev f x=some (eI ik n))(T:ev f y=some (eI ik' n))(p:z.length=k)(G:z.all QA=true)(q:z.map zC=dz.map C.d)(K:0 < b)
 (R:0<=n) (hc:n*b<=140737488355328):A3 P TB Z ⟨d,.makeSlice t x y,ty,pos,af,g⟩ f σ nx (.o (.d (.l (List.replicate n.toNat dz)))):=
 JR λV ρ Q h2=>by
  have B:ρ x=.int ik n:=AH.val (Q.get (by simp [Op.operands]) U);have A:ρ y=.int ik' n:=AH.val (Q.get (by simp [Op.operands]) T);obtain⟨zv,u,c⟩:=Xx (ik:=ik) (ik':=ik') X.out S.out p K R (sE n) hc V.w
  have hcb:n<=n*b:=by
   have:=pb (show (1:Int)<=(b:Int) by omega) R;omega
  have m:=ND (V:=V) (n:=n.toNat) u G;generalize N:(Array.range (n.toNat*z.length)).map (zv.cells[· % zv.cells.size]!)=cur at c m;obtain⟨hi,M⟩:=h2.Ww (w:=V.w.alloc (.cells cur e)) rfl rfl rfl (by simp) (λb hb=>Bh _ _ _ hb)
  have J:dz.length=k:=by have:=congrArg List.length q;simp at this;omega
  have a:∀(i:Nat) (r:List D) (j:Nat) (x:D),(List.replicate n.toNat dz)[i]? = some r->r[j]? = some x->∃v,cur[i*k+j]? = some v/\Dn V.I V.w x v:=λi r j x hi s=>by
   have F:r=dz:=qd (co hi);subst F
   have H:i < n.toNat:=by have:=(ce.1 hi).1;simpa using this
   obtain⟨v,h9,h⟩:=Hm (k:=k) m (λr F=>by rw [qd F];simp [p]) i (z.map zC) j (.d x) (by simp [H]) (by rw [q];simp [s])
   cases h with
   | d h=>exact⟨v,h9,h⟩
  refine⟨.slice (some ⟨V.w.heap.size,0,none⟩) n.toNat n.toNat,LX V (V.w.alloc (.cells cur e)),?_,M,hi,rfl,?_⟩
  ·show ((do let v <-Instr.makeSlice t (ρ x) (ρ y);pure (Go.Next.value v):Sem Go.Next)).run P V.w=_
   rw [B,A];simp only [ol,c,jp];rfl
  ·have hb:(LX V (V.w.alloc (.cells cur e))).I V.w.heap.size:=.inr rfl
   have Y:(LX V (V.w.alloc (.cells cur e))).w.heap[V.w.heap.size]? = some (.cells cur e):=Ci _ _;have := @Dn.l (LX V (V.w.alloc (.cells cur e))).I (LX V (V.w.alloc (.cells cur e))).w (List.replicate n.toNat dz) V.w.heap.size 0 k n.toNat (λi j=>cur.getD (i*k+j) undef) hb (by simp) (by unfold maxLen;omega)
    (λi r hi=>by rw [qd (co hi)];exact J)
    (λi r j x hi s=>by
     obtain⟨v,L,_⟩:=a i r j x hi s
     simp [World.cell?,Y,L])
    (λi r j x hi s=>by
     obtain⟨v,L,h7⟩:=a i r j x hi s
     have:cur.getD (i*k+j) undef=v:=by simp [L]
     rw [this];exact h7.ext M)
   rw [rN] at this;exact .d this
end
end Go.Am
