/-
  The steps of a walk, few and short: what an operation gives is reckoned.
-/
import Derived.Test.YtgpbfllcjdfelaaGreatDoorPart11
set_option linter.all false
namespace Go.Am
open Go
class Qi (P:Program) (t:TypeId):Prop where
 out:P.underlying t=some .bool
theorem oA{p:Prop}[Decidable p]:(decide p=true)=p:=decide_eq_true_eq
theorem oB{p:Prop}[Decidable p]:decide p=false↔¬p:=decide_eq_false_iff_not
theorem oC{α β:Type}{l:List α}{f:α->β}:(l.map f).length=l.length:=f9 f
theorem oD{α:Type}{l m:List α}:(l++m).length=l.length+m.length:=mI
theorem oE{α:Type}{n:Nat}{x:α}:(List.replicate n x).length=n:=List.length_replicate
theorem oF{α:Type}{x:α}{l:List α}:(x::l).length=l.length+1:=l7
theorem oG{α:Type}:([]:List α).length=0:=oV
theorem oZ:(∀(p:Prop) [Decidable p],(decide p=true)=p)/\(∀(p:Prop) [Decidable p],decide p=false↔¬p)/\(∀(α β:Type) (l:List α) (f:α->β),(l.map f).length=l.length)/\(∀(α:Type) (l m:List α),(l++m).length=l.length+m.length)/\(∀(α:Type) (n:Nat) (x:α),(List.replicate n x).length=n)/\(∀(α:Type) (x:α) (l:List α),(x::l).length=l.length+1)/\∀(α:Type),([]:List α).length=0:=
 ⟨λ_ _=>oA,λ_ _=>oB,λ_ _ _ _=>oC,λ_ _ _=>oD,λ_ _ _=>oE,λ_ _ _=>oF,λ_=>oG⟩
structure TI where
 ld:Option (Bool×Nat):=none
 ik:Option IntKind:=none
 st:Bool:=false
 sl:Option (Nat×Nat×Nat):=none
 ar:Option (Nat×Nat):=none
 fl:List (Option (Nat×Bool×Nat)):=[]
 pt:Bool:=false
 bo:Bool:=false
 ze:Option (List Value):=none
def RL(P:Program)(t:Nat):Nat->List (Option (Nat×Bool×Nat))->Prop
 | _,[]=>True
 | k,none::r=>RL P t (k+1) r
 | k,some x::r=>(Xz P t k=some x.1/\XA P t k=some x)/\RL P t (k+1) r
structure Ey (P:Program) (t:Nat) (i:TI):Prop where
 ld:i.ld=none\/fx P t=i.ld
 ik:i.ik=none\/P.underlying t=i.ik.map .int
 st:i.st=false\/P.underlying t=some .string
 sl:i.sl=none\/gd P t=i.sl
 ar:i.ar=none\/gV P t=i.ar
 fl:RL P t 0 i.fl
 pt:i.pt=false\/∃e,P.underlying t=some (.pointer e)
 bo:i.bo=false\/P.underlying t=some .bool
 ze:i.ze=none\/YJ P t=i.ze
def Vm(P:Program):List (Nat×TI)->Prop
 | []=>True
 | (t,i)::r=>Ey P t i/\Vm P r
def kr:Value->Value->Bool
 | .int k n,.int k' n'=>decide (k=k') && decide (n=n')
 | .bool a,.bool b=>decide (a=b)
 | .string ⟨⟨a⟩⟩,.string ⟨⟨b⟩⟩=>a.isEmpty && b.isEmpty
 | .slice none 0 0,.slice none 0 0=>true
 | .pointer none,.pointer none=>true
 | .map none,.map none=>true
 | .nilFunc,.nilFunc=>true
 | .nilIface,.nilIface=>true
 | _,_=>false
theorem gu:∀ {a b:Value},kr a b=true->a=b:=by
 intro a b h;unfold kr at h;split at h<;>simp_all
def jE:List Value->List Value->Bool
 | [],[]=>true
 | a::l,b::m=>kr a b && jE l m
 | _,_=>false
theorem bN:∀ {l m:List Value},jE l m=true->l=m
 | [],[],_=>rfl
 | a::l,b::m,h=>by
  unfold jE at h;rw [d4] at h;rw [gu h.1,bN h.2]
 | [],_::_,h=>by cases h
 | _::_,[],h=>by cases h
def ic(P:Program)(t:Nat):Nat->List (Option (Nat×Bool×Nat))->Bool
 | _,[]=>true
 | k,none::r=>ic P t (k+1) r
 | k,some x::r=>decide (Xz P t k=some x.1) && decide (XA P t k=some x) && ic P t (k+1) r
theorem Uc{P:Program}{t:Nat}:∀ {l:List (Option (Nat×Bool×Nat))} {k:Nat},ic P t k l=true->RL P t k l
 | [],_,_=>trivial
 | none::r,k,h=>Uc (l:=r) (k:=k+1) h
 | some x::r,k,h=>by
  unfold ic at h;simp only [d4,decide_eq_true_eq] at h;exact⟨h.1,Uc h.2⟩
def kI(d:Option TypeDesc)(i:TI):Bool:=match d with
 | some (.int k)=>(match i.ik with|none=>true|some k'=>decide (k=k')) && !i.st && !i.pt && !i.bo
 | some .string=>i.ik.isNone && !i.pt && !i.bo
 | some (.pointer _)=>i.ik.isNone && !i.st && !i.bo
 | some .bool=>i.ik.isNone && !i.st && !i.pt
 | _=>i.ik.isNone && !i.st && !i.pt && !i.bo
def kj(P:Program)(t:Nat)(i:TI):Bool:=
 (i.ld.isNone || decide (fx P t=i.ld)) && (kI (P.underlying t) i && ((i.sl.isNone || decide (gd P t=i.sl)) && ((i.ar.isNone || decide (gV P t=i.ar)) && (ic P t 0 i.fl && match i.ze with
  | none=>true
  | some l=>match YJ P t with
   | some l'=>jE l' l
   | none=>false))))
theorem or_none{α:Type}[DecidableEq α]{a b:Option α}(h:(b.isNone || decide (a=b))=true):b=none\/a=b:=by
 rw [lK] at h
 rcases h with h|h
 ·left;cases b<;>simp_all
 ·right;exact of_decide_eq_true h
theorem gm{P:Program}{t:Nat}{i:TI}(h:kj P t i=true):Ey P t i:=by
 unfold kj at h;simp only [d4] at h;obtain⟨o,f,n,m,j,b⟩:=h
 have a:(i.ik=none\/P.underlying t=i.ik.map .int)/\(i.st=false\/P.underlying t=some .string)/\(i.pt=false\/∃e,P.underlying t=some (.pointer e))/\(i.bo=false\/P.underlying t=some .bool):=by
  unfold kI at f;split at f
  ·rename_i k hk
   cases g:i.ik<;>simp_all
  all_goals simp_all
 refine⟨or_none o,a.1,a.2.1,or_none n,or_none m,Uc j,a.2.2.1,a.2.2.2,?_⟩;split at b
 ·rename_i d;exact .inl d
 ·rename_i l d
  split at b
  ·rename_i l' c
   right;rw [c,d,bN b]
  ·cases b
def eK(P:Program):List (Nat×TI)->Bool
 | []=>true
 | (t,i)::r=>kj P t i && eK P r
theorem Vu{P:Program}:∀ {l:List (Nat×TI)},eK P l=true->Vm P l
 | [],_=>trivial
 | (t,i)::r,h=>by
  unfold eK at h;rw [d4] at h;exact⟨gm h.1,Vu h.2⟩
class CX (P:Program) where
 T:List (Nat×TI)
 ok:Vm P T
def Jj:List (Nat×TI)->Nat->TI
 | [],_=>{}
 | (k,x)::r,t=>bif Nat.beq k t then x else Jj r t
def nth{α:Type}:List α->Nat->Option α
 | [],_=>none
 | x::_,0=>some x
 | _::r,n+1=>nth r n
theorem Nj{α:Type}:∀(l:List α) (i:Nat),nth l i=l[i]?
 | [],_=>by simp [nth]
 | o::_,0=>by simp [nth]
 | _::r,n+1=>by simp [nth,Nj r n]
theorem DL{P:Program}(t:Nat):∀ {T:List (Nat×TI)},Vm P T->Ey P t (Jj T t)
 | [],_=>⟨.inl rfl,.inl rfl,.inl rfl,.inl rfl,.inl rfl,trivial,.inl rfl,.inl rfl,.inl rfl⟩
 | (k,x)::r,h=>by
  unfold Jj;cases hb:Nat.beq k t
  ·exact DL t h.2
  ·have:=f7 hb
   subst this;exact h.1
section
variable {P:Program}{t:Nat}{i:TI}
theorem Ey.Mr(h:Ey P t i){ag:Bool}{n:Nat}(e:i.ld=some (ag,n)):DC P t ag n:=⟨by rcases h.ld with h|h<;>simp_all⟩
theorem Ey.Zq(h:Ey P t i){k:IntKind}(e:i.ik=some k):Jq P t k:=⟨by rcases h.ik with h|h<;>simp_all⟩
theorem Ey.Zs(h:Ey P t i)(e:i.st=true):DF P t:=⟨by rcases h.st with h|h<;>simp_all⟩
theorem Ey.Sm(h:Ey P t i){e k b:Nat}(a:i.sl=some (e,k,b)):CL P t e k b:=⟨by rcases h.sl with h|h<;>simp_all⟩
theorem Ey.ij(h:Ey P t i){n k:Nat}(a:i.ar=some (n,k)):Pn P t n k:=⟨by rcases h.ar with h|h<;>simp_all⟩
theorem Ey.Zr(h:Ey P t i)(e:i.pt=true):TL P t:=⟨h.pt.resolve_left (by simp [e])⟩
theorem Ey.cy(h:Ey P t i)(e:i.bo=true):Qi P t:=⟨by rcases h.bo with h|h<;>simp_all⟩
theorem Ey.Zt(h:Ey P t i){z:List Value}(e:i.ze=some z):BJ P t z:=⟨by rcases h.ze with h|h<;>simp_all⟩
theorem RL.get:∀ {l:List (Option (Nat×Bool×Nat))} {k j:Nat} {x:Nat×Bool×Nat},RL P t k l->nth l j=some (some x)->Xz P t (k+j)=some x.1/\XA P t (k+j)=some x
 | [],_,_,_,_,h=>by simp [nth] at h
 | none::r,k,0,x,_,h=>by simp [nth] at h
 | some y::r,k,0,x,a,h=>by simp [nth] at h;subst h;exact a.1
 | none::r,k,j+1,x,a,h=>by
  have:=RL.get (l:=r) (k:=k+1) (j:=j) (x:=x) a h;rwa [show k+(j+1)=k+1+j by omega]
 | some y::r,k,j+1,x,a,h=>by
  have:=RL.get (l:=r) (k:=k+1) (j:=j) (x:=x) a.2 h;rwa [show k+(j+1)=k+1+j by omega]
theorem Ey.fo(h:Ey P t i){j off n:Nat}{ag:Bool}(e:nth i.fl j=some (some (off,ag,n))):Qj P t j off:=⟨by have:=(h.fl.get e).1;rwa [lE] at this⟩
theorem Ey.cC(h:Ey P t i){j off n:Nat}{ag:Bool}(e:nth i.fl j=some (some (off,ag,n))):MY P t j off ag n:=⟨by have:=(h.fl.get e).2;rwa [lE] at this⟩
end
def FH(P:Program)(TB:Bp)(Z:Ctx)(ops:Array Oper)(o:Oper)(fl:Fl)(i n:Nat)(K:Env->Ab->Nat->Prop)(L:List (Nat×E))(σ:Ab)(nx:Nat):Prop:=
 Br ops o (look L)=some true->A9 P TB Z ops o fl i n K L σ nx
def xE:Bool×List C->Option E
 | (false,[c])=>some (.o c)
 | (true,cs)=>some (.a cs)
 | _=>none
def jP(f:Env):Op->Option E
 | .move x=>ev f x
 | .pick c x y=>match ev f c with
  | some (.o (.d (.v (.bool true))))=>ev f x
  | some (.o (.d (.v (.bool false))))=>ev f y
  | _=>none
 | .extract x k=>match ev f x with
  | some (.t xs)=>(xs[k]?).bind xE
  | _=>none
 | .nilCheck x=>match ev f x with
  | some (.o (.d (.p cs)))=>some (.o (.ip cs))
  | some (.o (.ptr id k i j))=>some (.o (.ptr id k i j))
  | some (.o (.fn gg cs))=>some (.o (.fn gg cs))
  | _=>none
 | _=>none
def gz:IntKind->IntKind->Bool
 | .i64,.i64|.u8,.u8|.u64,.u64|.i32,.i32|.u16,.u16|.u32,.u32=>true
 | _,_=>false
theorem NS{a b:IntKind}(h:gz a b=true):a=b:=by cases a<;>cases b<;>first|rfl|cases h
def hX(o:BinOp)(m n:Int):Option Bool:=match o with
 | .lss=>some (decide (m < n))
 | .leq=>some (decide (m<=n))
 | .gtr=>some (decide (m > n))
 | .geq=>some (decide (m>=n))
 | .eql=>some (decide (m=n))
 | .neq=>some (decide (m≠n))
 | _=>none
def hO(o:BinOp)(a b:List UInt8):Option Bool:=match o with
 | .eql=>some (decide (a=b))
 | .neq=>some (decide (a≠b))
 | _=>none
def eX(o:BinOp):E->E->Option Bool
 | .o (.d (.v (.int k m))),.o (.d (.v (.int k' n)))=>match gz k k' with
  | true=>hX o m n
  | false=>none
 | .o (.d (.v (.string ⟨⟨a⟩⟩))),.o (.d (.v (.string ⟨⟨b⟩⟩)))=>hO o a b
 | _,_=>none
def X6:IntKind->Int->Option Prop
 | .i64,m=>some (-9223372036854775808<=m/\m<=9223372036854775807)
 | .u64,m=>some (0<=m/\m<=18446744073709551615)
 | .u8,m=>some (0<=m/\m<=255)
 | .i32,m=>some (-2147483648<=m/\m<=2147483647)
 | _,_=>none
def kz(o:BinOp)(k:IntKind)(m n:Int):Option (Prop×E):=match o with
 | .add=>(X6 k (m+n)).map λq=>(q,eI k (m+n))
 | .sub=>(X6 k (m - n)).map λq=>(q,eI k (m - n))
 | .mul=>(X6 k (m*n)).map λq=>(q,eI k (m*n))
 | .rem=>some (0<=m/\0 < n,eI k (m % n))
 | .and=>some (True,eI k (Jg k m n))
 | .or=>some (True,eI k (FV k m n))
 | _=>none
def jJ(o:BinOp):E->E->Option (Prop×E)
 | .o (.d (.v (.int k m))),.o (.d (.v (.int k' n)))=>match o with
  | .shr=>some (0<=n,eI k (m.fdiv (2 ^ (min n.toNat k.bits))))
  | .quo=>match gz k .i64,gz k' .i64 with
   | true,true=>some ((0<=m/\m<=9223372036854775807)/\0 < n,eI .i64 (m / n))
   | _,_=>none
  | o=>match gz k k' with
   | true=>kz o k m n
   | false=>none
 | .o (.d (.v (.string ⟨⟨a⟩⟩))),.o (.d (.v (.string ⟨⟨b⟩⟩)))=>match o with
  | .add=>some (a.length+b.length<=9223372036854775807,eT (a++b))
  | _=>none
 | _,_=>none
def fj(off:Nat):E->Option E
 | .o (.d (.p cs))=>some (.o (.ip (cs.drop off)))
 | .o (.ptr id k i j)=>some (.o (.ptr id k i (j+off)))
 | _=>none
def jU(ag:Bool)(n:Nat):E->Option E
 | .o (.d (.p cs))=>match ag,cs with
  | false,c::_=>some (.o (.d c))
  | true,cs=>match Nat.ble n cs.length with
   | true=>some (.a ((cs.take n).map .d))
   | false=>none
  | _,_=>none
 | _=>none
def fy(ag:Bool)(n j:Nat)(r:List C):Option E:=match ag with
 | false=>(r[j]?).map .o
 | true=>match Nat.ble (j+n) r.length with
  | true=>some (.a ((r.drop j).take n))
  | false=>none
def jR(ag:Bool)(off n:Nat)(cs:List C):Option E:=match ag with
 | false=>(cs[off]?).map .o
 | true=>match Nat.ble (off+n) cs.length with
  | true=>some (.a ((cs.drop off).take n))
  | false=>none
def jT(k:Nat)(n:Int):E->Option E
 | .o (.d (.p cs))=>some (.o (.ip (cs.drop (n.toNat*k))))
 | .o (.ptr id k' i j)=>some (.o (.ptr id k' i (j+n.toNat*k)))
 | _=>none
def jV(k:Nat):E->Option E
 | .o (.d (.l rows))=>some (eI .i64 rows.length)
 | .o (.arr _ k' _ len)=>match Nat.beq k' k with
  | true=>some (eI .i64 len)
  | false=>none
 | _=>none
def tr:Option E->Option (Prop×E)
 | some e=>some (True,e)
 | none=>none
def fG:Bool->E->E->Option (Prop×E)
 | true,.o (.d (.p _)),.o (.d (.v (.pointer none)))=>some (True,eB false)
 | true,.o (.d (.v (.pointer none))),.o (.d (.v (.pointer none)))=>some (True,eB true)
 | _,_,_=>none
def gZ(pt:Bool)(o:BinOp)(a b:E):Option (Prop×E):=match o with
 | .eql=>fG pt a b
 | o=>jJ o a b
def ft(i:TI):E->E->Option (Prop×E)
 | .o (.arr id k off len),.o (.d (.v (.int _ m)))=>match i.sl with
  | some (_,k',_)=>match Nat.beq k k' with
   | true=>some (0<=m/\m < len,.o (.ptr id k (off+m.toNat) 0))
   | false=>none
  | none=>none
 | a, .o (.d (.v (.int _ m)))=>match i.ar with
  | some (len,k)=>match jT k m a with
   | some e=>some (0<=m/\m < len,e)
   | none=>none
  | none=>none
 | _,_=>none
def fB(i:TI):E->Option E
 | .o (.d (.v (.string ⟨⟨s⟩⟩)))=>match i.st with
  | true=>some (eI .i64 s.length)
  | false=>none
 | e=>match i.sl with
  | some (_,k,_)=>jV k e
  | none=>none
def eY(k k':IntKind):E->Option (Prop×E)
 | .o (.d (.v (.int a m)))=>match gz a k,X6 k' m with
  | true,some q=>some (q,eI k' m)
  | _,_=>none
 | _=>none
def aJ(T:List (Nat×TI))(md:Bool)(f:Env):Op->Option (Prop×E)
 | .assign x=>match md,notNil x with
  | true,false=>none
  | _,_=>tr (ev f x)
 | .binOp o t x y _=>match ev f x,ev f y with
  | some a,some b=>gZ (Jj T t).pt o a b
  | _,_=>none
 | .fieldAddr s x k=>match nth (Jj T s).fl k,ev f x with
  | some (some (off,_,_)),some a=>tr (fj off a)
  | _,_=>none
 | .field t x k=>match nth (Jj T t).fl k,ev f x with
  | some (some (off,ag,n)),some (.a cs)=>tr (jR ag off n cs)
  | _,_=>none
 | .load t x=>match (Jj T t).ld,ev f x with
  | some (ag,n),some a=>tr (jU ag n a)
  | _,_=>none
 | .indexAddr t x y=>match ev f x,ev f y with
  | some a,some b=>ft (Jj T t) a b
  | _,_=>none
 | .call ⟨.builtin .len,⟨[x]⟩,⟨[t]⟩⟩=>match ev f x with
  | some a=>tr (fB (Jj T t) a)
  | none=>none
 | .convert s t x=>match (Jj T s).ik,(Jj T t).ik,ev f x with
  | some k,some k',some a=>eY k k' a
  | _,_,_=>none
 | .makeFunc (.func gg) ⟨[]⟩ caps=>match Jf f caps.toList with
  | some es=>match bL es with
   | some cs=>some (True,.o (.fn gg cs))
   | none=>none
  | none=>none
 | op=>tr (jP f op)
def kB:BinOp->E->E->Option Bool
 | .eql,.o (.d (.v (.bool a))),.o (.d (.v (.bool b)))=>some (a == b)
 | .neq,.o (.d (.v (.bool a))),.o (.d (.v (.bool b)))=>some (a != b)
 | _,_,_=>none
def Tb(T:List (Nat×TI))(f:Env):Op->Option Bool
 | .binOp o t x y _=>match ev f x,ev f y with
  | some a,some b=>match (Jj T t).bo with
   | true=>kB o a b
   | false=>eX o a b
  | _,_=>none
 | .unOp .not _ x=>match ev f x with
  | some (.o (.d (.v (.bool b))))=>some (!b)
  | _=>none
 | _=>none
def ME(T:List (Nat×TI))(σ:Ab)(f:Env):Op->Option E
 | .load t x=>match (Jj T t).ld,ev f x with
  | some (ag,n),some (.o (.ptr id k i j))=>match look σ id with
   | some (.cells _ k' rows)=>match Nat.beq k k',nth rows i with
    | true,some r=>fy ag n j r
    | _,_=>none
   | _=>none
  | _,_=>none
 | _=>none
def PY(T:List (Nat×TI))(σ:Ab)(f:Env)(t:Nat)(x y:Operand):Option Ab:=
 match (Jj T t).ld,ev f x,ev f y with
 | some (_,n),some (.o (.ptr id k i j)),some e=>match look σ id with
  | some (.cells ct k' rows)=>match Nat.beq k k',nth rows i with
   | true,some r=>match Sc e,Nat.beq (eC e).length n,Nat.ble (j+n) k with
    | true,true,true=>some ((id,.cells ct k (rows.set i (Af r j (eC e))))::σ)
    | _,_,_=>none
   | _,_=>none
  | _=>none
 | _,_,_=>none
section
variable {P:Program}{TB:Bp}{Z:Ctx}{d:Option Tmp}{ty:TypeId}{pos:String}{af:Array Edge}{g:Option (Nat×Bool)}{f:Env}{σ:Ab}{nx:Nat}
theorem WK{t:TypeId}{a b:Bool}(c:P.underlying t=some .bool)(w:World):(Op.equal t (.bool a) (.bool b)).run P w=.ok (a == b) w:=by
 unfold Op.equal Op.maxDepth;rw [show 10000=9999+1 from rfl,Op.equalIn];simp [run_underlying c,go_sem]
theorem iJ{t yt:TypeId}{x y:Operand}{a b:Bool}[h:Qi P t](e:ev f x=some (eB a))(c:ev f y=some (eB b)):AW P TB Z ⟨d,.binOp .eql t x y yt,ty,pos,af,g⟩ f σ nx (eB (a == b)):=
 BG e c rfl λw=>by
  have j:binOp .eql t (.bool a) (.bool b)=(do pure (.bool (<-Op.equal t (.bool a) (.bool b)))):=rfl;have i:eqGuard .eql t x y (.bool a) (.bool b)=pure ():=rfl;rw [j,i];simp [WK h.out w,go_sem]
theorem iT{t yt:TypeId}{x y:Operand}{a b:Bool}[h:Qi P t](e:ev f x=some (eB a))(c:ev f y=some (eB b)):AW P TB Z ⟨d,.binOp .neq t x y yt,ty,pos,af,g⟩ f σ nx (eB (a != b)):=
 BG e c rfl λw=>by
  have j:binOp .neq t (.bool a) (.bool b)=(do pure (.bool (!(<-Op.equal t (.bool a) (.bool b))))):=rfl;have i:eqGuard .neq t x y (.bool a) (.bool b)=pure ():=rfl;rw [j,i];simp [WK h.out w,go_sem,bne]
theorem lp{op:Op}{e:E}(h:jP f op=some e):AW P TB Z ⟨d,op,ty,pos,af,g⟩ f σ nx e:=by
 unfold jP at h;split at h
 ·exact fW h
 ·split at h
  ·rename_i a;exact dq a h
  ·rename_i a;exact dp a h
  ·cases h
 ·split at h
  ·rename_i a
   refine XU a ?_;rw [<-h];congr 1
  ·cases h
 ·split at h
  ·rename_i a;injection h with h;subst h;exact dm a
  ·rename_i a;injection h with h;subst h;exact fX a
  ·rename_i a;injection h with h;subst h;exact dk a
  ·cases h
 ·cases h
theorem iI{o:BinOp}{t yt:TypeId}{x y:Operand}{ex ey:E}{c:Bool}(e:ev f x=some ex)(b:ev f y=some ey)(a:eX o ex ey=some c) :
 AW P TB Z ⟨d,.binOp o t x y yt,ty,pos,af,g⟩ f σ nx (eB c):=by
 unfold eX at a;split at a
 ·split at a
  ·rename_i hk
   have hk:=NS hk;subst hk;unfold hX at a
   split at a<;>first|(injection a with a;subst a)|cases a
   ·exact iS e b
   ·exact iR e b
   ·exact iP e b
   ·exact iO e b
   ·exact iM e b
   ·exact iV e b
  ·cases a
 ·unfold hO at a
  split at a<;>first|(injection a with a;subst a)|cases a
  ·exact iK e b
  ·exact iU e b
 ·cases a
theorem Rs{k:IntKind}{m:Int}{q:Prop}(h:X6 k m=some q)(a:q):k.wrap m=m:=by
 unfold X6 at h
 split at h<;>first|(injection h with h;subst h)|cases h
 ·exact IntWalk.i64_in _ a
 ·exact IntWalk.u64_in _ a
 ·exact IntWalk.u8_in _ a
 ·exact IntWalk.i32_in _ a
theorem jZ{o:BinOp}{t yt:TypeId}{x y:Operand}{ex ey e:E}{q:Prop}(j:ev f x=some ex)(i:ev f y=some ey)(a:jJ o ex ey=some (q,e))(h:q) :
 AW P TB Z ⟨d,.binOp o t x y yt,ty,pos,af,g⟩ f σ nx e:=by
 unfold jJ at a;split at a
 ·split at a
  ·injection a with a;injection a with c b;subst c;subst b;exact ja j i h rfl
  ·split at a
   ·rename_i hk k
    have hk:=NS hk;have k:=NS k;subst hk;subst k
    injection a with a;injection a with c b;subst c;subst b;exact fZ j i h.1.1 h.1.2 h.2
   ·cases a
  ·split at a
   ·rename_i hk
    have hk:=NS hk;subst hk;unfold kz at a;split at a
    ·obtain⟨q',l,m⟩:=d7.1 a
     injection m with c b;subst c;subst b;exact iG j i (Rs l h)
    ·obtain⟨q',l,m⟩:=d7.1 a
     injection m with c b;subst c;subst b;exact jb j i (Rs l h)
    ·obtain⟨q',l,m⟩:=d7.1 a
     injection m with c b;subst c;subst b;exact en j i (Rs l h)
    ·injection a with a;injection a with c b;subst c;subst b;exact ga j i h.1 h.2
    ·injection a with a;injection a with c b;subst b;exact ei j i rfl
    ·injection a with a;injection a with c b;subst b;exact fY j i rfl
    ·cases a
   ·cases a
 ·split at a
  ·injection a with a;injection a with c b;subst c;subst b;exact iH j i h
  ·cases a
 ·cases a
theorem iN{s k off:Nat}{x:Operand}{ex e:E}[b:Qj P s k off](a:ev f x=some ex)(h:fj off ex=some e):AW P TB Z ⟨d,.fieldAddr s x k,ty,pos,af,g⟩ f σ nx e:=by
 unfold fj at h
 split at h<;>first|(injection h with h;subst h)|cases h
 ·exact XV a
 ·exact ao a
theorem kc{t:TypeId}{x:Operand}{ex e:E}{ag:Bool}{n:Nat}[b:DC P t ag n](a:ev f x=some ex)(h:jU ag n ex=some e):AW P TB Z ⟨d,.load t x,ty,pos,af,g⟩ f σ nx e:=by
 unfold jU at h;split at h
 ·split at h
  ·injection h with h;subst h;exact SV a
  ·split at h
   ·rename_i hb;injection h with h;subst h;exact XX a (am hb)
   ·cases h
  ·cases h
 ·cases h
theorem WA{t:TypeId}{x:Operand}{id k i j:Nat}{T:TypeId}{rows:List (List C)}{r:List C}{e:E}{ag:Bool}{n:Nat}[q:DC P t ag n](a:ev f x=some (.o (.ptr id k i j)))(l:look σ id=some (.cells T k rows))(b:rows[i]? = some r)
 (h:fy ag n j r=some e):AW P TB Z ⟨d,.load t x,ty,pos,af,g⟩ f σ nx e:=by
 unfold fy at h;split at h
 ·obtain⟨c,p,m⟩:=d7.1 h
  subst m;exact Rm a l b p
 ·split at h
  ·rename_i hb;injection h with h;subst h;exact aD a l b (am hb)
  ·cases h
theorem j9{t:TypeId}{x:Operand}{k off n:Nat}{ag:Bool}{cs:List C}{e:E}[l:MY P t k off ag n](b:ev f x=some (.a cs))(h:jR ag off n cs=some e):AW P TB Z ⟨d,.field t x k,ty,pos,af,g⟩ f σ nx e:=by
 unfold jR at h;split at h
 ·obtain⟨c,j,i⟩:=d7.1 h
  subst i;exact dh b j
 ·split at h
  ·rename_i hb;injection h with h;subst h;exact ak b (am hb)
  ·cases h
theorem ka{t:TypeId}{x y:Operand}{ex e:E}{n:Int}{len k:Nat}{ik:IntKind}[i:Pn P t len k](c:ev f x=some ex)(b:ev f y=some (eI ik n))(h:jT k n ex=some e)(a:0<=n/\n < len) :
 AW P TB Z ⟨d,.indexAddr t x y,ty,pos,af,g⟩ f σ nx e:=by
 unfold jT at h
 split at h<;>first|(injection h with h;subst h)|cases h
 ·exact XW c b a.1 a.2
 ·exact ax c b a.1 a.2
theorem iQ{t e:TypeId}{x:Operand}{ex r:E}{k b:Nat}[c:CL P t e k b](a:ev f x=some ex)(h:jV k ex=some r):AW P TB Z ⟨d,.call ⟨.builtin .len,#[x],#[t]⟩,ty,pos,af,g⟩ f σ nx r:=by
 unfold jV at h;split at h
 ·injection h with h;subst h;exact aA a
 ·split at h
  ·injection h with h;subst h;exact fS a
  ·cases h
 ·cases h
theorem Me{x:Option E}{q:Prop}{e:E}(h:tr x=some (q,e)):x=some e:=by
 cases x with
 | none=>cases h
 | some y=>injection h with h;injection h with _ h;rw [h]
theorem fC{i:TI}{t:TypeId}{x:Operand}{a e:E}(hi:Ey P t i)(c:ev f x=some a)(h:fB i a=some e):AW P TB Z ⟨d,.call ⟨.builtin .len,#[x],#[t]⟩,ty,pos,af,g⟩ f σ nx e:=by
 unfold fB at h;split at h
 ·split at h
  ·rename_i b
   injection h with h;subst h
   haveI:=hi.Zs b;exact fV c
  ·cases h
 ·split at h
  ·rename_i b
   haveI:=hi.Sm b;exact iQ c h
  ·cases h
theorem fv{i:TI}{t:TypeId}{x y:Operand}{a b e:E}{q:Prop}(hi:Ey P t i)(n:ev f x=some a)(m:ev f y=some b)(h:ft i a b=some (q,e))(j:q):AW P TB Z ⟨d,.indexAddr t x y,ty,pos,af,g⟩ f σ nx e:=by
 unfold ft at h;split at h
 ·split at h
  ·rename_i c
   split at h
   ·rename_i hk
    injection h with h;injection h with l k;subst l;subst k
    have:=f7 hk;subst this;haveI:=hi.Sm c;exact aq n m j.1 j.2
   ·cases h
  ·cases h
 ·split at h
  ·rename_i c
   split at h
   ·rename_i o
    injection h with h;injection h with l k;subst l;subst k
    haveI:=hi.ij c;exact ka n m o j
   ·cases h
  ·cases h
 ·cases h
theorem fH{i:TI}{t yt:TypeId}{x y:Operand}{a b e:E}{q:Prop}(hi:Ey P t i)(l:ev f x=some a)(k:ev f y=some b)(h:fG i.pt a b=some (q,e)):AW P TB Z ⟨d,.binOp .eql t x y yt,ty,pos,af,g⟩ f σ nx e:=by
 unfold fG at h;split at h
 ·rename_i c
  injection h with h;injection h with m j;subst j
  haveI:=hi.Zr c;exact XT l k
 ·rename_i c
  injection h with h;injection h with m j;subst j
  haveI:=hi.Zr c;exact UJ l k
 ·cases h
theorem eZ{i i':TI}{s t:TypeId}{k k':IntKind}{x:Operand}{a e:E}{q:Prop}(hi:Ey P s i)(c:Ey P t i')(hk:i.ik=some k)(b:i'.ik=some k')(l:ev f x=some a)(h:eY k k' a=some (q,e))(n:q):AW P TB Z ⟨d,.convert s t x,ty,pos,af,g⟩ f σ nx e:=by
 unfold eY at h;split at h
 ·split at h
  ·rename_i j m
   injection h with h;injection h with p o;subst p;subst o
   have j:=NS j;subst j;haveI:=hi.Zq hk;haveI:=c.Zq b;exact QZ l (Rs m n)
  ·cases h
 ·cases h
theorem WG[n:CX P]{md:Bool}{op:Op}{q:Prop}{e:E}(h:aJ n.T md f op=some (q,e))(i:q):AW P TB Z ⟨d,op,ty,pos,af,g⟩ f σ nx e:=by
 have a:=λt=>DL (P:=P) t n.ok;unfold aJ at h;split at h
 ·split at h
  ·cases h
  ·exact Cy (Me h)
 ·rename_i o t x y yt
  split at h
  ·rename_i b c
   unfold gZ at h;split at h
   ·exact fH (a t) b c h
   ·exact jZ b c h i
  ·cases h
 ·rename_i s x k
  split at h
  ·rename_i j b
   haveI:=(a s).fo j;exact iN b (Me h)
  ·cases h
 ·rename_i t x k
  split at h
  ·rename_i j b
   haveI:=(a t).cC j;exact j9 b (Me h)
  ·cases h
 ·rename_i t x
  split at h
  ·rename_i p b
   haveI:=(a t).Mr p;exact kc b (Me h)
  ·cases h
 ·rename_i t x y
  split at h
  ·rename_i b c
   exact fv (a t) b c h i
  ·cases h
 ·rename_i x t
  split at h
  ·rename_i b
   exact fC (a t) b (Me h)
  ·cases h
 ·rename_i s t x
  split at h
  ·rename_i m l b
   exact eZ (a s) (a t) m l b h i
  ·cases h
 ·split at h
  ·rename_i m
   split at h
   ·rename_i l
    injection h with h;injection h with _ h;subst h
    exact j8 m l
   ·cases h
  ·cases h
 ·exact lp (Me h)
theorem Tc[i:CX P]{op:Op}{c:Bool}(h:Tb i.T f op=some c):AW P TB Z ⟨d,op,ty,pos,af,g⟩ f σ nx (eB c):=by
 have e:=λt=>DL (P:=P) t i.ok;unfold Tb at h;split at h
 ·rename_i o t x y yt
  split at h
  ·rename_i a b
   split at h
   ·rename_i hb
    haveI:=(e t).cy hb;unfold kB at h;split at h
    ·injection h with h;subst h;exact iJ a b
    ·injection h with h;subst h;exact iT a b
    ·cases h
   ·exact iI a b h
  ·cases h
 ·split at h
  ·rename_i a
   injection h with h;subst h
   exact iW a
  ·cases h
 ·cases h
theorem Ok[c:CX P]{op:Op}{e:E}(h:ME c.T σ f op=some e):AW P TB Z ⟨d,op,ty,pos,af,g⟩ f σ nx e:=by
 have a:=λt=>DL (P:=P) t c.ok;unfold ME at h;split at h
 ·rename_i t x
  split at h
  ·rename_i k i
   split at h
   ·rename_i j
    split at h
    ·rename_i hk b
     have hk:=f7 hk;subst hk;haveI:=(a t).Mr k;rw [Nj] at b;exact WA i j b h
    ·cases h
   ·cases h
  ·cases h
 ·cases h
theorem Ol[c:CX P]{t:TypeId}{x y:Operand}{σ':Ab}{K:E->Ab->Nat->Prop}(h:PY c.T σ f t x y=some σ')(l:K (.t []) σ' nx):BQ P TB Z ⟨d,.store t x y,ty,pos,af,g⟩ f σ nx K:=by
 have a:=λt=>DL (P:=P) t c.ok;unfold PY at h;split at h
 ·rename_i k i e
  split at h
  ·rename_i j
   split at h
   ·rename_i hk b
    split at h
    ·rename_i o n m
     have hk:=f7 hk;subst hk;haveI:=(a t).Mr k;rw [Nj] at b
     injection h with h
     subst h;exact Bs i e o j b (f7 n) (am m) l
    ·cases h
   ·cases h
  ·cases h
 ·cases h
end
section
variable {P:Program}{TB:Bp}{Z:Ctx}{ops:Array Oper}{fl:Fl}{i n:Nat}{L:List (Nat×E)}{σ:Ab}{nx:Nat}{K:Env->Ab->Nat->Prop}{d:Tmp}{ty:TypeId}{pos:String}{af:Array Edge}{g:Option (Nat×Bool)}{op:Op}
theorem gA{d:Option Tmp}(a:Br ops ⟨d,op,ty,pos,af,g⟩ (look L)=some true)(h:FH P TB Z ops ⟨d,op,ty,pos,af,g⟩ fl i n K L σ nx):A9 P TB Z ops ⟨d,op,ty,pos,af,g⟩ fl i n K L σ nx:=h a
theorem gS{x:E}(a:∀σ nx,AW P TB Z ⟨some d,op,ty,pos,af,g⟩ (look L) σ nx x)(h:Lex P TB Z ops (Al fl (i+1) n) K (look ((d,x)::L)) σ nx):FH P TB Z ops ⟨some d,op,ty,pos,af,g⟩ fl i n K L σ nx:=λb=>Cv a b h
theorem gQ{x:E}(a:AW P TB Z ⟨some d,op,ty,pos,af,g⟩ (look L) σ nx x)(c:Qr (fl i)=true)(h:Lex P TB Z ops (Al fl (i+1) n) K (look ((d,x)::L)) σ nx):FH P TB Z ops ⟨some d,op,ty,pos,af,g⟩ fl i n K L σ nx:=λb=>df a b c h
theorem gB{c:Bool}(a:∀σ nx,AW P TB Z ⟨some d,op,ty,pos,af,g⟩ (look L) σ nx (eB c))(h:∀b,c=b->Lex P TB Z ops (Al fl (i+1) n) K (look ((d,eB b)::L)) σ nx):FH P TB Z ops ⟨some d,op,ty,pos,af,g⟩ fl i n K L σ nx:=λe=>XS a e h
theorem kC{c:Bool}(a:AW P TB Z ⟨some d,op,ty,pos,af,g⟩ (look L) σ nx (eB c))(f:Qr (fl i)=true)(h:∀b,c=b->Lex P TB Z ops (Al fl (i+1) n) K (look ((d,eB b)::L)) σ nx):FH P TB Z ops ⟨some d,op,ty,pos,af,g⟩ fl i n K L σ nx:=λe=>df a e f (h c rfl)
theorem gW(h:BQ P TB Z ⟨some d,op,ty,pos,af,g⟩ (look L) σ nx (λx σ' nx'=>Lex P TB Z ops (Al fl (i+1) n) K (look ((d,x)::L)) σ' nx'))(b:fl i=1):FH P TB Z ops ⟨some d,op,ty,pos,af,g⟩ fl i n K L σ nx:=λa=>KF h a b
theorem kD(h:BQ P TB Z ⟨none,op,ty,pos,af,g⟩ (look L) σ nx (λ_ σ' nx'=>Lex P TB Z ops (Al fl (i+1) n) K (look L) σ' nx'))(b:fl i=1):FH P TB Z ops ⟨none,op,ty,pos,af,g⟩ fl i n K L σ nx:=λa=>He h a b
theorem yQ{md:Bool}[b:CX P]{q:Prop}{x:E}(h:aJ b.T md (look L) op=some (q,x))(a:q)(hk:Lex P TB Z ops (Al fl (i+1) n) K (look ((d,x)::L)) σ nx):FH P TB Z ops ⟨some d,op,ty,pos,af,g⟩ fl i n K L σ nx:=gS (λ_ _=>WG h a) hk
theorem yB[a:CX P]{c:Bool}(h:Tb a.T (look L) op=some c)(hk:∀b,c=b->Lex P TB Z ops (Al fl (i+1) n) K (look ((d,eB b)::L)) σ nx):FH P TB Z ops ⟨some d,op,ty,pos,af,g⟩ fl i n K L σ nx:=gB (λ_ _=>Tc h) hk
theorem yS[b:CX P]{x:E}(h:ME b.T σ (look L) op=some x)(a:Qr (fl i)=true)(hk:Lex P TB Z ops (Al fl (i+1) n) K (look ((d,x)::L)) σ nx):FH P TB Z ops ⟨some d,op,ty,pos,af,g⟩ fl i n K L σ nx:=gQ (Ok h) a hk
theorem yW[b:CX P]{t:TypeId}{x y:Operand}{σ':Ab}(h:PY b.T σ (look L) t x y=some σ')(a:fl i=1)(hk:Lex P TB Z ops (Al fl (i+1) n) K (look L) σ' nx):FH P TB Z ops ⟨none,.store t x y,ty,pos,af,g⟩ fl i n K L σ nx:=kD (Ol h hk) a
theorem yO[b:CX P]{T:TypeId}{z:List Value}(h:(Jj b.T T).ze=some z)(a:z.all Pm=true)(c:fl i=1)(e:Lex P TB Z ops (Al fl (i+1) n) K (look ((d,.o (.ptr nx z.length 0 0))::L)) ((nx,.cells T z.length [z.map zC])::σ) (nx+1)):FH P TB Z ops ⟨some d,.alloc T,ty,pos,af,g⟩ fl i n K L σ nx:=
 haveI:=(DL (P:=P) T b.ok).Zt h
 gW (cV a e) c
theorem yM[a:CX P]{t:TypeId}{x:Operand}{id k i' j:Nat}{T:TypeId}{rows:List (List C)}{r:List C}{e:E}{ag:Bool}{m:Nat}(b:ev (look L) x=some (.o (.ptr id k i' j)))(f:look σ id=some (.cells T k rows))(c:rows[i']? = some r)(l:(Jj a.T t).ld=some (ag,m))
 (h:fy ag m j r=some e) (p:Qr (fl i)=true) (hk:Lex P TB Z ops (Al fl (i+1) n) K (look ((d,e)::L)) σ nx):FH P TB Z ops ⟨some d,.load t x,ty,pos,af,g⟩ fl i n K L σ nx:=
 haveI:=(DL (P:=P) t a.ok).Mr l
 gQ (WA b f c h) p hk
theorem yV[b:CX P]{t:TypeId}{x y:Operand}{id k i' j m:Nat}{T:TypeId}{rows:List (List C)}{r:List C}{e:E}{ag:Bool}(d:ev (look L) x=some (.o (.ptr id k i' j)))(c:ev (look L) y=some e)(h:Sc e=true)(a:look σ id=some (.cells T k rows))(f:rows[i']? = some r)
 (p:(Jj b.T t).ld=some (ag,m)) (l:(eC e).length=m) (q:Nat.ble (j+m) k=true) (s:fl i=1) (hk:Lex P TB Z ops (Al fl (i+1) n) K (look L) ((id,.cells T k (rows.set i' (Af r j (eC e))))::σ) nx):FH P TB Z ops ⟨none,.store t x y,ty,pos,af,g⟩ fl i n K L σ nx:=
 haveI:=(DL (P:=P) t b.ok).Mr p
 kD (Bs d c h a f l (am q) hk) s
theorem lu[a:CX P]{α:Type}{t e:TypeId}{x:Operand}{l:List α}{h:α->List D}{k b:Nat}(c:ev (look L) x=some (.o (.d (.l (l.map h)))))(f:(Jj a.T t).sl=some (e,k,b))(hk:Lex P TB Z ops (Al fl (i+1) n) K (look ((d,eI .i64 l.length)::L)) σ nx):FH P TB Z ops ⟨some d,.call ⟨.builtin .len,#[x],#[t]⟩,ty,pos,af,g⟩ fl i n K L σ nx:=
 haveI:=(DL (P:=P) t a.ok).Sm f
 gS (λ_ _=>fT c) hk
theorem yL[a:CX P]{t e:TypeId}{x y:Operand}{rows:List (List D)}{row:List D}{m:Int}{k b:Nat}{ik:IntKind}(f:ev (look L) x=some (.o (.d (.l rows))))(c:ev (look L) y=some (eI ik m))(h:rows[m.toNat]? = some row)(p:(Jj a.T t).sl=some (e,k,b))(j:row.length=k)(q:0<=m)
 (hk:Lex P TB Z ops (Al fl (i+1) n) K (look ((d,.o (.ip row))::L)) σ nx):FH P TB Z ops ⟨some d,.indexAddr t x y,ty,pos,af,g⟩ fl i n K L σ nx:=
 haveI:=(DL (P:=P) t a.ok).Sm p
 gS (λ_ _=>aw f c q h j) hk
theorem yT[a:CX P]{t:TypeId}{x y:Operand}{s:List UInt8}{m:Int}{c:UInt8}{ik:IntKind}(e:ev (look L) x=some (eT s))(b:ev (look L) y=some (eI ik m))(h:s[m.toNat]? = some c)(f:(Jj a.T t).st=true)(j:0<=m)
 (hk:Lex P TB Z ops (Al fl (i+1) n) K (look ((d,eI .u8 (c.toNat:Int))::L)) σ nx):FH P TB Z ops ⟨some d,.index t x y,ty,pos,af,g⟩ fl i n K L σ nx:=
 haveI:=(DL (P:=P) t a.ok).Zs f
 gS (λ_ _=>az e b j h) hk
def ki(k m:Nat)(z:List Value)(es:List E):Option (List (List D)):=match es.all Sc,ON es with
 | true,some rows=>match rows.all λr=>Nat.beq r.length k,Nat.beq z.length k,z.all Pm,Nat.ble 1 k,Nat.ble (m*k) 16777216 with
  | true,true,true,true,true=>some rows
  | _,_,_,_,_=>none
 | _,_=>none
theorem yZ[c:CX P]{t e:TypeId}{k b m:Nat}{z:List Value}{parts:Array (Nat×Operand)}{es:List E}{rows:List (List D)}(r:(Jj c.T t).sl=some (e,k,b))(j:(Jj c.T e).ze=some z)(p:Dh 0 (parts.toList.map (·.2))=parts.toList)(q:parts.toList.length=m)
 (f:Jf (look L) (parts.toList.map (·.2))=some es) (a:ki k m z es=some rows)
 (h:Lex P TB Z ops (Al fl (i+1) n) K (look ((d,.o (.d (.l rows)))::L)) σ nx):FH P TB Z ops ⟨some d,.buildSlice t m parts,ty,pos,af,g⟩ fl i n K L σ nx:=by
 haveI:=(DL (P:=P) t c.ok).Sm r;haveI:=(DL (P:=P) e c.ok).Zt j;unfold ki at a;split at a
 ·rename_i A y
  split at a
  ·rename_i x w v u s
   injection a with a
   subst a;exact gS (λ_ _=>aI p q f A y x (f7 w) v u s) h
  ·cases a
 ·cases a
theorem yY{T:TypeId}{x:Operand}{e:E}{ds:List D}(a:ev (look L) x=some e)(b:Sc e=true)(c:Pl (eC e)=some ds)(h:Lex P TB Z ops (Al fl (i+1) n) K (look ((d,.o (.ip ds))::L)) σ nx):FH P TB Z ops ⟨some d,.box T x,ty,pos,af,g⟩ fl i n K L σ nx:=gS (λ_ _=>C4 a b c) h
def cY:Nat->List (Nat×Operand)->Bool
 | _,[]=>true
 | k,(i,_)::r=>Nat.beq i k && cY (k+1) r
theorem Wk:∀(l:List (Nat×Operand)) (k:Nat),cY k l=true->Dh k (l.map (·.2))=l
 | [],_,_=>rfl
 | (i,x)::r,k,h=>by
  unfold cY at h;rw [d4] at h;have a:=f7 h.1;subst a;have:=Wk r (i+1) h.2;simp [Dh,this]
def c7(c:Nat):Option E->Bool
 | some (.o (.ptr id _ _ _))=>Qr c || (Nat.beq c (10+id) && !Nat.ble 1000 c)
 | _=>Qr c
theorem aM{T:List (Nat×TI)}{σ σ':Ab}{f:Env}{t:TypeId}{x:Operand}{id k i j:Nat}(a:ev f x=some (.o (.ptr id k i j)))(h:look σ' id=look σ id):ME T σ' f (.load t x)=ME T σ f (.load t x):=by
 unfold ME;simp only [a]
 cases (Jj T t).ld with
 | none=>rfl
 | some p=>obtain⟨ag,n⟩:=p;simp only [h]
def WE(T:List (Nat×TI))(sl:Bool)(c nx:Nat)(σ:Ab)(L:List (Nat×E)):Option Tmp->Op->Option (List (Nat×E)×Ab×Nat)
 | some d,.alloc t=>match Nat.beq c 1,(Jj T t).ze with
  | true,some z=>match z.all Pm with
   | true=>some ((d,.o (.ptr nx z.length 0 0))::L,(nx,.cells t z.length [z.map zC])::σ,nx+1)
   | false=>none
  | _,_=>none
 | none,.store t x y=>match Nat.beq c 1,PY T σ (look L) t x y with
  | true,some σ'=>some (L,σ',nx)
  | _,_=>none
 | some d,.load t x=>match c7 c (ev (look L) x),ME T σ (look L) (.load t x) with
  | true,some e=>some ((d,e)::L,σ,nx)
  | _,_=>none
 | some d,.box _ x=>match sl,ev (look L) x with
  | true,some e=>match Sc e,Pl (eC e) with
   | true,some ds=>some ((d,.o (.ip ds))::L,σ,nx)
   | _,_=>none
  | _,_=>none
 | some d,.buildSlice t m parts=>match sl,(Jj T t).sl with
  | true,some (e,k,_)=>match (Jj T e).ze,Jf (look L) (parts.toList.map (·.2)) with
   | some z,some es=>match ki k m z es,cY 0 parts.toList,Nat.beq parts.toList.length m with
    | some rows,true,true=>some ((d,.o (.d (.l rows)))::L,σ,nx)
    | _,_,_=>none
   | _,_=>none
  | _,_=>none
 | _,_=>none
theorem yU[o:CX P]{sl:Bool}{d:Option Tmp}{L':List (Nat×E)}{σ':Ab}{nx':Nat}(h:WE o.T sl (fl i) nx σ L d op=some (L',σ',nx'))(hk:Lex P TB Z ops (Al fl (i+1) n) K (look L') σ' nx'):FH P TB Z ops ⟨d,op,ty,pos,af,g⟩ fl i n K L σ nx:=by
 unfold WE at h;split at h
 ·split at h
  ·rename_i a b
   split at h
   ·rename_i j
    injection h with h;injection h with f h;injection h with e c;subst f;subst e;subst c
    exact yO b j (f7 a) hk
   ·cases h
  ·cases h
 ·split at h
  ·rename_i a b
   injection h with h;injection h with f h;injection h with e c;subst f;subst e;subst c
   exact yW b (f7 a) hk
  ·cases h
 ·split at h
  ·rename_i a b
   injection h with h;injection h with f h;injection h with e c;subst f;subst e;subst c
   unfold c7 at a;split at a
   ·rename_i l
    rw [lK] at a
    rcases a with a|a
    ·exact yS b a hk
    ·rw [d4] at a
     have j:=f7 a.1;refine λm=>iE (λσ' nx' k=>Ok (by rw [j,Nat.add_sub_cancel_left] at k;rw [aM (σ:=σ) (σ':=σ') l k];exact b)) m ⟨nN (by omega),by simpa using a.2⟩ hk
   ·exact yS b a hk
  ·cases h
 ·split at h
  ·rename_i a
   split at h
   ·rename_i b j
    injection h with h;injection h with f h;injection h with e c;subst f;subst e;subst c
    exact yY a b j hk
   ·cases h
  ·cases h
 ·split at h
  ·rename_i a
   split at h
   ·rename_i b j
    split at h
    ·rename_i r q p
     injection h with h;injection h with f h;injection h with e c;subst f;subst e;subst c
     exact yZ a b (Wk _ _ q) (f7 p) j r hk
    ·cases h
   ·cases h
  ·cases h
 ·cases h
theorem yP{x:Operand}{args:Array Operand}{tys:Array TypeId}{gg:FuncId}{cap:List C}{es:List E}{r:E}(b:ev (look L) x=some (.o (.fn gg cap)))(a:Jf (look L) args.toList=some es)(f:(es.all E.BX && C.C6 cap)=true)
 (c:Pure P TB gg (es++cap.map .o) r) (e:r.BX=true) (h:Lex P TB Z ops (Al fl (i+1) n) K (look ((d,r)::L)) σ nx):FH P TB Z ops ⟨some d,.call ⟨.value x,args,tys⟩,ty,pos,af,g⟩ fl i n K L σ nx:=gS (λ_ _=>Bh b a f c e) h
theorem yC{x:Operand}{args:Array Operand}{tys:Array TypeId}{gg:FuncId}{cap:List C}{es:List E}{c:Bool}(e:ev (look L) x=some (.o (.fn gg cap)))(a:Jf (look L) args.toList=some es)(j:(es.all E.BX && C.C6 cap)=true)
 (f:Pure P TB gg (es++cap.map .o) (eB c)) (h:∀b,c=b->Lex P TB Z ops (Al fl (i+1) n) K (look ((d,eB b)::L)) σ nx):FH P TB Z ops ⟨some d,.call ⟨.value x,args,tys⟩,ty,pos,af,g⟩ fl i n K L σ nx:=gB (λ_ _=>Bh e a j f rfl) h
theorem yG{d:Option Tmp}{j t:Nat}{w b:Bool}(f:(ops[j]?).bind (·.dst)=some t)(e:look L t=some (eB b))
 (a:b=true->Lex P TB Z ops (Al fl i (n+1)) K (look L) σ nx) (c:b=false->Lex P TB Z ops (Al fl i (n+1)) K (look L) σ nx):A9 P TB Z ops ⟨d,op,ty,pos,af,some (j,w)⟩ fl i n K L σ nx:=by
 intro _;cases b
 ·exact c rfl
 ·exact a rfl
end
abbrev Gv:=Prop×List (Nat×E)×Ab×Nat
def eo(T : List (Nat×TI))(md sl:Bool)(ops:Array Oper)(fl:Fl)(i:Nat)(L:List (Nat×E))(σ:Ab)(nx:Nat):Option Gv:=
 match Oc ops.toList (fl.p i) with
 | some ⟨ds,op,ty,pos,af,g⟩=>match Br ops ⟨ds,op,ty,pos,af,g⟩ (look L) with
  | some true=>match ds with
   | some d=>match aJ T md (look L) op with
    | some (q,e)=>some (q,(d,e)::L,σ,nx)
    | none=>match WE T sl (fl i) nx σ L (some d) op with
     | some (L',σ',nx')=>some (True,L',σ',nx')
     | none=>none
   | none=>match WE T sl (fl i) nx σ L none op with
    | some (L',σ',nx')=>some (True,L',σ',nx')
    | none=>none
  | some false=>match ds with
   | some d=>some (True,(d,.t [])::L,σ,nx)
   | none=>some (True,L,σ,nx)
  | none=>none
 | none=>none
def fK(ops:Array Oper)(fl:Fl)(i:Nat)(L:List (Nat×E)):Option (Option Tmp×Op):=match Oc ops.toList (fl.p i) with
 | some ⟨ds,op,ty,pos,af,g⟩=>match Br ops ⟨ds,op,ty,pos,af,g⟩ (look L) with
  | some true=>some (ds,op)
  | _=>none
 | none=>none
def kF(T:List (Nat×TI))(ops:Array Oper)(fl:Fl)(i:Nat)(L:List (Nat×E)):Option (Nat×List (List D)):=match fK ops fl i L with
 | some (some d,.call ⟨.builtin .len,⟨[x]⟩,⟨[t]⟩⟩)=>match (Jj T t).sl,ev (look L) x with
  | some _,some (.o (.d (.l rows)))=>some (d,rows)
  | _,_=>none
 | _=>none
structure As where
 β:Type
 l:List β
 m:Nat
 k:β->Option Gv
def jK(T : List (Nat×TI))(ops:Array Oper)(fl:Fl)(i:Nat)(L:List (Nat×E))(σ:Ab)(nx:Nat):Option As:=match fK ops fl i L with
 | some (some d,.indexAddr t x y)=>match (Jj T t).sl,ev (look L) x,ev (look L) y with
  | some (_,k,_),some (.o (.d (.l rows))),some (.o (.d (.v (.int _ m))))=>some ⟨List D,rows,m.toNat,λr=>match Nat.beq r.length k with
   | true=>some (0<=m,(d,.o (.ip r))::L,σ,nx)
   | false=>none⟩
  | _,_,_=>none
 | some (some d,.index t x y)=>match (Jj T t).st,ev (look L) x,ev (look L) y with
  | true,some (.o (.d (.v (.string ⟨⟨s⟩⟩)))),some (.o (.d (.v (.int _ m))))=>some ⟨UInt8,s,m.toNat,λc=>some (0<=m,(d,eI .u8 (c.toNat:Int))::L,σ,nx)⟩
  | _,_,_=>none
 | some (some d,.load t x)=>match (Jj T t).ld,ev (look L) x with
  | some (ag,m),some (.o (.ptr id k i' j))=>match look σ id with
   | some (.cells _ k' rows)=>match Nat.beq k k',c7 (fl i) (some (.o (.ptr id k i' j))) with
    | true,true=>some ⟨List C,rows,i',λr=>match fy ag m j r with
     | some e=>some (True,(d,e)::L,σ,nx)
     | none=>none⟩
    | _,_=>none
   | _=>none
  | _,_=>none
 | some (none,.store t x y)=>match (Jj T t).ld,ev (look L) x,ev (look L) y with
  | some (_,m),some (.o (.ptr id k i' j)),some e=>match look σ id with
   | some (.cells ct k' rows)=>match Nat.beq k k',Nat.beq (fl i) 1,Sc e,Nat.beq (eC e).length m,Nat.ble (j+m) k with
    | true,true,true,true,true=>some ⟨List C,rows,i',λr=>some (True,L,(id,.cells ct k (rows.set i' (Af r j (eC e))))::σ,nx)⟩
    | _,_,_,_,_=>none
   | _=>none
  | _,_,_=>none
 | _=>none
def kP(T:List (Nat×TI))(ops:Array Oper)(fl:Fl)(i:Nat)(L:List (Nat×E)):Option (Nat×Bool):=match fK ops fl i L with
 | some (some d,op)=>match Tb T (look L) op with
  | some c=>some (d,c)
  | none=>none
 | _=>none
def kZ(ops:Array Oper)(fl:Fl)(i:Nat)(L:List (Nat×E)):Option Bool:=match Oc ops.toList (fl.p i) with
 | some ⟨_,_,_,_,_,some (j,_)⟩=>match (ops[j]?).bind (·.dst) with
  | some t=>match look L t with
   | some (.o (.d (.v (.bool b))))=>some b
   | _=>none
  | none=>none
 | _=>none
def jv(ops:Array Oper)(fl:Fl)(i:Nat)(L:List (Nat×E)):Option (Nat×FuncId×List E):=match fK ops fl i L with
 | some (some d,.call ⟨.value x,args,_⟩)=>match ev (look L) x,Jf (look L) args.toList with
  | some (.o (.fn gg cap)),some es=>match es.all E.BX && C.C6 cap with
   | true=>some (d,gg,es++cap.map .o)
   | false=>none
  | _,_=>none
 | _=>none
section
variable {P:Program}{TB:Bp}{Z:Ctx}{ops:Array Oper}{fl:Fl}{i n:Nat}{L L':List (Nat×E)}{σ σ':Ab}{nx nx' d:Nat}{K:Env->Ab->Nat->Prop}
theorem HA{ds:Option Tmp}{op:Op}(h:fK ops fl i L=some (ds,op))(k:∀ty pos af g,FH P TB Z ops ⟨ds,op,ty,pos,af,g⟩ fl i n K L σ nx):Lex P TB Z ops (Al fl i (n+1)) K (look L) σ nx:=by
 unfold fK at h;split at h
 ·rename_i a
  split at h
  ·rename_i b
   injection h with h;injection h with d c;subst d;subst c
   exact Ai a (k _ _ _ _ b)
  ·cases h
 ·cases h
theorem s1{md sl:Bool}[k:CX P]{q:Prop}(h:eo k.T md sl ops fl i L σ nx=some (q,L',σ',nx'))(j:q)(hk:Lex P TB Z ops (Al fl (i+1) n) K (look L') σ' nx'):Lex P TB Z ops (Al fl i (n+1)) K (look L) σ nx:=by
 unfold eo at h;split at h
 ·rename_i a
  split at h
  ·rename_i f
   split at h
   ·split at h
    ·rename_i g
     injection h with h;injection h with e h;injection h with d h;injection h with c b;subst e;subst d;subst c;subst b
     exact Ai a (yQ g j hk f)
    ·split at h
     ·rename_i g
      injection h with h;injection h with e h;injection h with d h;injection h with c b;subst e;subst d;subst c;subst b
      exact Ai a (yU g hk f)
     ·cases h
   ·split at h
    ·rename_i g
     injection h with h;injection h with e h;injection h with d h;injection h with c b;subst e;subst d;subst c;subst b
     exact Ai a (yU g hk f)
    ·cases h
  ·rename_i f
   split at h
   ·injection h with h;injection h with e h;injection h with d h;injection h with c b;subst e;subst d;subst c;subst b
    exact Ai a (λa=>UF a f (by rw [Dz];exact hk))
   ·injection h with h;injection h with e h;injection h with d h;injection h with c b;subst e;subst d;subst c;subst b
    exact Ai a (λa=>UF a f hk)
  ·cases h
 ·cases h
theorem sA[b:CX P]{q:Prop}(h:eo b.T false true ops fl i L σ nx=some (q,L',σ',nx'))(a:q)(hk:Lex P TB Z ops (Al fl (i+1) n) K (look L') σ' nx'):Lex P TB Z ops (Al fl i (n+1)) K (look L) σ nx:=s1 h a hk
theorem sM[b:CX P]{q:Prop}(h:eo b.T true false ops fl i L σ nx=some (q,L',σ',nx'))(a:q)(hk:Lex P TB Z ops (Al fl (i+1) n) K (look L') σ' nx'):Lex P TB Z ops (Al fl i (n+1)) K (look L) σ nx:=s1 h a hk
theorem sX[b:CX P]{q:Prop}(h:eo b.T false false ops fl i L σ nx=some (q,L',σ',nx'))(a:q)(hk:Lex P TB Z ops (Al fl (i+1) n) K (look L') σ' nx'):Lex P TB Z ops (Al fl i (n+1)) K (look L) σ nx:=s1 h a hk
theorem sN[e:CX P]{α:Type}{l:List α}{f:α->List D}(h:kF e.T ops fl i L=some (d,l.map f))(hk:Lex P TB Z ops (Al fl (i+1) n) K (look ((d,eI .i64 l.length)::L)) σ nx):Lex P TB Z ops (Al fl i (n+1)) K (look L) σ nx:=by
 unfold kF at h;split at h
 ·rename_i b
  split at h
  ·rename_i c a
   injection h with h;injection h with j g;subst j;subst g
   exact HA b λ_ _ _ _=>lu a c hk
  ·cases h
 ·cases h
theorem s4[x : CX P]{β:Type}{l:List β}{m:Nat}{k:β->Option Gv}{r:β}{q:Prop}(h:jK x.T ops fl i L σ nx=some ⟨β,l,m,k⟩)(s:l[m]? = some r)(e:k r=some (q,L',σ',nx'))(v:q)
 (hk:Lex P TB Z ops (Al fl (i+1) n) K (look L') σ' nx'):Lex P TB Z ops (Al fl i (n+1)) K (look L) σ nx:=by
 unfold jK at h;split at h
 ·rename_i j
  split at h
  ·rename_i o g p
   injection h with h;injection h with d c b a;subst d;subst c;subst b
   have a:=eq_of_heq a;subst a;dsimp only at e;split at e
   ·rename_i hb
    injection e with h;injection h with d h;injection h with c h;injection h with b a;subst d;subst c;subst b;subst a
    exact HA j λ_ _ _ _=>yL g p s o (f7 hb) v hk
   ·cases e
  ·cases h
 ·rename_i j
  split at h
  ·rename_i o g p
   injection h with h;injection h with d c b a;subst d;subst c;subst b
   have a:=eq_of_heq a;subst a;dsimp only at e
   injection e with h;injection h with d h;injection h with c h;injection h with b a;subst d;subst c;subst b;subst a
   exact HA j λ_ _ _ _=>yT g p s o v hk
  ·cases h
 ·rename_i j
  split at h
  ·rename_i o g
   split at h
   ·rename_i t
    split at h
    ·rename_i hb f
     injection h with h;injection h with d c b a;subst d;subst c;subst b
     have a:=eq_of_heq a;subst a;dsimp only at e;split at e
     ·rename_i w
      injection e with h;injection h with d h;injection h with c h;injection h with b a;subst d;subst c;subst b;subst a
      have hb:=f7 hb;subst hb;unfold c7 at f;rw [lK] at f
      rcases f with f|f
      ·exact HA j λ_ _ _ _=>yM g t s o w f hk
      ·rw [d4] at f
       have F:=f7 f.1;haveI:=(DL (P:=P) _ x.ok).Mr o;exact HA j λ_ _ _ _ y=>iE (λσ' nx' u=>WA g (by rw [F,Nat.add_sub_cancel_left] at u;rw [u];exact t) s w) y ⟨nN (by omega),by simpa using f.2⟩ hk
     ·cases e
    ·cases h
   ·cases h
  ·cases h
 ·rename_i j
  split at h
  ·rename_i o g p
   split at h
   ·rename_i t
    split at h
    ·rename_i hb f B A z
     injection h with h;injection h with d c b a;subst d;subst c;subst b
     have a:=eq_of_heq a;subst a;dsimp only at e
     injection e with h;injection h with d h;injection h with c h;injection h with b a;subst d;subst c;subst b;subst a
     have hb:=f7 hb;subst hb;exact HA j λ_ _ _ _=>yV g p B t s o (f7 A) z (f7 f) hk
    ·cases h
   ·cases h
  ·cases h
 ·cases h
theorem tA[a:CX P](h:eo a.T false true ops fl i L σ nx=some (True,L',σ',nx'))(hk:Lex P TB Z ops (Al fl (i+1) n) K (look L') σ' nx'):Lex P TB Z ops (Al fl i (n+1)) K (look L) σ nx:=s1 h True.intro hk
theorem tM[a:CX P](h:eo a.T true false ops fl i L σ nx=some (True,L',σ',nx'))(hk:Lex P TB Z ops (Al fl (i+1) n) K (look L') σ' nx'):Lex P TB Z ops (Al fl i (n+1)) K (look L) σ nx:=s1 h True.intro hk
theorem tX[a:CX P](h:eo a.T false false ops fl i L σ nx=some (True,L',σ',nx'))(hk:Lex P TB Z ops (Al fl (i+1) n) K (look L') σ' nx'):Lex P TB Z ops (Al fl i (n+1)) K (look L) σ nx:=s1 h True.intro hk
theorem t4[b:CX P]{β:Type}{l:List β}{m:Nat}{k:β->Option Gv}{r:β}(h:jK b.T ops fl i L σ nx=some ⟨β,l,m,k⟩)(a:l[m]? = some r)(c:k r=some (True,L',σ',nx'))
 (hk:Lex P TB Z ops (Al fl (i+1) n) K (look L') σ' nx'):Lex P TB Z ops (Al fl i (n+1)) K (look L) σ nx:=s4 h a c True.intro hk
theorem s2[f:CX P]{c:Bool}(h:kP f.T ops fl i L=some (d,c))(hk:∀b,c=b->Lex P TB Z ops (Al fl (i+1) n) K (look ((d,eB b)::L)) σ nx):Lex P TB Z ops (Al fl i (n+1)) K (look L) σ nx:=by
 unfold kP at h;split at h
 ·rename_i e
  split at h
  ·rename_i a
   injection h with h;injection h with j g;subst j;subst g
   exact HA e λ_ _ _ _=>yB a hk
  ·cases h
 ·cases h
theorem s3{b:Bool}(_h:kZ ops fl i L=some b)(a:b=true->Lex P TB Z ops (Al fl i (n+1)) K (look L) σ nx)(c:b=false->Lex P TB Z ops (Al fl i (n+1)) K (look L) σ nx):Lex P TB Z ops (Al fl i (n+1)) K (look L) σ nx:=by
 cases b
 ·exact c rfl
 ·exact a rfl
theorem VH{gg:FuncId}{es:List E}(h:jv ops fl i L=some (d,gg,es)):∃x args tys cap a,fK ops fl i L=some (some d,.call ⟨.value x,args,tys⟩)/\ev (look L) x=some (.o (.fn gg cap))/\Jf (look L) args.toList=some a/\(a.all E.BX && C.C6 cap)=true/\es=a++cap.map .o:=by
 unfold jv at h;split at h
 ·rename_i e
  split at h
  ·rename_i b f
   split at h
   ·rename_i c
    injection h with h;injection h with k h;injection h with j g;subst k;subst j;subst g
    exact⟨_,_,_,_,_,e,b,f,c,rfl⟩
   ·cases h
  ·cases h
 ·cases h
theorem sP{gg:FuncId}{es:List E}{r:E}(h:jv ops fl i L=some (d,gg,es))(b:Pure P TB gg es r)(c:r.BX=true)(hk:Lex P TB Z ops (Al fl (i+1) n) K (look ((d,r)::L)) σ nx):Lex P TB Z ops (Al fl i (n+1)) K (look L) σ nx:=by
 obtain⟨x,args,tys,cap,j,f,a,g,e,rfl⟩:=VH h;exact HA f λ_ _ _ _=>yP a g e b c hk
theorem sC{gg:FuncId}{es:List E}{c:Bool}(h:jv ops fl i L=some (d,gg,es))(e:Pure P TB gg es (eB c))(hk:∀b,c=b->Lex P TB Z ops (Al fl (i+1) n) K (look ((d,eB b)::L)) σ nx):Lex P TB Z ops (Al fl i (n+1)) K (look L) σ nx:=by
 obtain⟨x,args,tys,cap,k,g,a,j,f,rfl⟩:=VH h;exact HA g λ_ _ _ _=>yC a j f e hk
theorem tI:True:=True.intro
end
section
variable {P:Program}{TB:Bp}{Z:Ctx}{N:Nat}{ops:Array Oper}{fl:Fl}{i:Nat}{K:Env->Ab->Nat->Prop}{Q:Exit->Env->Ab->Nat->Prop}{f:Env}{σ:Ab}{nx:Nat}
theorem aS{x y:Code}(h:Aj P TB Z N x (KU (Aj P TB Z N y Q) Q) f σ nx):Aj P TB Z N (.seq x y) Q f σ nx:=.seq h
def TZ(N:Nat):List Oper->Bool
 | []=>true
 | o::r=>match o.dst with
  | some d=>bif Nat.ble (d+1) N then TZ N r else false
  | none=>TZ N r
theorem VG{N:Nat}:∀ {l:List Oper},TZ N l=true->∀o∈l,(match o.dst with|some d=>Nat.blt d N|none=>true)=true
 | [],_,o,a=>by cases a
 | x :: l,h,o,a=>by
  unfold TZ at h
  rcases lF.1 a with rfl|a
  ·cases b:o.dst with
   | none=>rfl
   | some d=>
    rw [b] at h;dsimp only at h |-
    cases hb:Nat.ble (d+1) N with
    | false=>rw [hb] at h;cases h
    | true=>exact hb
  ·refine VG ?_ o a
   cases b:x.dst with
   | none=>rw [b] at h;exact h
   | some d=>
    rw [b] at h;dsimp only at h
    cases hb:Nat.ble (d+1) N with
    | false=>rw [hb] at h;cases h
    | true=>rw [hb] at h;exact h
theorem Ze{N:Nat}{ops:Array Oper}(h:TZ N ops.toList=true):Gs N ops=true:=by
 unfold Gs;rw [Array.all_eq_true];intro i hi;exact VG h _ (by simp)
def gD(P:Program)(TB:Bp)(Z:Ctx)(N:Nat):Code->(Exit->Env->Ab->Nat->Prop)->Option (Env->Ab->Nat->Prop)
 | .region _ ops false,Q=>bif TZ N ops.toList then some (Lex P TB Z ops (Al Zp 0 ops.size) (λf σ nx=>Q .normal f σ nx)) else none
 | .seq c d,Q=>match gD P TB Z N c (KU (Aj P TB Z N d Q) Q) with
  | some G=>some G
  | none=>some (Aj P TB Z N c (KU (Aj P TB Z N d Q) Q))
 | _,_=>none
theorem ZU:∀ {c:Code} {Q:Exit->Env->Ab->Nat->Prop} {G:Env->Ab->Nat->Prop} {f:Env} {σ:Ab} {nx:Nat},gD P TB Z N c Q=some G->G f σ nx->Aj P TB Z N c Q f σ nx
 | .region _ ops false,Q,G,f,σ,nx,h,g=>by
  unfold gD at h
  cases b:TZ N ops.toList with
  | false=>rw [b] at h;cases h
  | true=>rw [b] at h;injection h with h;subst h;exact kh (Ze b) g
 | .seq c d,Q,G,f,σ,nx,h,g=>by
  unfold gD at h;refine .seq ?_
  cases a:gD P TB Z N c (KU (Aj P TB Z N d Q) Q) with
  | none=>rw [a] at h;injection h with h;subst h;exact g
  | some G=>rw [a] at h;injection h with h;subst h;exact ZU a g
 | .region _ ops true,Q,G,f,σ,nx,h,g=>by cases h
 | .skip,Q,G,f,σ,nx,h,g=>by cases h
 | .cond ..,Q,G,f,σ,nx,h,g=>by cases h
 | .block ..,Q,G,f,σ,nx,h,g=>by cases h
 | .ret,Q,G,f,σ,nx,h,g=>by cases h
 | .exit ..,Q,G,f,σ,nx,h,g=>by cases h
theorem aU{c:Code}{G:Env->Ab->Nat->Prop}(h:gD P TB Z N c Q=some G)(g:G f σ nx):Aj P TB Z N c Q f σ nx:=ZU h g
theorem aR(h:Q .ret f σ nx):Aj P TB Z N .ret Q f σ nx:=.ret h
theorem aK(h:Q .normal f σ nx):Aj P TB Z N .skip Q f σ nx:=.skip h
theorem aE{id:Nat}(h:Q (.exit id) f σ nx):Aj P TB Z N (.exit id) Q f σ nx:=.exit h
theorem aB{id:Nat}{c:Code}(h:Aj P TB Z N c (jy id Q) f σ nx):Aj P TB Z N (.block id c) Q f σ nx:=.block h
theorem aC{c:Operand}{x y:Code}{b:Bool}(e:ev f c=some (.o (.d (.v (.bool b)))))(ht:b=true->Aj P TB Z N x Q f σ nx)(a:b=false->Aj P TB Z N y Q f σ nx):Aj P TB Z N (.cond c x y) Q f σ nx:=.cond e ht a
theorem eN {g:FuncId} {fn:Func} {c:Code} {args:List E} {post:E->Ab->Nat->Prop} (b:P.funcs[g]? = some fn) (hb:fn.body=some c) (a:(fn.name == "runtime.NumGoroutine")=false) (ha:Nat.ble args.length fn.ntmps=true)
 (h:∀Z:Ctx,Z.V.nx=nx->Aj P TB Z fn.ntmps c (gL fn.results post) (look (BY 0 args)) σ nx):Spec P TB g σ nx args post:=.of b hb a (am ha) h
end
section
variable {P:Program}{TB:Bp}{Z:Ctx}{d:Option Tmp}{ty:TypeId}{pos:String}{af:Array Edge}{g:Option (Nat×Bool)}{f:Env}{σ:Ab}{nx:Nat}
end
end Go.Am
