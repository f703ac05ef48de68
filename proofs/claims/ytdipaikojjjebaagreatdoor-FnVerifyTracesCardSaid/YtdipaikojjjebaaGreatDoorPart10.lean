/-
  The steps of a walk, few and short: what an operation gives is reckoned.
-/
import Derived.Test.YtdipaikojjjebaaGreatDoorPart9
set_option linter.all false
namespace Go.Am
open Go
class Qi (P:Program) (t:TypeId):Prop where
 out:P.underlying t=some .bool
theorem oA{p:Prop}[Decidable p]:(decide p=true)=p:=decide_eq_true_eq
theorem oB{p:Prop}[Decidable p]:decide p=false↔¬p:=decide_eq_false_iff_not
theorem oC{α β:Type}{l:List α}{f:α->β}:(l.map f).length=l.length:=f7 f
theorem oD{α:Type}{l m:List α}:(l++m).length=l.length+m.length:=mF
theorem oE{α:Type}{n:Nat}{x:α}:(List.replicate n x).length=n:=List.length_replicate
theorem oF{α:Type}{x:α}{l:List α}:(x::l).length=l.length+1:=me
theorem oG{α:Type}:([]:List α).length=0:=oP
theorem oZ:(∀(p:Prop) [Decidable p],(decide p=true)=p)/\(∀(p:Prop) [Decidable p],decide p=false↔¬p)/\(∀(α β:Type) (l:List α) (f:α->β),(l.map f).length=l.length)/\(∀(α:Type) (l m:List α),(l++m).length=l.length+m.length)/\(∀(α:Type) (n:Nat) (x:α),(List.replicate n x).length=n)/\(∀(α:Type) (x:α) (l:List α),(x::l).length=l.length+1)/\∀(α:Type),([]:List α).length=0:=
 ⟨λ_ _=>oA,λ_ _=>oB,λ_ _ _ _=>oC,λ_ _ _=>oD,λ_ _ _=>oE,λ_ _ _=>oF,λ_=>oG⟩
structure TI where
 ld:Option (Bool×Nat):=none
 ik:Option IntKind:=none
 st:Bool:=false
 sl:Option (Nat×Nat×Nat):=none
 ar:Option (Nat×Nat):=none
 fl:List (Option (Nat×Bool×Nat)):=[]
 pt:Bool:=false
 bo:Bool:=false
 ze:Option (List Value):=none
def RL(P:Program)(t:Nat):Nat->List (Option (Nat×Bool×Nat))->Prop
 | _,[]=>True
 | k,none::r=>RL P t (k+1) r
 | k,some x::r=>(Xk P t k=some x.1/\Xl P t k=some x)/\RL P t (k+1) r
structure EF (P:Program) (t:Nat) (i:TI):Prop where
 ld:i.ld=none\/eZ P t=i.ld
 ik:i.ik=none\/P.underlying t=i.ik.map .int
 st:i.st=false\/P.underlying t=some .string
 sl:i.sl=none\/fM P t=i.sl
 ar:i.ar=none\/gM P t=i.ar
 fl:RL P t 0 i.fl
 pt:i.pt=false\/∃e,P.underlying t=some (.pointer e)
 bo:i.bo=false\/P.underlying t=some .bool
 ze:i.ze=none\/X8 P t=i.ze
def US(P:Program):List (Nat×TI)->Prop
 | []=>True
 | (t,i)::r=>EF P t i/\US P r
def kv:Value->Value->Bool
 | .int k n,.int k' n'=>decide (k=k') && decide (n=n')
 | .bool a,.bool b=>decide (a=b)
 | .string ⟨⟨a⟩⟩,.string ⟨⟨b⟩⟩=>a.isEmpty && b.isEmpty
 | .slice none 0 0,.slice none 0 0=>true
 | .pointer none,.pointer none=>true
 | .map none,.map none=>true
 | .nilFunc,.nilFunc=>true
 | .nilIface,.nilIface=>true
 | _,_=>false
theorem fZ:∀ {a b:Value},kv a b=true->a=b:=by
 intro a b h;unfold kv at h;split at h<;>simp_all
def jH:List Value->List Value->Bool
 | [],[]=>true
 | a::l,b::m=>kv a b && jH l m
 | _,_=>false
theorem bz:∀ {l m:List Value},jH l m=true->l=m
 | [],[],_=>rfl
 | a::l,b::m,h=>by
  unfold jH at h;rw[d4]at h;rw[fZ h.1,bz h.2]
 | [],_::_,h=>by cases h
 | _::_,[],h=>by cases h
def hY(P:Program)(t:Nat):Nat->List (Option (Nat×Bool×Nat))->Bool
 | _,[]=>true
 | k,none::r=>hY P t (k+1) r
 | k,some x::r=>decide (Xk P t k=some x.1) && decide (Xl P t k=some x) && hY P t (k+1) r
theorem TY{P:Program}{t:Nat}:∀ {l:List (Option (Nat×Bool×Nat))} {k:Nat},hY P t k l=true->RL P t k l
 | [],_,_=>trivial
 | none::r,k,h=>TY (l:=r) (k:=k+1) h
 | some x::r,k,h=>by
  unfold hY at h;simp only[d4,decide_eq_true_eq]at h;exact⟨h.1,TY h.2⟩
def kO(d:Option TypeDesc)(i:TI):Bool:=match d with
 | some (.int k)=>(match i.ik with|none=>true|some k'=>decide (k=k')) && !i.st && !i.pt && !i.bo
 | some .string=>i.ik.isNone && !i.pt && !i.bo
 | some (.pointer _)=>i.ik.isNone && !i.st && !i.bo
 | some .bool=>i.ik.isNone && !i.st && !i.pt
 | _=>i.ik.isNone && !i.st && !i.pt && !i.bo
def km(P:Program)(t:Nat)(i:TI):Bool:=
 (i.ld.isNone || decide (eZ P t=i.ld)) && (kO (P.underlying t) i && ((i.sl.isNone || decide (fM P t=i.sl)) && ((i.ar.isNone || decide (gM P t=i.ar)) && (hY P t 0 i.fl && match i.ze with
  | none=>true
  | some l=>match X8 P t with
   | some l'=>jH l' l
   | none=>false))))
theorem or_none{α:Type}[DecidableEq α]{a b:Option α}(h:(b.isNone || decide (a=b))=true):b=none\/a=b:=by
 rw[lT]at h
 rcases h with h|h
 ·left;cases b<;>simp_all
 ·right;exact of_decide_eq_true h
theorem fT{P:Program}{t:Nat}{i:TI}(h:km P t i=true):EF P t i:=by
 unfold km at h;simp only[d4]at h;obtain⟨o,f,n,m,j,b⟩:=h
 have a:(i.ik=none\/P.underlying t=i.ik.map .int)/\(i.st=false\/P.underlying t=some .string)/\(i.pt=false\/∃e,P.underlying t=some (.pointer e))/\(i.bo=false\/P.underlying t=some .bool):=by
  unfold kO at f;split at f
  ·rename_i k hk
   cases g:i.ik<;>simp_all
  all_goals simp_all
 refine⟨or_none o,a.1,a.2.1,or_none n,or_none m,TY j,a.2.2.1,a.2.2.2,?_⟩;split at b
 ·rename_i d;exact .inl d
 ·rename_i l d
  split at b
  ·rename_i l' c
   right;rw[c,d,bz b]
  ·cases b
def ei(P:Program):List (Nat×TI)->Bool
 | []=>true
 | (t,i)::r=>km P t i && ei P r
theorem Vi{P:Program}:∀ {l:List (Nat×TI)},ei P l=true->US P l
 | [],_=>trivial
 | (t,i)::r,h=>by
  unfold ei at h;rw[d4]at h;exact⟨fT h.1,Vi h.2⟩
class C0 (P:Program) where
 T:List (Nat×TI)
 ok:US P T
def I9:List (Nat×TI)->Nat->TI
 | [],_=>{}
 | (k,x)::r,t=>bif Nat.beq k t then x else I9 r t
def nth{α:Type}:List α->Nat->Option α
 | [],_=>none
 | x::_,0=>some x
 | _::r,n+1=>nth r n
theorem MY{α:Type}:∀(l:List α) (i:Nat),nth l i=l[i]?
 | [],_=>by simp[nth]
 | o::_,0=>by simp[nth]
 | _::r,n+1=>by simp[nth,MY r n]
theorem DL{P:Program}(t:Nat):∀ {T:List (Nat×TI)},US P T->EF P t (I9 T t)
 | [],_=>⟨.inl rfl,.inl rfl,.inl rfl,.inl rfl,.inl rfl,trivial,.inl rfl,.inl rfl,.inl rfl⟩
 | (k,x)::r,h=>by
  unfold I9;cases hb:Nat.beq k t
  ·exact DL t h.2
  ·have:=gc hb
   subst this;exact h.1
section
variable {P:Program}{t:Nat}{i:TI}
theorem EF.Mj(h:EF P t i){ag:Bool}{n:Nat}(e:i.ld=some (ag,n)):DB P t ag n:=⟨by rcases h.ld with h|h<;>simp_all⟩
theorem EF.YY(h:EF P t i){k:IntKind}(e:i.ik=some k):Ji P t k:=⟨by rcases h.ik with h|h<;>simp_all⟩
theorem EF.Y0(h:EF P t i)(e:i.st=true):DE P t:=⟨by rcases h.st with h|h<;>simp_all⟩
theorem EF.Sl(h:EF P t i){e k b:Nat}(a:i.sl=some (e,k,b)):CM P t e k b:=⟨by rcases h.sl with h|h<;>simp_all⟩
theorem EF.ie(h:EF P t i){n k:Nat}(a:i.ar=some (n,k)):Pm P t n k:=⟨by rcases h.ar with h|h<;>simp_all⟩
theorem EF.YZ(h:EF P t i)(e:i.pt=true):TE P t:=⟨h.pt.resolve_left (by simp[e])⟩
theorem EF.cm(h:EF P t i)(e:i.bo=true):Qi P t:=⟨by rcases h.bo with h|h<;>simp_all⟩
theorem EF.Y3(h:EF P t i){z:List Value}(e:i.ze=some z):BM P t z:=⟨by rcases h.ze with h|h<;>simp_all⟩
theorem RL.get:∀ {l:List (Option (Nat×Bool×Nat))} {k j:Nat} {x:Nat×Bool×Nat},RL P t k l->nth l j=some (some x)->Xk P t (k+j)=some x.1/\Xl P t (k+j)=some x
 | [],_,_,_,_,h=>by simp[nth]at h
 | none::r,k,0,x,_,h=>by simp[nth]at h
 | some y::r,k,0,x,a,h=>by simp[nth]at h;subst h;exact a.1
 | none::r,k,j+1,x,a,h=>by
  have:=RL.get (l:=r) (k:=k+1) (j:=j) (x:=x) a h;rwa[show k+(j+1)=k+1+j by omega]
 | some y::r,k,j+1,x,a,h=>by
  have:=RL.get (l:=r) (k:=k+1) (j:=j) (x:=x) a.2 h;rwa[show k+(j+1)=k+1+j by omega]
theorem EF.eQ(h:EF P t i){j off n:Nat}{ag:Bool}(e:nth i.fl j=some (some (off,ag,n))):Qj P t j off:=⟨by have:=(h.fl.get e).1;rwa[lH]at this⟩
theorem EF.cn(h:EF P t i){j off n:Nat}{ag:Bool}(e:nth i.fl j=some (some (off,ag,n))):MM P t j off ag n:=⟨by have:=(h.fl.get e).2;rwa[lH]at this⟩
end
def Gc(P:Program)(TB:BA)(Γ:Ctx)(ops:Array Oper)(o:Oper)(fl:Fl)(i n:Nat)(K:Env->Ab->Nat->Prop)(L:List (Nat×E))(σ:Ab)(nx:Nat):Prop:=
 Bw ops o (look L)=some true->Bs P TB Γ ops o fl i n K L σ nx
def xE:Bool×List C->Option E
 | (false,[c])=>some (.o c)
 | (true,cs)=>some (.a cs)
 | _=>none
def jS(f:Env):Op->Option E
 | .move x=>ev f x
 | .pick c x y=>match ev f c with
  | some (.o (.d (.v (.bool true))))=>ev f x
  | some (.o (.d (.v (.bool false))))=>ev f y
  | _=>none
 | .extract x k=>match ev f x with
  | some (.t xs)=>(xs[k]?).bind xE
  | _=>none
 | .nilCheck x=>match ev f x with
  | some (.o (.d (.p cs)))=>some (.o (.ip cs))
  | some (.o (.ptr id k i j))=>some (.o (.ptr id k i j))
  | some (.o (.fn gg cs))=>some (.o (.fn gg cs))
  | _=>none
 | _=>none
def gk:IntKind->IntKind->Bool
 | .i64,.i64|.u8,.u8|.u64,.u64|.i32,.i32|.u16,.u16|.u32,.u32=>true
 | _,_=>false
theorem NR{a b:IntKind}(h:gk a b=true):a=b:=by cases a<;>cases b<;>first|rfl|cases h
def gX(o:BinOp)(m n:Int):Option Bool:=match o with
 | .lss=>some (decide (m<n))
 | .leq=>some (decide (m<=n))
 | .gtr=>some (decide (m > n))
 | .geq=>some (decide (m>=n))
 | .eql=>some (decide (m=n))
 | .neq=>some (decide (m≠n))
 | _=>none
def gV(o:BinOp)(a b:List UInt8):Option Bool:=match o with
 | .eql=>some (decide (a=b))
 | .neq=>some (decide (a≠b))
 | _=>none
def ew(o:BinOp):E->E->Option Bool
 | .o (.d (.v (.int k m))),.o (.d (.v (.int k' n)))=>match gk k k' with
  | true=>gX o m n
  | false=>none
 | .o (.d (.v (.string ⟨⟨a⟩⟩))),.o (.d (.v (.string ⟨⟨b⟩⟩)))=>gV o a b
 | _,_=>none
def XJ:IntKind->Int->Option Prop
 | .i64,m=>some (-9223372036854775808<=m/\m<=9223372036854775807)
 | .u64,m=>some (0<=m/\m<=18446744073709551615)
 | .u8,m=>some (0<=m/\m<=255)
 | .i32,m=>some (-2147483648<=m/\m<=2147483647)
 | _,_=>none
def kH(o:BinOp)(k:IntKind)(m n:Int):Option (Prop×E):=match o with
 | .add=>(XJ k (m+n)).map λq=>(q,eI k (m+n))
 | .sub=>(XJ k (m-n)).map λq=>(q,eI k (m-n))
 | .mul=>(XJ k (m*n)).map λq=>(q,eI k (m*n))
 | .rem=>some (0<=m/\0<n,eI k (m%n))
 | .and=>some (True,eI k (I7 k m n))
 | .or=>some (True,eI k (Fp k m n))
 | _=>none
def jN(o:BinOp):E->E->Option (Prop×E)
 | .o (.d (.v (.int k m))),.o (.d (.v (.int k' n)))=>match o with
  | .shr=>some (0<=n,eI k (m.fdiv (2 ^ (min n.toNat k.bits))))
  | .quo=>match gk k .i64,gk k' .i64 with
   | true,true=>some ((0<=m/\m<=9223372036854775807)/\0<n,eI .i64 (m / n))
   | _,_=>none
  | o=>match gk k k' with
   | true=>kH o k m n
   | false=>none
 | .o (.d (.v (.string ⟨⟨a⟩⟩))),.o (.d (.v (.string ⟨⟨b⟩⟩)))=>match o with
  | .add=>some (a.length+b.length<=9223372036854775807,eT (a++b))
  | _=>none
 | _,_=>none
def eL(off:Nat):E->Option E
 | .o (.d (.p cs))=>some (.o (.ip (cs.drop off)))
 | .o (.ptr id k i j)=>some (.o (.ptr id k i (j+off)))
 | _=>none
def jW(ag:Bool)(n:Nat):E->Option E
 | .o (.d (.p cs))=>match ag,cs with
  | false,c::_=>some (.o (.d c))
  | true,cs=>match Nat.ble n cs.length with
   | true=>some (.a ((cs.take n).map .d))
   | false=>none
  | _,_=>none
 | _=>none
def fa(ag:Bool)(n j:Nat)(r:List C):Option E:=match ag with
 | false=>(r[j]?).map .o
 | true=>match Nat.ble (j+n) r.length with
  | true=>some (.a ((r.drop j).take n))
  | false=>none
def jT(ag:Bool)(off n:Nat)(cs:List C):Option E:=match ag with
 | false=>(cs[off]?).map .o
 | true=>match Nat.ble (off+n) cs.length with
  | true=>some (.a ((cs.drop off).take n))
  | false=>none
def jV(k:Nat)(n:Int):E->Option E
 | .o (.d (.p cs))=>some (.o (.ip (cs.drop (n.toNat*k))))
 | .o (.ptr id k' i j)=>some (.o (.ptr id k' i (j+n.toNat*k)))
 | _=>none
def jX(k:Nat):E->Option E
 | .o (.d (.l rows))=>some (eI .i64 rows.length)
 | .o (.arr _ k' _ len)=>match Nat.beq k' k with
  | true=>some (eI .i64 len)
  | false=>none
 | _=>none
def tr:Option E->Option (Prop×E)
 | some e=>some (True,e)
 | none=>none
def fj:Bool->E->E->Option (Prop×E)
 | true,.o (.d (.p _)),.o (.d (.v (.pointer none)))=>some (True,eB false)
 | true,.o (.d (.v (.pointer none))),.o (.d (.v (.pointer none)))=>some (True,eB true)
 | _,_,_=>none
def gR(pt:Bool)(o:BinOp)(a b:E):Option (Prop×E):=match o with
 | .eql=>fj pt a b
 | o=>jN o a b
def eU(i:TI):E->E->Option (Prop×E)
 | .o (.arr id k off len),.o (.d (.v (.int _ m)))=>match i.sl with
  | some (_,k',_)=>match Nat.beq k k' with
   | true=>some (0<=m/\m<len,.o (.ptr id k (off+m.toNat) 0))
   | false=>none
  | none=>none
 | a, .o (.d (.v (.int _ m)))=>match i.ar with
  | some (len,k)=>match jV k m a with
   | some e=>some (0<=m/\m<len,e)
   | none=>none
  | none=>none
 | _,_=>none
def fc(i:TI):E->Option E
 | .o (.d (.v (.string ⟨⟨s⟩⟩)))=>match i.st with
  | true=>some (eI .i64 s.length)
  | false=>none
 | e=>match i.sl with
  | some (_,k,_)=>jX k e
  | none=>none
def ez(k k':IntKind):E->Option (Prop×E)
 | .o (.d (.v (.int a m)))=>match gk a k,XJ k' m with
  | true,some q=>some (q,eI k' m)
  | _,_=>none
 | _=>none
def ah(T:List (Nat×TI))(md:Bool)(f:Env):Op->Option (Prop×E)
 | .assign x=>match md,notNil x with
  | true,false=>none
  | _,_=>tr (ev f x)
 | .binOp o t x y _=>match ev f x,ev f y with
  | some a,some b=>gR (I9 T t).pt o a b
  | _,_=>none
 | .fieldAddr s x k=>match nth (I9 T s).fl k,ev f x with
  | some (some (off,_,_)),some a=>tr (eL off a)
  | _,_=>none
 | .field t x k=>match nth (I9 T t).fl k,ev f x with
  | some (some (off,ag,n)),some (.a cs)=>tr (jT ag off n cs)
  | _,_=>none
 | .load t x=>match (I9 T t).ld,ev f x with
  | some (ag,n),some a=>tr (jW ag n a)
  | _,_=>none
 | .indexAddr t x y=>match ev f x,ev f y with
  | some a,some b=>eU (I9 T t) a b
  | _,_=>none
 | .call ⟨.builtin .len,⟨[x]⟩,⟨[t]⟩⟩=>match ev f x with
  | some a=>tr (fc (I9 T t) a)
  | none=>none
 | .convert s t x=>match (I9 T s).ik,(I9 T t).ik,ev f x with
  | some k,some k',some a=>ez k k' a
  | _,_,_=>none
 | .makeFunc (.func gg) ⟨[]⟩ caps=>match I6 f caps.toList with
  | some es=>match br es with
   | some cs=>some (True,.o (.fn gg cs))
   | none=>none
  | none=>none
 | op=>tr (jS f op)
def kI:BinOp->E->E->Option Bool
 | .eql,.o (.d (.v (.bool a))),.o (.d (.v (.bool b)))=>some (a == b)
 | .neq,.o (.d (.v (.bool a))),.o (.d (.v (.bool b)))=>some (a != b)
 | _,_,_=>none
def SO(T:List (Nat×TI))(f:Env):Op->Option Bool
 | .binOp o t x y _=>match ev f x,ev f y with
  | some a,some b=>match (I9 T t).bo with
   | true=>kI o a b
   | false=>ew o a b
  | _,_=>none
 | .unOp .not _ x=>match ev f x with
  | some (.o (.d (.v (.bool b))))=>some (!b)
  | _=>none
 | _=>none
def Mt(T:List (Nat×TI))(σ:Ab)(f:Env):Op->Option E
 | .load t x=>match (I9 T t).ld,ev f x with
  | some (ag,n),some (.o (.ptr id k i j))=>match look σ id with
   | some (.cells _ k' rows)=>match Nat.beq k k',nth rows i with
    | true,some r=>fa ag n j r
    | _,_=>none
   | _=>none
  | _,_=>none
 | _=>none
def PY(T:List (Nat×TI))(σ:Ab)(f:Env)(t:Nat)(x y:Operand):Option Ab:=
 match (I9 T t).ld,ev f x,ev f y with
 | some (_,n),some (.o (.ptr id k i j)),some e=>match look σ id with
  | some (.cells ct k' rows)=>match Nat.beq k k',nth rows i with
   | true,some r=>match Sc e,Nat.beq (eC e).length n,Nat.ble (j+n) k with
    | true,true,true=>some ((id,.cells ct k (rows.set i (Ae r j (eC e))))::σ)
    | _,_,_=>none
   | _,_=>none
  | _=>none
 | _,_,_=>none
section
variable {P:Program}{TB:BA}{Γ:Ctx}{d:Option Tmp}{ty:TypeId}{pos:String}{af:Array Edge}{g:Option (Nat×Bool)}{f:Env}{σ:Ab}{nx:Nat}
theorem Wu{t:TypeId}{a b:Bool}(c:P.underlying t=some .bool)(w:World):(Op.equal t (.bool a) (.bool b)).run P w=.ok (a == b) w:=by
 unfold Op.equal Op.maxDepth;rw[show 10000=9999+1 from rfl,Op.equalIn];simp[run_underlying c,go_sem]
theorem iK{t yt:TypeId}{x y:Operand}{a b:Bool}[h:Qi P t](e:ev f x=some (eB a))(c:ev f y=some (eB b)):A1 P TB Γ ⟨d,.binOp .eql t x y yt,ty,pos,af,g⟩ f σ nx (eB (a == b)):=
 BI e c rfl λw=>by
  have j:binOp .eql t (.bool a) (.bool b)=(do pure (.bool (<-Op.equal t (.bool a) (.bool b)))):=rfl;have i:eqGuard .eql t x y (.bool a) (.bool b)=pure ():=rfl;rw[j,i];simp[Wu h.out w,go_sem]
theorem iU{t yt:TypeId}{x y:Operand}{a b:Bool}[h:Qi P t](e:ev f x=some (eB a))(c:ev f y=some (eB b)):A1 P TB Γ ⟨d,.binOp .neq t x y yt,ty,pos,af,g⟩ f σ nx (eB (a != b)):=
 BI e c rfl λw=>by
  have j:binOp .neq t (.bool a) (.bool b)=(do pure (.bool (!(<-Op.equal t (.bool a) (.bool b))))):=rfl;have i:eqGuard .neq t x y (.bool a) (.bool b)=pure ():=rfl;rw[j,i];simp[Wu h.out w,go_sem,bne]
theorem lu{op:Op}{e:E}(h:jS f op=some e):A1 P TB Γ ⟨d,op,ty,pos,af,g⟩ f σ nx e:=by
 unfold jS at h;split at h
 ·exact fF h
 ·split at h
  ·rename_i a;exact de a h
  ·rename_i a;exact dc a h
  ·cases h
 ·split at h
  ·rename_i a
   refine XC a ?_;rw[<-h];congr 1
  ·cases h
 ·split at h
  ·rename_i a;injection h with h;subst h;exact da a
  ·rename_i a;injection h with h;subst h;exact fG a
  ·rename_i a;injection h with h;subst h;exact c8 a
  ·cases h
 ·cases h
theorem iJ{o:BinOp}{t yt:TypeId}{x y:Operand}{ex ey:E}{c:Bool}(e:ev f x=some ex)(b:ev f y=some ey)(a:ew o ex ey=some c) :
 A1 P TB Γ ⟨d,.binOp o t x y yt,ty,pos,af,g⟩ f σ nx (eB c):=by
 unfold ew at a;split at a
 ·split at a
  ·rename_i hk
   have hk:=NR hk;subst hk;unfold gX at a
   split at a<;>first|(injection a with a;subst a)|cases a
   ·exact iT e b
   ·exact iS e b
   ·exact iQ e b
   ·exact iP e b
   ·exact iN e b
   ·exact iW e b
  ·cases a
 ·unfold gV at a
  split at a<;>first|(injection a with a;subst a)|cases a
  ·exact iL e b
  ·exact iV e b
 ·cases a
theorem Rt{k:IntKind}{m:Int}{q:Prop}(h:XJ k m=some q)(a:q):k.wrap m=m:=by
 unfold XJ at h
 split at h<;>first|(injection h with h;subst h)|cases h
 ·exact IntWalk.i64_in _ a
 ·exact IntWalk.u64_in _ a
 ·exact IntWalk.u8_in _ a
 ·exact IntWalk.i32_in _ a
theorem j9{o:BinOp}{t yt:TypeId}{x y:Operand}{ex ey e:E}{q:Prop}(j:ev f x=some ex)(i:ev f y=some ey)(a:jN o ex ey=some (q,e))(h:q) :
 A1 P TB Γ ⟨d,.binOp o t x y yt,ty,pos,af,g⟩ f σ nx e:=by
 unfold jN at a;split at a
 ·split at a
  ·injection a with a;injection a with c b;subst c;subst b;exact ja j i h rfl
  ·split at a
   ·rename_i hk k
    have hk:=NR hk;have k:=NR k;subst hk;subst k
    injection a with a;injection a with c b;subst c;subst b;exact fI j i h.1.1 h.1.2 h.2
   ·cases a
  ·split at a
   ·rename_i hk
    have hk:=NR hk;subst hk;unfold kH at a;split at a
    ·obtain⟨q',l,m⟩:=d6.1 a
     injection m with c b;subst c;subst b;exact iH j i (Rt l h)
    ·obtain⟨q',l,m⟩:=d6.1 a
     injection m with c b;subst c;subst b;exact jb j i (Rt l h)
    ·obtain⟨q',l,m⟩:=d6.1 a
     injection m with c b;subst c;subst b;exact dR j i (Rt l h)
    ·injection a with a;injection a with c b;subst c;subst b;exact fJ j i h.1 h.2
    ·injection a with a;injection a with c b;subst b;exact dQ j i rfl
    ·injection a with a;injection a with c b;subst b;exact fH j i rfl
    ·cases a
   ·cases a
 ·split at a
  ·injection a with a;injection a with c b;subst c;subst b;exact iI j i h
  ·cases a
 ·cases a
theorem iO{s k off:Nat}{x:Operand}{ex e:E}[b:Qj P s k off](a:ev f x=some ex)(h:eL off ex=some e):A1 P TB Γ ⟨d,.fieldAddr s x k,ty,pos,af,g⟩ f σ nx e:=by
 unfold eL at h
 split at h<;>first|(injection h with h;subst h)|cases h
 ·exact XD a
 ·exact ZR a
theorem kh{t:TypeId}{x:Operand}{ex e:E}{ag:Bool}{n:Nat}[b:DB P t ag n](a:ev f x=some ex)(h:jW ag n ex=some e):A1 P TB Γ ⟨d,.load t x,ty,pos,af,g⟩ f σ nx e:=by
 unfold jW at h;split at h
 ·split at h
  ·injection h with h;subst h;exact SJ a
  ·split at h
   ·rename_i hb;injection h with h;subst h;exact XF a (ce hb)
   ·cases h
  ·cases h
 ·cases h
theorem PX{t:TypeId}{x:Operand}{id k i j:Nat}{T:TypeId}{rows:List (List C)}{r:List C}{e:E}{ag:Bool}{n:Nat}[q:DB P t ag n](a:ev f x=some (.o (.ptr id k i j)))(l:look σ id=some (.cells T k rows))(b:rows[i]?=some r)
 (h:fa ag n j r=some e):A1 P TB Γ ⟨d,.load t x,ty,pos,af,g⟩ f σ nx e:=by
 unfold fa at h;split at h
 ·obtain⟨c,p,m⟩:=d6.1 h
  subst m;exact Ro a l b p
 ·split at h
  ·rename_i hb;injection h with h;subst h;exact ZY a l b (ce hb)
  ·cases h
theorem kc{t:TypeId}{x:Operand}{k off n:Nat}{ag:Bool}{cs:List C}{e:E}[l:MM P t k off ag n](b:ev f x=some (.a cs))(h:jT ag off n cs=some e):A1 P TB Γ ⟨d,.field t x k,ty,pos,af,g⟩ f σ nx e:=by
 unfold jT at h;split at h
 ·obtain⟨c,j,i⟩:=d6.1 h
  subst i;exact c6 b j
 ·split at h
  ·rename_i hb;injection h with h;subst h;exact ZQ b (ce hb)
  ·cases h
theorem kg{t:TypeId}{x y:Operand}{ex e:E}{n:Int}{len k:Nat}{ik:IntKind}[i:Pm P t len k](c:ev f x=some ex)(b:ev f y=some (eI ik n))(h:jV k n ex=some e)(a:0<=n/\n<len) :
 A1 P TB Γ ⟨d,.indexAddr t x y,ty,pos,af,g⟩ f σ nx e:=by
 unfold jV at h
 split at h<;>first|(injection h with h;subst h)|cases h
 ·exact XE c b a.1 a.2
 ·exact ZU c b a.1 a.2
theorem iR{t e:TypeId}{x:Operand}{ex r:E}{k b:Nat}[c:CM P t e k b](a:ev f x=some ex)(h:jX k ex=some r):A1 P TB Γ ⟨d,.call ⟨.builtin .len,#[x],#[t]⟩,ty,pos,af,g⟩ f σ nx r:=by
 unfold jX at h;split at h
 ·injection h with h;subst h;exact ZX a
 ·split at h
  ·injection h with h;subst h;exact fB a
  ·cases h
 ·cases h
theorem LV{x:Option E}{q:Prop}{e:E}(h:tr x=some (q,e)):x=some e:=by
 cases x with
 | none=>cases h
 | some y=>injection h with h;injection h with _ h;rw[h]
theorem fe{i:TI}{t:TypeId}{x:Operand}{a e:E}(hi:EF P t i)(b:ev f x=some a)(h:fc i a=some e):A1 P TB Γ ⟨d,.call ⟨.builtin .len,#[x],#[t]⟩,ty,pos,af,g⟩ f σ nx e:=by
 unfold fc at h;split at h
 ·split at h
  ·rename_i hs
   injection h with h;subst h
   haveI:=hi.Y0 hs;exact fE b
  ·cases h
 ·split at h
  ·rename_i hs
   haveI:=hi.Sl hs;exact iR b h
  ·cases h
theorem eX{i:TI}{t:TypeId}{x y:Operand}{a b e:E}{q:Prop}(hi:EF P t i)(m:ev f x=some a)(l:ev f y=some b)(h:eU i a b=some (q,e))(c:q):A1 P TB Γ ⟨d,.indexAddr t x y,ty,pos,af,g⟩ f σ nx e:=by
 unfold eU at h;split at h
 ·split at h
  ·rename_i hs
   split at h
   ·rename_i hk
    injection h with h;injection h with k j;subst k;subst j
    have:=gc hk;subst this;haveI:=hi.Sl hs;exact ZS m l c.1 c.2
   ·cases h
  ·cases h
 ·split at h
  ·rename_i hs
   split at h
   ·rename_i n
    injection h with h;injection h with k j;subst k;subst j
    haveI:=hi.ie hs;exact kg m l n c
   ·cases h
  ·cases h
 ·cases h
theorem fk{i:TI}{t yt:TypeId}{x y:Operand}{a b e:E}{q:Prop}(hi:EF P t i)(l:ev f x=some a)(k:ev f y=some b)(h:fj i.pt a b=some (q,e)):A1 P TB Γ ⟨d,.binOp .eql t x y yt,ty,pos,af,g⟩ f σ nx e:=by
 unfold fj at h;split at h
 ·rename_i c
  injection h with h;injection h with m j;subst j
  haveI:=hi.YZ c;exact XB l k
 ·rename_i c
  injection h with h;injection h with m j;subst j
  haveI:=hi.YZ c;exact Uv l k
 ·cases h
theorem eD{i i':TI}{s t:TypeId}{k k':IntKind}{x:Operand}{a e:E}{q:Prop}(hi:EF P s i)(c:EF P t i')(hk:i.ik=some k)(b:i'.ik=some k')(l:ev f x=some a)(h:ez k k' a=some (q,e))(n:q):A1 P TB Γ ⟨d,.convert s t x,ty,pos,af,g⟩ f σ nx e:=by
 unfold ez at h;split at h
 ·split at h
  ·rename_i j m
   injection h with h;injection h with p o;subst p;subst o
   have j:=NR j;subst j;haveI:=hi.YY hk;haveI:=c.YY b;exact Rn l (Rt m n)
  ·cases h
 ·cases h
theorem VY[n:C0 P]{md:Bool}{op:Op}{q:Prop}{e:E}(h:ah n.T md f op=some (q,e))(i:q):A1 P TB Γ ⟨d,op,ty,pos,af,g⟩ f σ nx e:=by
 have a:=λt=>DL (P:=P) t n.ok;unfold ah at h;split at h
 ·split at h
  ·cases h
  ·exact Ew (LV h)
 ·rename_i o t x y yt
  split at h
  ·rename_i b c
   unfold gR at h;split at h
   ·exact fk (a t) b c h
   ·exact j9 b c h i
  ·cases h
 ·rename_i s x k
  split at h
  ·rename_i j b
   haveI:=(a s).eQ j;exact iO b (LV h)
  ·cases h
 ·rename_i t x k
  split at h
  ·rename_i j b
   haveI:=(a t).cn j;exact kc b (LV h)
  ·cases h
 ·rename_i t x
  split at h
  ·rename_i p b
   haveI:=(a t).Mj p;exact kh b (LV h)
  ·cases h
 ·rename_i t x y
  split at h
  ·rename_i b c
   exact eX (a t) b c h i
  ·cases h
 ·rename_i x t
  split at h
  ·rename_i b
   exact fe (a t) b (LV h)
  ·cases h
 ·rename_i s t x
  split at h
  ·rename_i m l b
   exact eD (a s) (a t) m l b h i
  ·cases h
 ·split at h
  ·rename_i m
   split at h
   ·rename_i l
    injection h with h;injection h with _ h;subst h
    exact ka m l
   ·cases h
  ·cases h
 ·exact lu (LV h)
theorem SP[i:C0 P]{op:Op}{c:Bool}(h:SO i.T f op=some c):A1 P TB Γ ⟨d,op,ty,pos,af,g⟩ f σ nx (eB c):=by
 have e:=λt=>DL (P:=P) t i.ok;unfold SO at h;split at h
 ·rename_i o t x y yt
  split at h
  ·rename_i a b
   split at h
   ·rename_i hb
    haveI:=(e t).cm hb;unfold kI at h;split at h
    ·injection h with h;subst h;exact iK a b
    ·injection h with h;subst h;exact iU a b
    ·cases h
   ·exact iJ a b h
  ·cases h
 ·split at h
  ·rename_i a
   injection h with h;subst h
   exact iX a
  ·cases h
 ·cases h
theorem Ok[c:C0 P]{op:Op}{e:E}(h:Mt c.T σ f op=some e):A1 P TB Γ ⟨d,op,ty,pos,af,g⟩ f σ nx e:=by
 have a:=λt=>DL (P:=P) t c.ok;unfold Mt at h;split at h
 ·rename_i t x
  split at h
  ·rename_i k i
   split at h
   ·rename_i j
    split at h
    ·rename_i hk b
     have hk:=gc hk;subst hk;haveI:=(a t).Mj k;rw[MY]at b;exact PX i j b h
    ·cases h
   ·cases h
  ·cases h
 ·cases h
theorem Ol[c:C0 P]{t:TypeId}{x y:Operand}{σ':Ab}{K:E->Ab->Nat->Prop}(h:PY c.T σ f t x y=some σ')(l:K (.t []) σ' nx):Cr P TB Γ ⟨d,.store t x y,ty,pos,af,g⟩ f σ nx K:=by
 have a:=λt=>DL (P:=P) t c.ok;unfold PY at h;split at h
 ·rename_i k i e
  split at h
  ·rename_i j
   split at h
   ·rename_i hk b
    split at h
    ·rename_i o n m
     have hk:=gc hk;subst hk;haveI:=(a t).Mj k;rw[MY]at b
     injection h with h
     subst h;exact Et i e o j b (gc n) (ce m) l
    ·cases h
   ·cases h
  ·cases h
 ·cases h
end
section
variable {P:Program}{TB:BA}{Γ:Ctx}{ops:Array Oper}{fl:Fl}{i n:Nat}{L:List (Nat×E)}{σ:Ab}{nx:Nat}{K:Env->Ab->Nat->Prop}{d:Tmp}{ty:TypeId}{pos:String}{af:Array Edge}{g:Option (Nat×Bool)}{op:Op}
theorem gA{d:Option Tmp}(hg:Bw ops ⟨d,op,ty,pos,af,g⟩ (look L)=some true)(h:Gc P TB Γ ops ⟨d,op,ty,pos,af,g⟩ fl i n K L σ nx):Bs P TB Γ ops ⟨d,op,ty,pos,af,g⟩ fl i n K L σ nx:=h hg
theorem gS{x:E}(a:∀σ nx,A1 P TB Γ ⟨some d,op,ty,pos,af,g⟩ (look L) σ nx x)(h:Lex P TB Γ ops (Ak fl (i+1) n) K (look ((d,x)::L)) σ nx):Gc P TB Γ ops ⟨some d,op,ty,pos,af,g⟩ fl i n K L σ nx:=λhg=>CO a hg h
theorem gQ{x:E}(a:A1 P TB Γ ⟨some d,op,ty,pos,af,g⟩ (look L) σ nx x)(b:RS (fl i)=true)(h:Lex P TB Γ ops (Ak fl (i+1) n) K (look ((d,x)::L)) σ nx):Gc P TB Γ ops ⟨some d,op,ty,pos,af,g⟩ fl i n K L σ nx:=λhg=>fx a hg b h
theorem gB{c:Bool}(a:∀σ nx,A1 P TB Γ ⟨some d,op,ty,pos,af,g⟩ (look L) σ nx (eB c))(h:∀b,c=b->Lex P TB Γ ops (Ak fl (i+1) n) K (look ((d,eB b)::L)) σ nx):Gc P TB Γ ops ⟨some d,op,ty,pos,af,g⟩ fl i n K L σ nx:=λhg=>ZJ a hg h
theorem gW(h:Cr P TB Γ ⟨some d,op,ty,pos,af,g⟩ (look L) σ nx (λx σ' nx'=>Lex P TB Γ ops (Ak fl (i+1) n) K (look ((d,x)::L)) σ' nx'))(a:fl i=1):Gc P TB Γ ops ⟨some d,op,ty,pos,af,g⟩ fl i n K L σ nx:=λhg=>Kw h hg a
theorem kJ(h:Cr P TB Γ ⟨none,op,ty,pos,af,g⟩ (look L) σ nx (λ_ σ' nx'=>Lex P TB Γ ops (Ak fl (i+1) n) K (look L) σ' nx'))(a:fl i=1):Gc P TB Γ ops ⟨none,op,ty,pos,af,g⟩ fl i n K L σ nx:=λhg=>HJ h hg a
theorem yQ{md:Bool}[b:C0 P]{q:Prop}{x:E}(h:ah b.T md (look L) op=some (q,x))(a:q)(hk:Lex P TB Γ ops (Ak fl (i+1) n) K (look ((d,x)::L)) σ nx):Gc P TB Γ ops ⟨some d,op,ty,pos,af,g⟩ fl i n K L σ nx:=gS (λ_ _=>VY h a) hk
theorem yB[a:C0 P]{c:Bool}(h:SO a.T (look L) op=some c)(hk:∀b,c=b->Lex P TB Γ ops (Ak fl (i+1) n) K (look ((d,eB b)::L)) σ nx):Gc P TB Γ ops ⟨some d,op,ty,pos,af,g⟩ fl i n K L σ nx:=gB (λ_ _=>SP h) hk
theorem yS[b:C0 P]{x:E}(h:Mt b.T σ (look L) op=some x)(a:RS (fl i)=true)(hk:Lex P TB Γ ops (Ak fl (i+1) n) K (look ((d,x)::L)) σ nx):Gc P TB Γ ops ⟨some d,op,ty,pos,af,g⟩ fl i n K L σ nx:=gQ (Ok h) a hk
theorem yW[b:C0 P]{t:TypeId}{x y:Operand}{σ':Ab}(h:PY b.T σ (look L) t x y=some σ')(a:fl i=1)(hk:Lex P TB Γ ops (Ak fl (i+1) n) K (look L) σ' nx):Gc P TB Γ ops ⟨none,.store t x y,ty,pos,af,g⟩ fl i n K L σ nx:=kJ (Ol h hk) a
theorem yO[b:C0 P]{T:TypeId}{z:List Value}(h:(I9 b.T T).ze=some z)(a:z.all O2=true)(c:fl i=1)(e:Lex P TB Γ ops (Ak fl (i+1) n) K (look ((d,.o (.ptr nx z.length 0 0))::L)) ((nx,.cells T z.length [z.map zC])::σ) (nx+1)):Gc P TB Γ ops ⟨some d,.alloc T,ty,pos,af,g⟩ fl i n K L σ nx:=
 haveI:=(DL (P:=P) T b.ok).Y3 h
 gW (cL a e) c
theorem yM[a:C0 P]{t:TypeId}{x:Operand}{id k i' j:Nat}{T:TypeId}{rows:List (List C)}{r:List C}{e:E}{ag:Bool}{m:Nat}(b:ev (look L) x=some (.o (.ptr id k i' j)))(f:look σ id=some (.cells T k rows))(c:rows[i']?=some r)(l:(I9 a.T t).ld=some (ag,m))
 (h:fa ag m j r=some e) (p:RS (fl i)=true) (hk:Lex P TB Γ ops (Ak fl (i+1) n) K (look ((d,e)::L)) σ nx):Gc P TB Γ ops ⟨some d,.load t x,ty,pos,af,g⟩ fl i n K L σ nx:=
 haveI:=(DL (P:=P) t a.ok).Mj l
 gQ (PX b f c h) p hk
theorem yV[b:C0 P]{t:TypeId}{x y:Operand}{id k i' j m:Nat}{T:TypeId}{rows:List (List C)}{r:List C}{e:E}{ag:Bool}(d:ev (look L) x=some (.o (.ptr id k i' j)))(c:ev (look L) y=some e)(h:Sc e=true)(a:look σ id=some (.cells T k rows))(f:rows[i']?=some r)
 (p:(I9 b.T t).ld=some (ag,m)) (l:(eC e).length=m) (q:Nat.ble (j+m) k=true) (s:fl i=1) (hk:Lex P TB Γ ops (Ak fl (i+1) n) K (look L) ((id,.cells T k (rows.set i' (Ae r j (eC e))))::σ) nx):Gc P TB Γ ops ⟨none,.store t x y,ty,pos,af,g⟩ fl i n K L σ nx:=
 haveI:=(DL (P:=P) t b.ok).Mj p
 kJ (Et d c h a f l (ce q) hk) s
theorem lA[a:C0 P]{α:Type}{t e:TypeId}{x:Operand}{l:List α}{h:α->List D}{k b:Nat}(c:ev (look L) x=some (.o (.d (.l (l.map h)))))(f:(I9 a.T t).sl=some (e,k,b))(hk:Lex P TB Γ ops (Ak fl (i+1) n) K (look ((d,eI .i64 l.length)::L)) σ nx):Gc P TB Γ ops ⟨some d,.call ⟨.builtin .len,#[x],#[t]⟩,ty,pos,af,g⟩ fl i n K L σ nx:=
 haveI:=(DL (P:=P) t a.ok).Sl f
 gS (λ_ _=>fC c) hk
theorem yL[a:C0 P]{t e:TypeId}{x y:Operand}{rows:List (List D)}{row:List D}{m:Int}{k b:Nat}{ik:IntKind}(f:ev (look L) x=some (.o (.d (.l rows))))(c:ev (look L) y=some (eI ik m))(h:rows[m.toNat]?=some row)(p:(I9 a.T t).sl=some (e,k,b))(j:row.length=k)(q:0<=m)
 (hk:Lex P TB Γ ops (Ak fl (i+1) n) K (look ((d,.o (.ip row))::L)) σ nx):Gc P TB Γ ops ⟨some d,.indexAddr t x y,ty,pos,af,g⟩ fl i n K L σ nx:=
 haveI:=(DL (P:=P) t a.ok).Sl p
 gS (λ_ _=>Of f c q h j) hk
theorem yT[a:C0 P]{t:TypeId}{x y:Operand}{s:List UInt8}{m:Int}{c:UInt8}{ik:IntKind}(e:ev (look L) x=some (eT s))(b:ev (look L) y=some (eI ik m))(h:s[m.toNat]?=some c)(f:(I9 a.T t).st=true)(j:0<=m)
 (hk:Lex P TB Γ ops (Ak fl (i+1) n) K (look ((d,eI .u8 (c.toNat:Int))::L)) σ nx):Gc P TB Γ ops ⟨some d,.index t x y,ty,pos,af,g⟩ fl i n K L σ nx:=
 haveI:=(DL (P:=P) t a.ok).Y0 f
 gS (λ_ _=>ZW e b j h) hk
def kl(k m:Nat)(z:List Value)(es:List E):Option (List (List D)):=match es.all Sc,OR es with
 | true,some rows=>match rows.all λr=>Nat.beq r.length k,Nat.beq z.length k,z.all O2,Nat.ble 1 k,Nat.ble (m*k) 16777216 with
  | true,true,true,true,true=>some rows
  | _,_,_,_,_=>none
 | _,_=>none
theorem yZ[c:C0 P]{t e:TypeId}{k b m:Nat}{z:List Value}{parts:Array (Nat×Operand)}{es:List E}{rows:List (List D)}(r:(I9 c.T t).sl=some (e,k,b))(j:(I9 c.T e).ze=some z)(p:Dh 0 (parts.toList.map (·.2))=parts.toList)(q:parts.toList.length=m)
 (f:I6 (look L) (parts.toList.map (·.2))=some es) (a:kl k m z es=some rows)
 (h:Lex P TB Γ ops (Ak fl (i+1) n) K (look ((d,.o (.d (.l rows)))::L)) σ nx):Gc P TB Γ ops ⟨some d,.buildSlice t m parts,ty,pos,af,g⟩ fl i n K L σ nx:=by
 haveI:=(DL (P:=P) t c.ok).Sl r;haveI:=(DL (P:=P) e c.ok).Y3 j;unfold kl at a;split at a
 ·rename_i A y
  split at a
  ·rename_i x w v u s
   injection a with a
   subst a;exact gS (λ_ _=>ae p q f A y x (gc w) v u s) h
  ·cases a
 ·cases a
theorem yY{T:TypeId}{x:Operand}{e:E}{ds:List D}(a:ev (look L) x=some e)(b:Sc e=true)(c:Pl (eC e)=some ds)(h:Lex P TB Γ ops (Ak fl (i+1) n) K (look ((d,.o (.ip ds))::L)) σ nx):Gc P TB Γ ops ⟨some d,.box T x,ty,pos,af,g⟩ fl i n K L σ nx:=gS (λ_ _=>Ec a b c) h
def cM:Nat->List (Nat×Operand)->Bool
 | _,[]=>true
 | k,(i,_)::r=>Nat.beq i k && cM (k+1) r
theorem VL:∀(l:List (Nat×Operand)) (k:Nat),cM k l=true->Dh k (l.map (·.2))=l
 | [],_,_=>rfl
 | (i,x)::r,k,h=>by
  unfold cM at h;rw[d4]at h;have a:=gc h.1;subst a;have:=VL r (i+1) h.2;simp[Dh,this]
def cQ(c:Nat):Option E->Bool
 | some (.o (.ptr id _ _ _))=>RS c || (Nat.beq c (10+id) && !Nat.ble 1000 c)
 | _=>RS c
theorem aj{T:List (Nat×TI)}{σ σ':Ab}{f:Env}{t:TypeId}{x:Operand}{id k i j:Nat}(a:ev f x=some (.o (.ptr id k i j)))(h:look σ' id=look σ id):Mt T σ' f (.load t x)=Mt T σ f (.load t x):=by
 unfold Mt;simp only[a]
 cases (I9 T t).ld with
 | none=>rfl
 | some p=>obtain⟨ag,n⟩:=p;simp only[h]
def VX(T:List (Nat×TI))(sl:Bool)(c nx:Nat)(σ:Ab)(L:List (Nat×E)):Option Tmp->Op->Option (List (Nat×E)×Ab×Nat)
 | some d,.alloc t=>match Nat.beq c 1,(I9 T t).ze with
  | true,some z=>match z.all O2 with
   | true=>some ((d,.o (.ptr nx z.length 0 0))::L,(nx,.cells t z.length [z.map zC])::σ,nx+1)
   | false=>none
  | _,_=>none
 | none,.store t x y=>match Nat.beq c 1,PY T σ (look L) t x y with
  | true,some σ'=>some (L,σ',nx)
  | _,_=>none
 | some d,.load t x=>match cQ c (ev (look L) x),Mt T σ (look L) (.load t x) with
  | true,some e=>some ((d,e)::L,σ,nx)
  | _,_=>none
 | some d,.box _ x=>match sl,ev (look L) x with
  | true,some e=>match Sc e,Pl (eC e) with
   | true,some ds=>some ((d,.o (.ip ds))::L,σ,nx)
   | _,_=>none
  | _,_=>none
 | some d,.buildSlice t m parts=>match sl,(I9 T t).sl with
  | true,some (e,k,_)=>match (I9 T e).ze,I6 (look L) (parts.toList.map (·.2)) with
   | some z,some es=>match kl k m z es,cM 0 parts.toList,Nat.beq parts.toList.length m with
    | some rows,true,true=>some ((d,.o (.d (.l rows)))::L,σ,nx)
    | _,_,_=>none
   | _,_=>none
  | _,_=>none
 | _,_=>none
theorem yU[l:C0 P]{sl:Bool}{d:Option Tmp}{L':List (Nat×E)}{σ':Ab}{nx':Nat}(h:VX l.T sl (fl i) nx σ L d op=some (L',σ',nx'))(hk:Lex P TB Γ ops (Ak fl (i+1) n) K (look L') σ' nx'):Gc P TB Γ ops ⟨d,op,ty,pos,af,g⟩ fl i n K L σ nx:=by
 unfold VX at h;split at h
 ·split at h
  ·rename_i a b
   split at h
   ·rename_i j
    injection h with h;injection h with f h;injection h with e c;subst f;subst e;subst c
    exact yO b j (gc a) hk
   ·cases h
  ·cases h
 ·split at h
  ·rename_i a b
   injection h with h;injection h with f h;injection h with e c;subst f;subst e;subst c
   exact yW b (gc a) hk
  ·cases h
 ·split at h
  ·rename_i a b
   injection h with h;injection h with f h;injection h with e c;subst f;subst e;subst c
   unfold cQ at a;split at a
   ·rename_i k
    rw[lT]at a
    rcases a with a|a
    ·exact yS b a hk
    ·rw[d4]at a
     have j:=gc a.1;refine λhg=>iE (λσ' nx' hs=>Ok (by rw[j,Nat.add_sub_cancel_left]at hs;rw[aj (σ:=σ) (σ':=σ') k hs];exact b)) hg ⟨nN (by omega),by simpa using a.2⟩ hk
   ·exact yS b a hk
  ·cases h
 ·split at h
  ·rename_i a
   split at h
   ·rename_i b j
    injection h with h;injection h with f h;injection h with e c;subst f;subst e;subst c
    exact yY a b j hk
   ·cases h
  ·cases h
 ·split at h
  ·rename_i a
   split at h
   ·rename_i b j
    split at h
    ·rename_i p o m
     injection h with h;injection h with f h;injection h with e c;subst f;subst e;subst c
     exact yZ a b (VL _ _ o) (gc m) j p hk
    ·cases h
   ·cases h
  ·cases h
 ·cases h
theorem yP{x:Operand}{args:Array Operand}{tys:Array TypeId}{gg:FuncId}{cap:List C}{es:List E}{r:E}(b:ev (look L) x=some (.o (.fn gg cap)))(a:I6 (look L) args.toList=some es)(e:(es.all E.BY && C.C7 cap)=true)
 (hs:Pure P TB gg (es++cap.map .o) r) (c:r.BY=true) (h:Lex P TB Γ ops (Ak fl (i+1) n) K (look ((d,r)::L)) σ nx):Gc P TB Γ ops ⟨some d,.call ⟨.value x,args,tys⟩,ty,pos,af,g⟩ fl i n K L σ nx:=gS (λ_ _=>Be b a e hs c) h
theorem yC{x:Operand}{args:Array Operand}{tys:Array TypeId}{gg:FuncId}{cap:List C}{es:List E}{c:Bool}(e:ev (look L) x=some (.o (.fn gg cap)))(a:I6 (look L) args.toList=some es)(f:(es.all E.BY && C.C7 cap)=true)
 (hs:Pure P TB gg (es++cap.map .o) (eB c)) (h:∀b,c=b->Lex P TB Γ ops (Ak fl (i+1) n) K (look ((d,eB b)::L)) σ nx):Gc P TB Γ ops ⟨some d,.call ⟨.value x,args,tys⟩,ty,pos,af,g⟩ fl i n K L σ nx:=gB (λ_ _=>Be e a f hs rfl) h
end
abbrev Gv:=Prop×List (Nat×E)×Ab×Nat
def dS(T : List (Nat×TI))(md sl:Bool)(ops:Array Oper)(fl:Fl)(i:Nat)(L:List (Nat×E))(σ:Ab)(nx:Nat):Option Gv:=
 match Oa ops.toList (fl.p i) with
 | some ⟨ds,op,ty,pos,af,g⟩=>match Bw ops ⟨ds,op,ty,pos,af,g⟩ (look L) with
  | some true=>match ds with
   | some d=>match ah T md (look L) op with
    | some (q,e)=>some (q,(d,e)::L,σ,nx)
    | none=>match VX T sl (fl i) nx σ L (some d) op with
     | some (L',σ',nx')=>some (True,L',σ',nx')
     | none=>none
   | none=>match VX T sl (fl i) nx σ L none op with
    | some (L',σ',nx')=>some (True,L',σ',nx')
    | none=>none
  | some false=>match ds with
   | some d=>some (True,(d,.t [])::L,σ,nx)
   | none=>some (True,L,σ,nx)
  | none=>none
 | none=>none
def fp(ops:Array Oper)(fl:Fl)(i:Nat)(L:List (Nat×E)):Option (Option Tmp×Op):=match Oa ops.toList (fl.p i) with
 | some ⟨ds,op,ty,pos,af,g⟩=>match Bw ops ⟨ds,op,ty,pos,af,g⟩ (look L) with
  | some true=>some (ds,op)
  | _=>none
 | none=>none
def kL(T:List (Nat×TI))(ops:Array Oper)(fl:Fl)(i:Nat)(L:List (Nat×E)):Option (Nat×List (List D)):=match fp ops fl i L with
 | some (some d,.call ⟨.builtin .len,⟨[x]⟩,⟨[t]⟩⟩)=>match (I9 T t).sl,ev (look L) x with
  | some _,some (.o (.d (.l rows)))=>some (d,rows)
  | _,_=>none
 | _=>none
structure As where
 β:Type
 l:List β
 m:Nat
 k:β->Option Gv
def jO(T : List (Nat×TI))(ops:Array Oper)(fl:Fl)(i:Nat)(L:List (Nat×E))(σ:Ab)(nx:Nat):Option As:=match fp ops fl i L with
 | some (some d,.indexAddr t x y)=>match (I9 T t).sl,ev (look L) x,ev (look L) y with
  | some (_,k,_),some (.o (.d (.l rows))),some (.o (.d (.v (.int _ m))))=>some ⟨List D,rows,m.toNat,λr=>match Nat.beq r.length k with
   | true=>some (0<=m,(d,.o (.ip r))::L,σ,nx)
   | false=>none⟩
  | _,_,_=>none
 | some (some d,.index t x y)=>match (I9 T t).st,ev (look L) x,ev (look L) y with
  | true,some (.o (.d (.v (.string ⟨⟨s⟩⟩)))),some (.o (.d (.v (.int _ m))))=>some ⟨UInt8,s,m.toNat,λc=>some (0<=m,(d,eI .u8 (c.toNat:Int))::L,σ,nx)⟩
  | _,_,_=>none
 | some (some d,.load t x)=>match (I9 T t).ld,ev (look L) x with
  | some (ag,m),some (.o (.ptr id k i' j))=>match look σ id with
   | some (.cells _ k' rows)=>match Nat.beq k k',cQ (fl i) (some (.o (.ptr id k i' j))) with
    | true,true=>some ⟨List C,rows,i',λr=>match fa ag m j r with
     | some e=>some (True,(d,e)::L,σ,nx)
     | none=>none⟩
    | _,_=>none
   | _=>none
  | _,_=>none
 | some (none,.store t x y)=>match (I9 T t).ld,ev (look L) x,ev (look L) y with
  | some (_,m),some (.o (.ptr id k i' j)),some e=>match look σ id with
   | some (.cells ct k' rows)=>match Nat.beq k k',Nat.beq (fl i) 1,Sc e,Nat.beq (eC e).length m,Nat.ble (j+m) k with
    | true,true,true,true,true=>some ⟨List C,rows,i',λr=>some (True,L,(id,.cells ct k (rows.set i' (Ae r j (eC e))))::σ,nx)⟩
    | _,_,_,_,_=>none
   | _=>none
  | _,_,_=>none
 | _=>none
def kW(T:List (Nat×TI))(ops:Array Oper)(fl:Fl)(i:Nat)(L:List (Nat×E)):Option (Nat×Bool):=match fp ops fl i L with
 | some (some d,op)=>match SO T (look L) op with
  | some c=>some (d,c)
  | none=>none
 | _=>none
def lp(ops:Array Oper)(fl:Fl)(i:Nat)(L:List (Nat×E)):Option Bool:=match Oa ops.toList (fl.p i) with
 | some ⟨_,_,_,_,_,some (j,_)⟩=>match (ops[j]?).bind (·.dst) with
  | some t=>match look L t with
   | some (.o (.d (.v (.bool b))))=>some b
   | _=>none
  | none=>none
 | _=>none
def jx(ops:Array Oper)(fl:Fl)(i:Nat)(L:List (Nat×E)):Option (Nat×FuncId×List E):=match fp ops fl i L with
 | some (some d,.call ⟨.value x,args,_⟩)=>match ev (look L) x,I6 (look L) args.toList with
  | some (.o (.fn gg cap)),some es=>match es.all E.BY && C.C7 cap with
   | true=>some (d,gg,es++cap.map .o)
   | false=>none
  | _,_=>none
 | _=>none
section
variable {P:Program}{TB:BA}{Γ:Ctx}{ops:Array Oper}{fl:Fl}{i n:Nat}{L L':List (Nat×E)}{σ σ':Ab}{nx nx' d:Nat}{K:Env->Ab->Nat->Prop}
theorem Hq{ds:Option Tmp}{op:Op}(h:fp ops fl i L=some (ds,op))(k:∀ty pos af g,Gc P TB Γ ops ⟨ds,op,ty,pos,af,g⟩ fl i n K L σ nx):Lex P TB Γ ops (Ak fl i (n+1)) K (look L) σ nx:=by
 unfold fp at h;split at h
 ·rename_i a
  split at h
  ·rename_i hg
   injection h with h;injection h with c b;subst c;subst b
   exact Ag a (k _ _ _ _ hg)
  ·cases h
 ·cases h
theorem s1{md sl:Bool}[j:C0 P]{q:Prop}(h:dS j.T md sl ops fl i L σ nx=some (q,L',σ',nx'))(g:q)(hk:Lex P TB Γ ops (Ak fl (i+1) n) K (look L') σ' nx'):Lex P TB Γ ops (Ak fl i (n+1)) K (look L) σ nx:=by
 unfold dS at h;split at h
 ·rename_i a
  split at h
  ·rename_i hg
   split at h
   ·split at h
    ·rename_i f
     injection h with h;injection h with e h;injection h with d h;injection h with c b;subst e;subst d;subst c;subst b
     exact Ag a (yQ f g hk hg)
    ·split at h
     ·rename_i f
      injection h with h;injection h with e h;injection h with d h;injection h with c b;subst e;subst d;subst c;subst b
      exact Ag a (yU f hk hg)
     ·cases h
   ·split at h
    ·rename_i f
     injection h with h;injection h with e h;injection h with d h;injection h with c b;subst e;subst d;subst c;subst b
     exact Ag a (yU f hk hg)
    ·cases h
  ·rename_i hg
   split at h
   ·injection h with h;injection h with e h;injection h with d h;injection h with c b;subst e;subst d;subst c;subst b
    exact Ag a (λa=>ZK a hg (by rw[Eh];exact hk))
   ·injection h with h;injection h with e h;injection h with d h;injection h with c b;subst e;subst d;subst c;subst b
    exact Ag a (λa=>ZK a hg hk)
  ·cases h
 ·cases h
theorem sA[b:C0 P]{q:Prop}(h:dS b.T false true ops fl i L σ nx=some (q,L',σ',nx'))(a:q)(hk:Lex P TB Γ ops (Ak fl (i+1) n) K (look L') σ' nx'):Lex P TB Γ ops (Ak fl i (n+1)) K (look L) σ nx:=s1 h a hk
theorem sM[b:C0 P]{q:Prop}(h:dS b.T true false ops fl i L σ nx=some (q,L',σ',nx'))(a:q)(hk:Lex P TB Γ ops (Ak fl (i+1) n) K (look L') σ' nx'):Lex P TB Γ ops (Ak fl i (n+1)) K (look L) σ nx:=s1 h a hk
theorem sX[b:C0 P]{q:Prop}(h:dS b.T false false ops fl i L σ nx=some (q,L',σ',nx'))(a:q)(hk:Lex P TB Γ ops (Ak fl (i+1) n) K (look L') σ' nx'):Lex P TB Γ ops (Ak fl i (n+1)) K (look L) σ nx:=s1 h a hk
theorem sN[e:C0 P]{α:Type}{l:List α}{f:α->List D}(h:kL e.T ops fl i L=some (d,l.map f))(hk:Lex P TB Γ ops (Ak fl (i+1) n) K (look ((d,eI .i64 l.length)::L)) σ nx):Lex P TB Γ ops (Ak fl i (n+1)) K (look L) σ nx:=by
 unfold kL at h;split at h
 ·rename_i b
  split at h
  ·rename_i c a
   injection h with h;injection h with j g;subst j;subst g
   exact Hq b λ_ _ _ _=>lA a c hk
  ·cases h
 ·cases h
theorem s4[w : C0 P]{β:Type}{l:List β}{m:Nat}{k:β->Option Gv}{r:β}{q:Prop}(h:jO w.T ops fl i L σ nx=some ⟨β,l,m,k⟩)(s:l[m]?=some r)(e:k r=some (q,L',σ',nx'))(u:q)
 (hk:Lex P TB Γ ops (Ak fl (i+1) n) K (look L') σ' nx'):Lex P TB Γ ops (Ak fl i (n+1)) K (look L) σ nx:=by
 unfold jO at h;split at h
 ·rename_i j
  split at h
  ·rename_i o g p
   injection h with h;injection h with d c b a;subst d;subst c;subst b
   have a:=eq_of_heq a;subst a;dsimp only at e;split at e
   ·rename_i hb
    injection e with h;injection h with d h;injection h with c h;injection h with b a;subst d;subst c;subst b;subst a
    exact Hq j λ_ _ _ _=>yL g p s o (gc hb) u hk
   ·cases e
  ·cases h
 ·rename_i j
  split at h
  ·rename_i o g p
   injection h with h;injection h with d c b a;subst d;subst c;subst b
   have a:=eq_of_heq a;subst a;dsimp only at e
   injection e with h;injection h with d h;injection h with c h;injection h with b a;subst d;subst c;subst b;subst a
   exact Hq j λ_ _ _ _=>yT g p s o u hk
  ·cases h
 ·rename_i j
  split at h
  ·rename_i o g
   split at h
   ·rename_i t
    split at h
    ·rename_i hb f
     injection h with h;injection h with d c b a;subst d;subst c;subst b
     have a:=eq_of_heq a;subst a;dsimp only at e;split at e
     ·rename_i v
      injection e with h;injection h with d h;injection h with c h;injection h with b a;subst d;subst c;subst b;subst a
      have hb:=gc hb;subst hb;unfold cQ at f;rw[lT]at f
      rcases f with f|f
      ·exact Hq j λ_ _ _ _=>yM g t s o v f hk
      ·rw[d4]at f
       have A:=gc f.1;haveI:=(DL (P:=P) _ w.ok).Mj o;exact Hq j λ_ _ _ _ hg=>iE (λσ' nx' hs=>PX g (by rw[A,Nat.add_sub_cancel_left]at hs;rw[hs];exact t) s v) hg ⟨nN (by omega),by simpa using f.2⟩ hk
     ·cases e
    ·cases h
   ·cases h
  ·cases h
 ·rename_i j
  split at h
  ·rename_i o g p
   split at h
   ·rename_i t
    split at h
    ·rename_i hb f z y x
     injection h with h;injection h with d c b a;subst d;subst c;subst b
     have a:=eq_of_heq a;subst a;dsimp only at e
     injection e with h;injection h with d h;injection h with c h;injection h with b a;subst d;subst c;subst b;subst a
     have hb:=gc hb;subst hb;exact Hq j λ_ _ _ _=>yV g p z t s o (gc y) x (gc f) hk
    ·cases h
   ·cases h
  ·cases h
 ·cases h
theorem tA[a:C0 P](h:dS a.T false true ops fl i L σ nx=some (True,L',σ',nx'))(hk:Lex P TB Γ ops (Ak fl (i+1) n) K (look L') σ' nx'):Lex P TB Γ ops (Ak fl i (n+1)) K (look L) σ nx:=s1 h True.intro hk
theorem tM[a:C0 P](h:dS a.T true false ops fl i L σ nx=some (True,L',σ',nx'))(hk:Lex P TB Γ ops (Ak fl (i+1) n) K (look L') σ' nx'):Lex P TB Γ ops (Ak fl i (n+1)) K (look L) σ nx:=s1 h True.intro hk
theorem tX[a:C0 P](h:dS a.T false false ops fl i L σ nx=some (True,L',σ',nx'))(hk:Lex P TB Γ ops (Ak fl (i+1) n) K (look L') σ' nx'):Lex P TB Γ ops (Ak fl i (n+1)) K (look L) σ nx:=s1 h True.intro hk
theorem t4[b:C0 P]{β:Type}{l:List β}{m:Nat}{k:β->Option Gv}{r:β}(h:jO b.T ops fl i L σ nx=some ⟨β,l,m,k⟩)(a:l[m]?=some r)(c:k r=some (True,L',σ',nx'))
 (hk:Lex P TB Γ ops (Ak fl (i+1) n) K (look L') σ' nx'):Lex P TB Γ ops (Ak fl i (n+1)) K (look L) σ nx:=s4 h a c True.intro hk
theorem s2[f:C0 P]{c:Bool}(h:kW f.T ops fl i L=some (d,c))(hk:∀b,c=b->Lex P TB Γ ops (Ak fl (i+1) n) K (look ((d,eB b)::L)) σ nx):Lex P TB Γ ops (Ak fl i (n+1)) K (look L) σ nx:=by
 unfold kW at h;split at h
 ·rename_i e
  split at h
  ·rename_i a
   injection h with h;injection h with j g;subst j;subst g
   exact Hq e λ_ _ _ _=>yB a hk
  ·cases h
 ·cases h
theorem s3{b:Bool}(_h:lp ops fl i L=some b)(a:b=true->Lex P TB Γ ops (Ak fl i (n+1)) K (look L) σ nx)(c:b=false->Lex P TB Γ ops (Ak fl i (n+1)) K (look L) σ nx):Lex P TB Γ ops (Ak fl i (n+1)) K (look L) σ nx:=by
 cases b
 ·exact c rfl
 ·exact a rfl
theorem Vs{gg:FuncId}{es:List E}(h:jx ops fl i L=some (d,gg,es)):∃x args tys cap a,fp ops fl i L=some (some d,.call ⟨.value x,args,tys⟩)/\ev (look L) x=some (.o (.fn gg cap))/\I6 (look L) args.toList=some a/\(a.all E.BY && C.C7 cap)=true/\es=a++cap.map .o:=by
 unfold jx at h;split at h
 ·rename_i e
  split at h
  ·rename_i b f
   split at h
   ·rename_i c
    injection h with h;injection h with k h;injection h with j g;subst k;subst j;subst g
    exact⟨_,_,_,_,_,e,b,f,c,rfl⟩
   ·cases h
  ·cases h
 ·cases h
theorem sP{gg:FuncId}{es:List E}{r:E}(h:jx ops fl i L=some (d,gg,es))(hs:Pure P TB gg es r)(b:r.BY=true)(hk:Lex P TB Γ ops (Ak fl (i+1) n) K (look ((d,r)::L)) σ nx):Lex P TB Γ ops (Ak fl i (n+1)) K (look L) σ nx:=by
 obtain⟨x,args,tys,cap,g,e,a,f,c,rfl⟩:=Vs h;exact Hq e λ_ _ _ _=>yP a f c hs b hk
theorem sC{gg:FuncId}{es:List E}{c:Bool}(h:jx ops fl i L=some (d,gg,es))(hs:Pure P TB gg es (eB c))(hk:∀b,c=b->Lex P TB Γ ops (Ak fl (i+1) n) K (look ((d,eB b)::L)) σ nx):Lex P TB Γ ops (Ak fl i (n+1)) K (look L) σ nx:=by
 obtain⟨x,args,tys,cap,j,f,a,g,e,rfl⟩:=Vs h;exact Hq f λ_ _ _ _=>yC a g e hs hk
theorem tI:True:=True.intro
end
section
variable {P:Program}{TB:BA}{Γ:Ctx}{N:Nat}{ops:Array Oper}{fl:Fl}{i:Nat}{K:Env->Ab->Nat->Prop}{Q:Exit->Env->Ab->Nat->Prop}{f:Env}{σ:Ab}{nx:Nat}
theorem aS{x y:Code}(h:Aj P TB Γ N x (KK (Aj P TB Γ N y Q) Q) f σ nx):Aj P TB Γ N (.seq x y) Q f σ nx:=.seq h
def TS(N:Nat):List Oper->Bool
 | []=>true
 | o::r=>match o.dst with
  | some d=>bif Nat.ble (d+1) N then TS N r else false
  | none=>TS N r
theorem Vr{N:Nat}:∀ {l:List Oper},TS N l=true->∀o∈l,(match o.dst with|some d=>Nat.blt d N|none=>true)=true
 | [],_,o,a=>by cases a
 | x :: l,h,o,a=>by
  unfold TS at h
  rcases lJ.1 a with rfl|a
  ·cases b:o.dst with
   | none=>rfl
   | some d=>
    rw[b]at h;dsimp only at h |-
    cases hb:Nat.ble (d+1) N with
    | false=>rw[hb]at h;cases h
    | true=>exact hb
  ·refine Vr ?_ o a
   cases b:x.dst with
   | none=>rw[b]at h;exact h
   | some d=>
    rw[b]at h;dsimp only at h
    cases hb:Nat.ble (d+1) N with
    | false=>rw[hb]at h;cases h
    | true=>rw[hb]at h;exact h
theorem YN{N:Nat}{ops:Array Oper}(h:TS N ops.toList=true):Gh N ops=true:=by
 unfold Gh;rw[Array.all_eq_true];intro i hi;exact Vr h _ (by simp)
def gn(P:Program)(TB:BA)(Γ:Ctx)(N:Nat):Code->(Exit->Env->Ab->Nat->Prop)->Option (Env->Ab->Nat->Prop)
 | .region _ ops false,Q=>bif TS N ops.toList then some (Lex P TB Γ ops (Ak YU 0 ops.size) (λf σ nx=>Q .normal f σ nx)) else none
 | .seq c d,Q=>match gn P TB Γ N c (KK (Aj P TB Γ N d Q) Q) with
  | some G=>some G
  | none=>some (Aj P TB Γ N c (KK (Aj P TB Γ N d Q) Q))
 | _,_=>none
theorem ZC:∀ {c:Code} {Q:Exit->Env->Ab->Nat->Prop} {G:Env->Ab->Nat->Prop} {f:Env} {σ:Ab} {nx:Nat},gn P TB Γ N c Q=some G->G f σ nx->Aj P TB Γ N c Q f σ nx
 | .region _ ops false,Q,G,f,σ,nx,h,g=>by
  unfold gn at h
  cases b:TS N ops.toList with
  | false=>rw[b]at h;cases h
  | true=>rw[b]at h;injection h with h;subst h;exact kj (YN b) g
 | .seq c d,Q,G,f,σ,nx,h,g=>by
  unfold gn at h;refine .seq ?_
  cases a:gn P TB Γ N c (KK (Aj P TB Γ N d Q) Q) with
  | none=>rw[a]at h;injection h with h;subst h;exact g
  | some G=>rw[a]at h;injection h with h;subst h;exact ZC a g
 | .region _ ops true,Q,G,f,σ,nx,h,g=>by cases h
 | .skip,Q,G,f,σ,nx,h,g=>by cases h
 | .cond ..,Q,G,f,σ,nx,h,g=>by cases h
 | .block ..,Q,G,f,σ,nx,h,g=>by cases h
 | .ret,Q,G,f,σ,nx,h,g=>by cases h
 | .exit ..,Q,G,f,σ,nx,h,g=>by cases h
theorem aU{c:Code}{G:Env->Ab->Nat->Prop}(h:gn P TB Γ N c Q=some G)(g:G f σ nx):Aj P TB Γ N c Q f σ nx:=ZC h g
theorem aR(h:Q .ret f σ nx):Aj P TB Γ N .ret Q f σ nx:=.ret h
theorem aK(h:Q .normal f σ nx):Aj P TB Γ N .skip Q f σ nx:=.skip h
theorem aE{id:Nat}(h:Q (.exit id) f σ nx):Aj P TB Γ N (.exit id) Q f σ nx:=.exit h
theorem aB{id:Nat}{c:Code}(h:Aj P TB Γ N c (jC id Q) f σ nx):Aj P TB Γ N (.block id c) Q f σ nx:=.block h
theorem aC{c:Operand}{x y:Code}{b:Bool}(e:ev f c=some (.o (.d (.v (.bool b)))))(ht:b=true->Aj P TB Γ N x Q f σ nx)(a:b=false->Aj P TB Γ N y Q f σ nx):Aj P TB Γ N (.cond c x y) Q f σ nx:=.cond e ht a
theorem eN {g:FuncId} {fn:Func} {c:Code} {args:List E} {post:E->Ab->Nat->Prop} (b:P.funcs[g]?=some fn) (hb:fn.body=some c) (a:(fn.name == "runtime.NumGoroutine")=false) (ha:Nat.ble args.length fn.ntmps=true)
 (h:∀Γ:Ctx,Γ.V.nx=nx->Aj P TB Γ fn.ntmps c (gE fn.results post) (look (Cb 0 args)) σ nx):Spec P TB g σ nx args post:=.of b hb a (ce ha) h
end
section
variable {P:Program}{TB:BA}{Γ:Ctx}{d:Option Tmp}{ty:TypeId}{pos:String}{af:Array Edge}{g:Option (Nat×Bool)}{f:Env}{σ:Ab}{nx:Nat}
end
inductive FL (σ:Ab) (ids:List Nat):List C->List C->Prop
 | nil:FL σ ids [] []
 | cons {c c':C} {cs cs':List C}:FC σ ids c c'->FL σ ids cs cs'->FL σ ids (c::cs) (c'::cs')
theorem FL.len{σ:Ab}{ids:List Nat}{l l':List C}(h:FL σ ids l l'):l'.length=l.length:=by
 induction h with
 | nil=>rfl
 | cons _ _ a=>simp[a]
theorem FL.get{σ:Ab}{ids:List Nat}{l l':List C}(h:FL σ ids l l'):∀(j:Nat) c',l'[j]?=some c'->∃c,l[j]?=some c/\FC σ ids c c':=by
 induction h with
 | nil=>intro j c' h;simp at h
 | @cons f e cs cs' d _ b=>
  intro j c' a
  cases j with
  | zero=>simp at a;subst a;exact⟨f,rfl,d⟩
  | succ j=>exact b j c' (by simpa using a)
def Pp(σ:Ab)(ids:List Nat):Ab->Prop
 | []=>True
 | (id,.cells T k [r'])::S=>(∃r,look σ id=some (.cells T k [r])/\id∉ids/\FL σ ids r r')/\Pp σ ids S
 | _=>False
theorem Pp.get{σ:Ab}{ids:List Nat}:∀ {S:Ab},Pp σ ids S->∀id o',look S id=some o'->∃T k r r',o'=.cells T k [r']/\look σ id=some (.cells T k [r])/\id∉ids/\FL σ ids r r'
 | [],_,id,o',h=>by cases h
 | (i, o)::S,hs,id,o',h=>by
  match o,hs with
  | .cells T k [r'],hs=>
   rw[Ax]at h;by_cases hi:i=id
   ·rw[if_pos hi]at h
    injection h with h
    subst h;subst hi;obtain⟨r,c,b,a⟩:=hs.1;exact⟨T,k,r,r',rfl,c,b,a⟩
   ·rw[if_neg hi]at h
    exact Pp.get hs.2 id o' h
section
variable {P:Program}{TB:BA}{Γ:Ctx}{N:Nat}{σ:Ab}
theorem BS.MV{V:View}{f:Env}{nx:Nat}{a:Act}(h:BS TB Γ N V f σ nx a)(ids:List Nat)(L:List (Nat×E))(S:Ab)(J:DV σ ids f L)(u:Pp σ ids S):BS TB Γ N (Jr V σ ids) (look L) S nx a:=by
 have e:Ext V (Jr V σ ids):=MW;have hi:=h.inv;refine⟨λt x m=>?_,λt x m=>?_,h.size,?_,h.nx,h.defers⟩
 ·obtain⟨y,g,w⟩:=J.get t x m
  exact w.rel h.inv (h.env t y g)
 ·obtain⟨y,g,_⟩:=J.get t x m
  exact h.lt t y g
 ·refine⟨hi.os,hi.tape,hi.output,hi.old,?_,?_,hi.ext.trans e,⟨?_,?_,?_,?_⟩,?_,λx m=>⟨.inl (hi.tabs x m).1,(hi.tabs x m).2⟩,hi.hid.same rfl (λ_ h=>.inl h) (λb hb=>hb.elim .inl λ⟨id,o,_,d,l,B⟩=>.inr ⟨id,o,d,l,B⟩) λb ⟨id,o,d,l,hb⟩=>?_⟩
  ·rintro b (hb|⟨id,o,_,d,l,hb⟩)
   ·exact hi.iLt b hb
   ·exact(hi.st.obj id o d).blt l hb
  ·rintro b (hb|⟨id,o,_,d,l,hb⟩)
   ·exact hi.iNew b hb
   ·exact .inr (hi.live id o d l b hb)
  ·intro id o d
   obtain⟨T,k,r,r',rfl,g,w,M⟩:=u.get id o d
   rcases hi.st.obj id _ g with ⟨K,F⟩|⟨h0,cur,K,F,h6,h7,Z,Y⟩
   ·cases F
   ·refine .inr ⟨h0,cur,K,F,h6,h7,λx m=>?_,λi x j c' s R=>?_⟩
    ·simp at m;subst m;rw[M.len];exact Z r (by simp)
    ·have A:i=0:=by have:=(am.1 s).1;simp at this;omega
     subst A;simp at s;subst s;obtain⟨c,X,U⟩:=M.get j c' R;obtain⟨v,I,H⟩:=Y 0 r j c rfl X;exact⟨v,I,U.rel hi H⟩
  ·intro id o d
   obtain⟨T,k,r,r',_,g,_,_⟩:=u.get id o d;exact hi.st.lt id _ g
  ·intro id o d l b n hb
   obtain⟨T,k,r,r',rfl,g,w,_⟩:=u.get id o d
   rcases hb with hb|⟨id',o',Q,q,p,B⟩
   ·exact hi.st.free id _ g l b n hb
   ·exact hi.st.inj id id' _ o' g q (λe=>w (e▸Q)) l p b n B
  ·intro id id' o o' d q z l p b hb n
   obtain⟨T,k,r,r',rfl,g,_,_⟩:=u.get id o d;obtain⟨T2,k2,r2,P,rfl,G,_,_⟩:=u.get id' o' q;exact hi.st.inj id id' _ _ g G z l p b hb n
  ·intro id o d l b hb
   obtain⟨T,k,r,r',rfl,g,_,_⟩:=u.get id o d;exact hi.live id _ g l b hb
  ·obtain⟨T,k,r,r',rfl,g,_,_⟩:=u.get id o d
   exact⟨id,_,g,l,hb⟩
theorem Aj.MV{c:Code}{Q:Exit->Env->Ab->Nat->Prop}{f:Env}{nx:Nat}(ids:List Nat)(L:List (Nat×E))(S:Ab)(e:DV σ ids f L)(d:Pp σ ids S)(h:Aj P TB Γ N c Q (look L) S nx):Aj P TB Γ N c Q f σ nx:=
 λV a b=>h (Jr V σ ids) a (b.MV ids L S e d)
theorem VT{d:Option Tmp}{ty:TypeId}{pos:String}{af:Array Edge}{g:Option (Nat×Bool)}{f:Env}{nx:Nat}{t k e:TypeId}{x y:Operand}{id:Nat}{l:List (List UInt8×Int)}{s:List UInt8}[B:JJ P t k e][hk:DE P k][K:Pn P e (.int .i64 0)](M:ev f x=some (.o (.mp id)))(L:ev f y=some (eT s))(N:look σ id=some (.mp (HN l))) :
 A1 P TB Γ ⟨d,.lookup t x y false,ty,pos,af,g⟩ f σ nx (eI .i64 ((CB l s).getD 0)):=
 AI λV ρ A hi=>by
  have J:=A.get (by simp[Op.operands]) M;have I:ρ y=.string ⟨s.toArray⟩:=AF.val (A.get (by simp[Op.operands]) L);generalize z:ρ x=v at J
  cases J with
  | mp Q=>
   obtain⟨X,ents,clock,H,S⟩:=hi.st.obj id _ N;obtain⟨r,R,h⟩:=JY s l ents.toList 0 S;have a:=K.out;simp only[lM]at a;obtain⟨i,p,m⟩:=a
   have j:(zeroValue e).run P V.w=.ok (.int .i64 0) V.w:=by simp[zeroValue,typeInfo,p,m,go_sem]
   have b:(Instr.findKey k (.string ⟨s.toArray⟩) ents.toList).run P V.w=.ok r V.w:=by simp[Instr.findKey,run_underlying hk.out,R,go_sem]
   have c:=Jm hk.out ents.isEmpty ⟨s.toArray⟩ V.w;refine⟨.int .i64 ((CB l s).getD 0),?_,.d (.v rfl)⟩
   cases r with
   | none=>
    have u:CB l s=none:=by simpa using h.symm
    simp[execOp,z,I,Instr.lookup,run_underlying B.out,MapKept.run_getObj_map H,c,b,j,u,go_sem]
   | some q=>
    obtain⟨n,u,G⟩:∃n,CB l s=some n/\q.2=.int .i64 n:=by
     cases F:CB l s with
     | none=>rw[F]at h;simp at h
     | some n=>rw[F]at h;exact⟨n,rfl,by simpa using h⟩
    obtain⟨U,T⟩:=q;simp only at G;subst G;simp[execOp,z,I,Instr.lookup,run_underlying B.out,MapKept.run_getObj_map H,c,b,u,go_sem]
end
end Go.Am
