/-
  The steps of a walk, few and short: what an operation gives is reckoned.
-/
import Derived.Test.YtdipaikojjjebaaGreatDoorPart9
set_option linter.all false
namespace Go.Am
open Go
class SM (P:Program) (t:TypeId):Prop where
 out:P.underlying t=some .bool
theorem oA{p:Prop}[Decidable p]:(decide p=true)=p:=decide_eq_true_eq
theorem oB{p:Prop}[Decidable p]:decide p=false↔¬p:=decide_eq_false_iff_not
theorem oC{α β:Type}{l:List α}{f:α->β}:(l.map f).length=l.length:=gt f
theorem oD{α:Type}{l m:List α}:(l++m).length=l.length+m.length:=qb
theorem oE{α:Type}{n:Nat}{x:α}:(List.replicate n x).length=n:=r6
theorem oF{α:Type}{x:α}{l:List α}:(x::l).length=l.length+1:=pD
theorem oG{α:Type}:([]:List α).length=0:=sg
theorem oZ:(∀(p:Prop) [Decidable p],(decide p=true)=p)/\(∀(p:Prop) [Decidable p],decide p=false↔¬p)/\(∀(α β:Type) (l:List α) (f:α->β),(l.map f).length=l.length)/\(∀(α:Type) (l m:List α),(l++m).length=l.length+m.length)/\(∀(α:Type) (n:Nat) (x:α),(List.replicate n x).length=n)/\(∀(α:Type) (x:α) (l:List α),(x::l).length=l.length+1)/\∀(α:Type),([]:List α).length=0:=
 ⟨λ_ _=>oA,λ_ _=>oB,λ_ _ _ _=>oC,λ_ _ _=>oD,λ_ _ _=>oE,λ_ _ _=>oF,λ_=>oG⟩
structure TI where
 ld:Option (Bool×Nat):=none
 ik:Option IntKind:=none
 st:Bool:=false
 sl:Option (Nat×Nat×Nat):=none
 ar:Option (Nat×Nat):=none
 fl:List (Option (Nat×Bool×Nat)):=[]
 pt:Bool:=false
 bo:Bool:=false
 ze:Option (List Value):=none
def Uk(P:Program)(t:Nat):Nat->List (Option (Nat×Bool×Nat))->Prop
 | _,[]=>True
 | k,none::r=>Uk P t (k+1) r
 | k,some x::r=>(ax P t k=some x.1/\ay P t k=some x)/\Uk P t (k+1) r
structure Fm (P:Program) (t:Nat) (i:TI):Prop where
 ld:i.ld=none\/jD P t=i.ld
 ik:i.ik=none\/P.underlying t=i.ik.map .int
 st:i.st=false\/P.underlying t=some .string
 sl:i.sl=none\/iS P t=i.sl
 ar:i.ar=none\/kW P t=i.ar
 fl:Uk P t 0 i.fl
 pt:i.pt=false\/∃e,P.underlying t=some (.pointer e)
 bo:i.bo=false\/P.underlying t=some .bool
 ze:i.ze=none\/bS P t=i.ze
def YA(P:Program):List (Nat×TI)->Prop
 | []=>True
 | (t,i)::r=>Fm P t i/\YA P r
def nN:Value->Value->Bool
 | .int k n,.int k' n'=>decide (k=k') && decide (n=n')
 | .bool a,.bool b=>decide (a=b)
 | .string ⟨⟨a⟩⟩,.string ⟨⟨b⟩⟩=>a.isEmpty && b.isEmpty
 | .slice none 0 0,.slice none 0 0=>true
 | .pointer none,.pointer none=>true
 | .map none,.map none=>true
 | .nilFunc,.nilFunc=>true
 | .nilIface,.nilIface=>true
 | _,_=>false
theorem kx:∀ {a b:Value},nN a b=true->a=b:=by
 intro a b h;unfold nN at h;split at h<;>simp_all
def mV:List Value->List Value->Bool
 | [],[]=>true
 | a::l,b::m=>nN a b && mV l m
 | _,_=>false
theorem fw:∀ {l m:List Value},mV l m=true->l=m
 | [],[],_=>rfl
 | a::l,b::m,h=>by
  unfold mV at h;rw[d4]at h;rw[kx h.1,fw h.2]
 | [],_::_,h=>by cases h
 | _::_,[],h=>by cases h
def lv(P:Program)(t:Nat):Nat->List (Option (Nat×Bool×Nat))->Bool
 | _,[]=>true
 | k,none::r=>lv P t (k+1) r
 | k,some x::r=>decide (ax P t k=some x.1) && decide (ay P t k=some x) && lv P t (k+1) r
theorem Xh{P:Program}{t:Nat}:∀ {l:List (Option (Nat×Bool×Nat))} {k:Nat},lv P t k l=true->Uk P t k l
 | [],_,_=>trivial
 | none::r,k,h=>Xh (l:=r) (k:=k+1) h
 | some x::r,k,h=>by
  unfold lv at h;simp only[d4,decide_eq_true_eq]at h;exact⟨h.1,Xh h.2⟩
def oh(d:Option TypeDesc)(i:TI):Bool:=match d with
 | some (.int k)=>(match i.ik with|none=>true|some k'=>decide (k=k')) && !i.st && !i.pt && !i.bo
 | some .string=>i.ik.isNone && !i.pt && !i.bo
 | some (.pointer _)=>i.ik.isNone && !i.st && !i.bo
 | some .bool=>i.ik.isNone && !i.st && !i.pt
 | _=>i.ik.isNone && !i.st && !i.pt && !i.bo
def nH(P:Program)(t:Nat)(i:TI):Bool:=
 (i.ld.isNone || decide (jD P t=i.ld)) && (oh (P.underlying t) i && ((i.sl.isNone || decide (iS P t=i.sl)) && ((i.ar.isNone || decide (kW P t=i.ar)) && (lv P t 0 i.fl && match i.ze with
  | none=>true
  | some l=>match bS P t with
   | some l'=>mV l' l
   | none=>false))))
theorem or_none{α:Type}[DecidableEq α]{a b:Option α}(h:(b.isNone || decide (a=b))=true):b=none\/a=b:=by
 rw[o8]at h
 rcases h with h|h
 ·left;cases b<;>simp_all
 ·right;exact of_decide_eq_true h
theorem ko{P:Program}{t:Nat}{i:TI}(h:nH P t i=true):Fm P t i:=by
 unfold nH at h;simp only[d4]at h;obtain⟨o,f,n,m,j,b⟩:=h
 have a:(i.ik=none\/P.underlying t=i.ik.map .int)/\(i.st=false\/P.underlying t=some .string)/\(i.pt=false\/∃e,P.underlying t=some (.pointer e))/\(i.bo=false\/P.underlying t=some .bool):=by
  unfold oh at f;split at f
  ·rename_i k hk
   cases g:i.ik<;>simp_all
  all_goals simp_all
 refine⟨or_none o,a.1,a.2.1,or_none n,or_none m,Xh j,a.2.2.1,a.2.2.2,?_⟩;split at b
 ·rename_i d;exact .inl d
 ·rename_i l d
  split at b
  ·rename_i l' c
   right;rw[c,d,fw b]
  ·cases b
def je(P:Program):List (Nat×TI)->Bool
 | []=>true
 | (t,i)::r=>nH P t i && je P r
theorem YJ{P:Program}:∀ {l:List (Nat×TI)},je P l=true->YA P l
 | [],_=>trivial
 | (t,i)::r,h=>by
  unfold je at h;rw[d4]at h;exact⟨ko h.1,YJ h.2⟩
class Dp (P:Program) where
 T:List (Nat×TI)
 ok:YA P T
def KA:List (Nat×TI)->Nat->TI
 | [],_=>{}
 | (k,x)::r,t=>bif Nat.beq k t then x else KA r t
def nth{α:Type}:List α->Nat->Option α
 | [],_=>none
 | x::_,0=>some x
 | _::r,n+1=>nth r n
theorem O4{α:Type}:∀(l:List α) (i:Nat),nth l i=l[i]?
 | [],_=>by simp[nth]
 | o::_,0=>by simp[nth]
 | _::r,n+1=>by simp[nth,O4 r n]
theorem Em{P:Program}(t:Nat):∀ {T:List (Nat×TI)},YA P T->Fm P t (KA T t)
 | [],_=>⟨.inl rfl,.inl rfl,.inl rfl,.inl rfl,.inl rfl,trivial,.inl rfl,.inl rfl,.inl rfl⟩
 | (k,x)::r,h=>by
  unfold KA;cases hb:Nat.beq k t
  ·exact Em t h.2
  ·have:=i8 hb
   subst this;exact h.1
section
variable {P:Program}{t:Nat}{i:TI}
theorem Fm.Oa(h:Fm P t i){ag:Bool}{n:Nat}(e:i.ld=some (ag,n)):Eg P t ag n:=⟨by rcases h.ld with h|h<;>simp_all⟩
theorem Fm.cZ(h:Fm P t i){k:IntKind}(e:i.ik=some k):KK P t k:=⟨by rcases h.ik with h|h<;>simp_all⟩
theorem Fm.c7(h:Fm P t i)(e:i.st=true):Ek P t:=⟨by rcases h.st with h|h<;>simp_all⟩
theorem Fm.UN(h:Fm P t i){e k b:Nat}(a:i.sl=some (e,k,b)):CT P t e k b:=⟨by rcases h.sl with h|h<;>simp_all⟩
theorem Fm.lB(h:Fm P t i){n k:Nat}(a:i.ar=some (n,k)):RG P t n k:=⟨by rcases h.ar with h|h<;>simp_all⟩
theorem Fm.c6(h:Fm P t i)(e:i.pt=true):WM P t:=⟨h.pt.resolve_left (by simp[e])⟩
theorem Fm.fZ(h:Fm P t i)(e:i.bo=true):SM P t:=⟨by rcases h.bo with h|h<;>simp_all⟩
theorem Fm.c8(h:Fm P t i){z:List Value}(e:i.ze=some z):BM P t z:=⟨by rcases h.ze with h|h<;>simp_all⟩
theorem Uk.get:∀ {l:List (Option (Nat×Bool×Nat))} {k j:Nat} {x:Nat×Bool×Nat},Uk P t k l->nth l j=some (some x)->ax P t (k+j)=some x.1/\ay P t (k+j)=some x
 | [],_,_,_,_,h=>by simp[nth]at h
 | none::r,k,0,x,_,h=>by simp[nth]at h
 | some y::r,k,0,x,a,h=>by simp[nth]at h;subst h;exact a.1
 | none::r,k,j+1,x,a,h=>by
  have:=Uk.get (l:=r) (k:=k+1) (j:=j) (x:=x) a h;rwa[show k+(j+1)=k+1+j by omega]
 | some y::r,k,j+1,x,a,h=>by
  have:=Uk.get (l:=r) (k:=k+1) (j:=j) (x:=x) a.2 h;rwa[show k+(j+1)=k+1+j by omega]
theorem Fm.jz(h:Fm P t i){j off n:Nat}{ag:Bool}(e:nth i.fl j=some (some (off,ag,n))):SO P t j off:=⟨by have:=(h.fl.get e).1;rwa[oY]at this⟩
theorem Fm.ga(h:Fm P t i){j off n:Nat}{ag:Bool}(e:nth i.fl j=some (some (off,ag,n))):ON P t j off ag n:=⟨by have:=(h.fl.get e).2;rwa[oY]at this⟩
end
def GN(P:Program)(TB:BJ)(Γ:Ctx)(ops:Array Oper)(o:Oper)(fl:Fl)(i n:Nat)(K:Env->Ab->Nat->Prop)(L:List (Nat×E))(σ:Ab)(nx:Nat):Prop:=
 BH ops o (look L)=some true->Bz P TB Γ ops o fl i n K L σ nx
def xE:Bool×List C->Option E
 | (false,[c])=>some (.o c)
 | (true,cs)=>some (.a cs)
 | _=>none
def nj(f:Env):Op->Option E
 | .move x=>ev f x
 | .pick c x y=>match ev f c with
  | some (.o (.d (.v (.bool true))))=>ev f x
  | some (.o (.d (.v (.bool false))))=>ev f y
  | _=>none
 | .extract x k=>match ev f x with
  | some (.t xs)=>(xs[k]?).bind xE
  | _=>none
 | .nilCheck x=>match ev f x with
  | some (.o (.d (.p cs)))=>some (.o (.ip cs))
  | some (.o (.ptr id k i j))=>some (.o (.ptr id k i j))
  | some (.o (.fn gg cs))=>some (.o (.fn gg cs))
  | _=>none
 | _=>none
def kF:IntKind->IntKind->Bool
 | .i64,.i64|.u8,.u8|.u64,.u64|.i32,.i32|.u16,.u16|.u32,.u32=>true
 | _,_=>false
theorem PJ{a b:IntKind}(h:kF a b=true):a=b:=by cases a<;>cases b<;>first|rfl|cases h
def lh(o:BinOp)(m n:Int):Option Bool:=match o with
 | .lss=>some (decide (m<n))
 | .leq=>some (decide (m<=n))
 | .gtr=>some (decide (m > n))
 | .geq=>some (decide (m>=n))
 | .eql=>some (decide (m=n))
 | .neq=>some (decide (m≠n))
 | _=>none
def lg(o:BinOp)(a b:List UInt8):Option Bool:=match o with
 | .eql=>some (decide (a=b))
 | .neq=>some (decide (a≠b))
 | _=>none
def jo(o:BinOp):E->E->Option Bool
 | .o (.d (.v (.int k m))),.o (.d (.v (.int k' n)))=>match kF k k' with
  | true=>lh o m n
  | false=>none
 | .o (.d (.v (.string ⟨⟨a⟩⟩))),.o (.d (.v (.string ⟨⟨b⟩⟩)))=>lg o a b
 | _,_=>none
def bz:IntKind->Int->Option Prop
 | .i64,m=>some (-9223372036854775808<=m/\m<=9223372036854775807)
 | .u64,m=>some (0<=m/\m<=18446744073709551615)
 | .u8,m=>some (0<=m/\m<=255)
 | .i32,m=>some (-2147483648<=m/\m<=2147483647)
 | _,_=>none
def nV(o:BinOp)(k:IntKind)(m n:Int):Option (Prop×E):=match o with
 | .add=>(bz k (m+n)).map λq=>(q,eI k (m+n))
 | .sub=>(bz k (m-n)).map λq=>(q,eI k (m-n))
 | .mul=>(bz k (m*n)).map λq=>(q,eI k (m*n))
 | .rem=>some (0<=m/\0<n,eI k (m%n))
 | .and=>some (True,eI k (Gp k m n))
 | .or=>some (True,eI k (Gq k m n))
 | _=>none
def m9(o:BinOp):E->E->Option (Prop×E)
 | .o (.d (.v (.int k m))),.o (.d (.v (.int k' n)))=>match o with
  | .shr=>some (0<=n,eI k (m.fdiv (2 ^ (min n.toNat k.bits))))
  | .quo=>match kF k .i64,kF k' .i64 with
   | true,true=>some ((0<=m/\m<=9223372036854775807)/\0<n,eI .i64 (m / n))
   | _,_=>none
  | o=>match kF k k' with
   | true=>nV o k m n
   | false=>none
 | .o (.d (.v (.string ⟨⟨a⟩⟩))),.o (.d (.v (.string ⟨⟨b⟩⟩)))=>match o with
  | .add=>some (a.length+b.length<=9223372036854775807,eT (a++b))
  | _=>none
 | _,_=>none
def jx(off:Nat):E->Option E
 | .o (.d (.p cs))=>some (.o (.ip (cs.drop off)))
 | .o (.ptr id k i j)=>some (.o (.ptr id k i (j+off)))
 | _=>none
def nt(ag:Bool)(n:Nat):E->Option E
 | .o (.d (.p cs))=>match ag,cs with
  | false,c::_=>some (.o (.d c))
  | true,cs=>match Nat.ble n cs.length with
   | true=>some (.a ((cs.take n).map .d))
   | false=>none
  | _,_=>none
 | _=>none
def jE(ag:Bool)(n j:Nat)(r:List C):Option E:=match ag with
 | false=>(r[j]?).map .o
 | true=>match Nat.ble (j+n) r.length with
  | true=>some (.a ((r.drop j).take n))
  | false=>none
def nk(ag:Bool)(off n:Nat)(cs:List C):Option E:=match ag with
 | false=>(cs[off]?).map .o
 | true=>match Nat.ble (off+n) cs.length with
  | true=>some (.a ((cs.drop off).take n))
  | false=>none
def nr(k:Nat)(n:Int):E->Option E
 | .o (.d (.p cs))=>some (.o (.ip (cs.drop (n.toNat*k))))
 | .o (.ptr id k' i j)=>some (.o (.ptr id k' i (j+n.toNat*k)))
 | _=>none
def nu(k:Nat):E->Option E
 | .o (.d (.l rows))=>some (eI .i64 rows.length)
 | .o (.arr _ k' _ len)=>match Nat.beq k' k with
  | true=>some (eI .i64 len)
  | false=>none
 | _=>none
def tr:Option E->Option (Prop×E)
 | some e=>some (True,e)
 | none=>none
def jN:Bool->E->E->Option (Prop×E)
 | true,.o (.d (.p _)),.o (.d (.v (.pointer none)))=>some (True,eB false)
 | true,.o (.d (.v (.pointer none))),.o (.d (.v (.pointer none)))=>some (True,eB true)
 | _,_,_=>none
def k8(pt:Bool)(o:BinOp)(a b:E):Option (Prop×E):=match o with
 | .eql=>jN pt a b
 | o=>m9 o a b
def jA(i:TI):E->E->Option (Prop×E)
 | .o (.arr id k off len),.o (.d (.v (.int _ m)))=>match i.sl with
  | some (_,k',_)=>match Nat.beq k k' with
   | true=>some (0<=m/\m<len,.o (.ptr id k (off+m.toNat) 0))
   | false=>none
  | none=>none
 | a, .o (.d (.v (.int _ m)))=>match i.ar with
  | some (len,k)=>match nr k m a with
   | some e=>some (0<=m/\m<len,e)
   | none=>none
  | none=>none
 | _,_=>none
def jG(i:TI):E->Option E
 | .o (.d (.v (.string ⟨⟨s⟩⟩)))=>match i.st with
  | true=>some (eI .i64 s.length)
  | false=>none
 | e=>match i.sl with
  | some (_,k,_)=>nu k e
  | none=>none
def jq(k k':IntKind):E->Option (Prop×E)
 | .o (.d (.v (.int a m)))=>match kF a k,bz k' m with
  | true,some q=>some (q,eI k' m)
  | _,_=>none
 | _=>none
def ew(T:List (Nat×TI))(md:Bool)(f:Env):Op->Option (Prop×E)
 | .assign x=>match md,notNil x with
  | true,false=>none
  | _,_=>tr (ev f x)
 | .binOp o t x y _=>match ev f x,ev f y with
  | some a,some b=>k8 (KA T t).pt o a b
  | _,_=>none
 | .fieldAddr s x k=>match nth (KA T s).fl k,ev f x with
  | some (some (off,_,_)),some a=>tr (jx off a)
  | _,_=>none
 | .field t x k=>match nth (KA T t).fl k,ev f x with
  | some (some (off,ag,n)),some (.a cs)=>tr (nk ag off n cs)
  | _,_=>none
 | .load t x=>match (KA T t).ld,ev f x with
  | some (ag,n),some a=>tr (nt ag n a)
  | _,_=>none
 | .indexAddr t x y=>match ev f x,ev f y with
  | some a,some b=>jA (KA T t) a b
  | _,_=>none
 | .call ⟨.builtin .len,⟨[x]⟩,⟨[t]⟩⟩=>match ev f x with
  | some a=>tr (jG (KA T t) a)
  | none=>none
 | .convert s t x=>match (KA T s).ik,(KA T t).ik,ev f x with
  | some k,some k',some a=>jq k k' a
  | _,_,_=>none
 | .makeFunc (.func gg) ⟨[]⟩ caps=>match Ky f caps.toList with
  | some es=>match fq es with
   | some cs=>some (True,.o (.fn gg cs))
   | none=>none
  | none=>none
 | op=>tr (nj f op)
def nW:BinOp->E->E->Option Bool
 | .eql,.o (.d (.v (.bool a))),.o (.d (.v (.bool b)))=>some (a == b)
 | .neq,.o (.d (.v (.bool a))),.o (.d (.v (.bool b)))=>some (a != b)
 | _,_,_=>none
def VC(T:List (Nat×TI))(f:Env):Op->Option Bool
 | .binOp o t x y _=>match ev f x,ev f y with
  | some a,some b=>match (KA T t).bo with
   | true=>nW o a b
   | false=>jo o a b
  | _,_=>none
 | .unOp .not _ x=>match ev f x with
  | some (.o (.d (.v (.bool b))))=>some (!b)
  | _=>none
 | _=>none
def Om(T:List (Nat×TI))(σ:Ab)(f:Env):Op->Option E
 | .load t x=>match (KA T t).ld,ev f x with
  | some (ag,n),some (.o (.ptr id k i j))=>match look σ id with
   | some (.cells _ k' rows)=>match Nat.beq k k',nth rows i with
    | true,some r=>jE ag n j r
    | _,_=>none
   | _=>none
  | _,_=>none
 | _=>none
def Sw(T:List (Nat×TI))(σ:Ab)(f:Env)(t:Nat)(x y:Operand):Option Ab:=
 match (KA T t).ld,ev f x,ev f y with
 | some (_,n),some (.o (.ptr id k i j)),some e=>match look σ id with
  | some (.cells ct k' rows)=>match Nat.beq k k',nth rows i with
   | true,some r=>match UD e,Nat.beq (eC e).length n,Nat.ble (j+n) k with
    | true,true,true=>some ((id,.cells ct k (rows.set i (Ae r j (eC e))))::σ)
    | _,_,_=>none
   | _,_=>none
  | _=>none
 | _,_,_=>none
section
variable {P:Program}{TB:BJ}{Γ:Ctx}{d:Option Tmp}{ty:TypeId}{pos:String}{af:Array Edge}{g:Option (Nat×Bool)}{f:Env}{σ:Ab}{nx:Nat}
theorem ZA{t:TypeId}{a b:Bool}(c:P.underlying t=some .bool)(w:World):(Op.equal t (.bool a) (.bool b)).run P w=.ok (a == b) w:=by
 unfold Op.equal Op.maxDepth;rw[show 10000=9999+1 from rfl,Op.equalIn];simp[run_underlying c,go_sem]
theorem lV{t yt:TypeId}{x y:Operand}{a b:Bool}[h:SM P t](e:ev f x=some (eB a))(c:ev f y=some (eB b)):A6 P TB Γ ⟨d,.binOp .eql t x y yt,ty,pos,af,g⟩ f σ nx (eB (a == b)):=
 BS e c rfl λw=>by
  have j:binOp .eql t (.bool a) (.bool b)=(do pure (.bool (<-Op.equal t (.bool a) (.bool b)))):=rfl;have i:eqGuard .eql t x y (.bool a) (.bool b)=pure ():=rfl;rw[j,i];simp[ZA h.out w,go_sem]
theorem l8{t yt:TypeId}{x y:Operand}{a b:Bool}[h:SM P t](e:ev f x=some (eB a))(c:ev f y=some (eB b)):A6 P TB Γ ⟨d,.binOp .neq t x y yt,ty,pos,af,g⟩ f σ nx (eB (a != b)):=
 BS e c rfl λw=>by
  have j:binOp .neq t (.bool a) (.bool b)=(do pure (.bool (!(<-Op.equal t (.bool a) (.bool b))))):=rfl;have i:eqGuard .neq t x y (.bool a) (.bool b)=pure ():=rfl;rw[j,i];simp[ZA h.out w,go_sem,bne]
theorem oR{op:Op}{e:E}(h:nj f op=some e):A6 P TB Γ ⟨d,op,ty,pos,af,g⟩ f σ nx e:=by
 unfold nj at h;split at h
 ·exact j8 h
 ·split at h
  ·rename_i a;exact gZ a h
  ·rename_i a;exact gY a h
  ·cases h
 ·split at h
  ·rename_i a
   refine bm a ?_;rw[<-h];congr 1
  ·cases h
 ·split at h
  ·rename_i a;injection h with h;subst h;exact gV a
  ·rename_i a;injection h with h;subst h;exact j9 a
  ·rename_i a;injection h with h;subst h;exact gU a
  ·cases h
 ·cases h
theorem lU{o:BinOp}{t yt:TypeId}{x y:Operand}{ex ey:E}{c:Bool}(e:ev f x=some ex)(b:ev f y=some ey)(a:jo o ex ey=some c) :
 A6 P TB Γ ⟨d,.binOp o t x y yt,ty,pos,af,g⟩ f σ nx (eB c):=by
 unfold jo at a;split at a
 ·split at a
  ·rename_i hk
   have hk:=PJ hk;subst hk;unfold lh at a
   split at a<;>first|(injection a with a;subst a)|cases a
   ·exact l7 e b
   ·exact l6 e b
   ·exact l4 e b
   ·exact l3 e b
   ·exact lY e b
   ·exact ma e b
  ·cases a
 ·unfold lg at a
  split at a<;>first|(injection a with a;subst a)|cases a
  ·exact lW e b
  ·exact l9 e b
 ·cases a
theorem TY{k:IntKind}{m:Int}{q:Prop}(h:bz k m=some q)(a:q):k.wrap m=m:=by
 unfold bz at h
 split at h<;>first|(injection h with h;subst h)|cases h
 ·exact IntWalk.i64_in _ a
 ·exact IntWalk.u64_in _ a
 ·exact IntWalk.u8_in _ a
 ·exact IntWalk.i32_in _ a
theorem nz{o:BinOp}{t yt:TypeId}{x y:Operand}{ex ey e:E}{q:Prop}(j:ev f x=some ex)(i:ev f y=some ey)(a:m9 o ex ey=some (q,e))(h:q) :
 A6 P TB Γ ⟨d,.binOp o t x y yt,ty,pos,af,g⟩ f σ nx e:=by
 unfold m9 at a;split at a
 ·split at a
  ·injection a with a;injection a with c b;subst c;subst b;exact mg j i h rfl
  ·split at a
   ·rename_i hk k
    have hk:=PJ hk;have k:=PJ k;subst hk;subst k
    injection a with a;injection a with c b;subst c;subst b;exact kc j i h.1.1 h.1.2 h.2
   ·cases a
  ·split at a
   ·rename_i hk
    have hk:=PJ hk;subst hk;unfold nV at a;split at a
    ·obtain⟨q',l,m⟩:=d7.1 a
     injection m with c b;subst c;subst b;exact lS j i (TY l h)
    ·obtain⟨q',l,m⟩:=d7.1 a
     injection m with c b;subst c;subst b;exact mh j i (TY l h)
    ·obtain⟨q',l,m⟩:=d7.1 a
     injection m with c b;subst c;subst b;exact iR j i (TY l h)
    ·injection a with a;injection a with c b;subst c;subst b;exact kg j i h.1 h.2
    ·injection a with a;injection a with c b;subst b;exact iQ j i rfl
    ·injection a with a;injection a with c b;subst b;exact ka j i rfl
    ·cases a
   ·cases a
 ·split at a
  ·injection a with a;injection a with c b;subst c;subst b;exact lT j i h
  ·cases a
 ·cases a
theorem lZ{s k off:Nat}{x:Operand}{ex e:E}[b:SO P s k off](a:ev f x=some ex)(h:jx off ex=some e):A6 P TB Γ ⟨d,.fieldAddr s x k,ty,pos,af,g⟩ f σ nx e:=by
 unfold jx at h
 split at h<;>first|(injection h with h;subst h)|cases h
 ·exact bn a
 ·exact dW a
theorem nD{t:TypeId}{x:Operand}{ex e:E}{ag:Bool}{n:Nat}[b:Eg P t ag n](a:ev f x=some ex)(h:nt ag n ex=some e):A6 P TB Γ ⟨d,.load t x,ty,pos,af,g⟩ f σ nx e:=by
 unfold nt at h;split at h
 ·split at h
  ·injection h with h;subst h;exact Vz a
  ·split at h
   ·rename_i hb;injection h with h;subst h;exact bt a (am hb)
   ·cases h
  ·cases h
 ·cases h
theorem Zq{t:TypeId}{x:Operand}{id k i j:Nat}{T:TypeId}{rows:List (List C)}{r:List C}{e:E}{ag:Bool}{n:Nat}[q:Eg P t ag n](a:ev f x=some (.o (.ptr id k i j)))(l:look σ id=some (.cells T k rows))(b:rows[i]?=some r)
 (h:jE ag n j r=some e):A6 P TB Γ ⟨d,.load t x,ty,pos,af,g⟩ f σ nx e:=by
 unfold jE at h;split at h
 ·obtain⟨c,p,m⟩:=d7.1 h
  subst m;exact TT a l b p
 ·split at h
  ·rename_i hb;injection h with h;subst h;exact ei a l b (am hb)
  ·cases h
theorem nB{t:TypeId}{x:Operand}{k off n:Nat}{ag:Bool}{cs:List C}{e:E}[l:ON P t k off ag n](b:ev f x=some (.a cs))(h:nk ag off n cs=some e):A6 P TB Γ ⟨d,.field t x k,ty,pos,af,g⟩ f σ nx e:=by
 unfold nk at h;split at h
 ·obtain⟨c,j,i⟩:=d7.1 h
  subst i;exact gR b j
 ·split at h
  ·rename_i hb;injection h with h;subst h;exact dV b (am hb)
  ·cases h
theorem nC{t:TypeId}{x y:Operand}{ex e:E}{n:Int}{len k:Nat}{ik:IntKind}[i:RG P t len k](c:ev f x=some ex)(b:ev f y=some (eI ik n))(h:nr k n ex=some e)(a:0<=n/\n<len) :
 A6 P TB Γ ⟨d,.indexAddr t x y,ty,pos,af,g⟩ f σ nx e:=by
 unfold nr at h
 split at h<;>first|(injection h with h;subst h)|cases h
 ·exact br c b a.1 a.2
 ·exact ea c b a.1 a.2
theorem l5{t e:TypeId}{x:Operand}{ex r:E}{k b:Nat}[c:CT P t e k b](a:ev f x=some ex)(h:nu k ex=some r):A6 P TB Γ ⟨d,.call ⟨.builtin .len,#[x],#[t]⟩,ty,pos,af,g⟩ f σ nx r:=by
 unfold nu at h;split at h
 ·injection h with h;subst h;exact ef a
 ·split at h
  ·injection h with h;subst h;exact jW a
  ·cases h
 ·cases h
theorem NQ{x:Option E}{q:Prop}{e:E}(h:tr x=some (q,e)):x=some e:=by
 cases x with
 | none=>cases h
 | some y=>injection h with h;injection h with _ h;rw[h]
theorem jH{i:TI}{t:TypeId}{x:Operand}{a e:E}(hi:Fm P t i)(c:ev f x=some a)(h:jG i a=some e):A6 P TB Γ ⟨d,.call ⟨.builtin .len,#[x],#[t]⟩,ty,pos,af,g⟩ f σ nx e:=by
 unfold jG at h;split at h
 ·split at h
  ·rename_i b
   injection h with h;subst h
   haveI:=hi.c7 b;exact jZ c
  ·cases h
 ·split at h
  ·rename_i b
   haveI:=hi.UN b;exact l5 c h
  ·cases h
theorem jC{i:TI}{t:TypeId}{x y:Operand}{a b e:E}{q:Prop}(hi:Fm P t i)(n:ev f x=some a)(m:ev f y=some b)(h:jA i a b=some (q,e))(j:q):A6 P TB Γ ⟨d,.indexAddr t x y,ty,pos,af,g⟩ f σ nx e:=by
 unfold jA at h;split at h
 ·split at h
  ·rename_i c
   split at h
   ·rename_i hk
    injection h with h;injection h with l k;subst l;subst k
    have:=i8 hk;subst this;haveI:=hi.UN c;exact dX n m j.1 j.2
   ·cases h
  ·cases h
 ·split at h
  ·rename_i c
   split at h
   ·rename_i o
    injection h with h;injection h with l k;subst l;subst k
    haveI:=hi.lB c;exact nC n m o j
   ·cases h
  ·cases h
 ·cases h
theorem jO{i:TI}{t yt:TypeId}{x y:Operand}{a b e:E}{q:Prop}(hi:Fm P t i)(l:ev f x=some a)(k:ev f y=some b)(h:jN i.pt a b=some (q,e)):A6 P TB Γ ⟨d,.binOp .eql t x y yt,ty,pos,af,g⟩ f σ nx e:=by
 unfold jN at h;split at h
 ·rename_i c
  injection h with h;injection h with m j;subst j
  haveI:=hi.c6 c;exact bk l k
 ·rename_i c
  injection h with h;injection h with m j;subst j
  haveI:=hi.c6 c;exact XM l k
 ·cases h
theorem jr{i i':TI}{s t:TypeId}{k k':IntKind}{x:Operand}{a e:E}{q:Prop}(hi:Fm P s i)(c:Fm P t i')(hk:i.ik=some k)(b:i'.ik=some k')(l:ev f x=some a)(h:jq k k' a=some (q,e))(n:q):A6 P TB Γ ⟨d,.convert s t x,ty,pos,af,g⟩ f σ nx e:=by
 unfold jq at h;split at h
 ·split at h
  ·rename_i j m
   injection h with h;injection h with p o;subst p;subst o
   have j:=PJ j;subst j;haveI:=hi.cZ hk;haveI:=c.cZ b;exact TR l (TY m n)
  ·cases h
 ·cases h
theorem Zx[n:Dp P]{md:Bool}{op:Op}{q:Prop}{e:E}(h:ew n.T md f op=some (q,e))(i:q):A6 P TB Γ ⟨d,op,ty,pos,af,g⟩ f σ nx e:=by
 have a:=λt=>Em (P:=P) t n.ok;unfold ew at h;split at h
 ·split at h
  ·cases h
  ·exact CQ (NQ h)
 ·rename_i o t x y yt
  split at h
  ·rename_i b c
   unfold k8 at h;split at h
   ·exact jO (a t) b c h
   ·exact nz b c h i
  ·cases h
 ·rename_i s x k
  split at h
  ·rename_i j b
   haveI:=(a s).jz j;exact lZ b (NQ h)
  ·cases h
 ·rename_i t x k
  split at h
  ·rename_i j b
   haveI:=(a t).ga j;exact nB b (NQ h)
  ·cases h
 ·rename_i t x
  split at h
  ·rename_i p b
   haveI:=(a t).Oa p;exact nD b (NQ h)
  ·cases h
 ·rename_i t x y
  split at h
  ·rename_i b c
   exact jC (a t) b c h i
  ·cases h
 ·rename_i x t
  split at h
  ·rename_i b
   exact jH (a t) b (NQ h)
  ·cases h
 ·rename_i s t x
  split at h
  ·rename_i m l b
   exact jr (a s) (a t) m l b h i
  ·cases h
 ·split at h
  ·rename_i m
   split at h
   ·rename_i l
    injection h with h;injection h with _ h;subst h
    exact nA m l
   ·cases h
  ·cases h
 ·exact oR (NQ h)
theorem VD[i:Dp P]{op:Op}{c:Bool}(h:VC i.T f op=some c):A6 P TB Γ ⟨d,op,ty,pos,af,g⟩ f σ nx (eB c):=by
 have e:=λt=>Em (P:=P) t i.ok;unfold VC at h;split at h
 ·rename_i o t x y yt
  split at h
  ·rename_i a b
   split at h
   ·rename_i hb
    haveI:=(e t).fZ hb;unfold nW at h;split at h
    ·injection h with h;subst h;exact lV a b
    ·injection h with h;subst h;exact l8 a b
    ·cases h
   ·exact lU a b h
  ·cases h
 ·split at h
  ·rename_i a
   injection h with h;subst h
   exact mc a
  ·cases h
 ·cases h
theorem Qf[c:Dp P]{op:Op}{e:E}(h:Om c.T σ f op=some e):A6 P TB Γ ⟨d,op,ty,pos,af,g⟩ f σ nx e:=by
 have a:=λt=>Em (P:=P) t c.ok;unfold Om at h;split at h
 ·rename_i t x
  split at h
  ·rename_i k i
   split at h
   ·rename_i j
    split at h
    ·rename_i hk b
     have hk:=i8 hk;subst hk;haveI:=(a t).Oa k;rw[O4]at b;exact Zq i j b h
    ·cases h
   ·cases h
  ·cases h
 ·cases h
theorem Qg[c:Dp P]{t:TypeId}{x y:Operand}{σ':Ab}{K:E->Ab->Nat->Prop}(h:Sw c.T σ f t x y=some σ')(l:K (.t []) σ' nx):CC P TB Γ ⟨d,.store t x y,ty,pos,af,g⟩ f σ nx K:=by
 have a:=λt=>Em (P:=P) t c.ok;unfold Sw at h;split at h
 ·rename_i k i e
  split at h
  ·rename_i j
   split at h
   ·rename_i hk b
    split at h
    ·rename_i o n m
     have hk:=i8 hk;subst hk;haveI:=(a t).Oa k;rw[O4]at b
     injection h with h
     subst h;exact EB i e o j b (i8 n) (am m) l
    ·cases h
   ·cases h
  ·cases h
 ·cases h
end
section
variable {P:Program}{TB:BJ}{Γ:Ctx}{ops:Array Oper}{fl:Fl}{i n:Nat}{L:List (Nat×E)}{σ:Ab}{nx:Nat}{K:Env->Ab->Nat->Prop}{d:Tmp}{ty:TypeId}{pos:String}{af:Array Edge}{g:Option (Nat×Bool)}{op:Op}
theorem gA{d:Option Tmp}(a:BH ops ⟨d,op,ty,pos,af,g⟩ (look L)=some true)(h:GN P TB Γ ops ⟨d,op,ty,pos,af,g⟩ fl i n K L σ nx):Bz P TB Γ ops ⟨d,op,ty,pos,af,g⟩ fl i n K L σ nx:=h a
theorem gS{x:E}(a:∀σ nx,A6 P TB Γ ⟨some d,op,ty,pos,af,g⟩ (look L) σ nx x)(h:Lex P TB Γ ops (Av fl (i+1) n) K (look ((d,x)::L)) σ nx):GN P TB Γ ops ⟨some d,op,ty,pos,af,g⟩ fl i n K L σ nx:=λb=>CM a b h
theorem gQ{x:E}(a:A6 P TB Γ ⟨some d,op,ty,pos,af,g⟩ (look L) σ nx x)(c:SY (fl i)=true)(h:Lex P TB Γ ops (Av fl (i+1) n) K (look ((d,x)::L)) σ nx):GN P TB Γ ops ⟨some d,op,ty,pos,af,g⟩ fl i n K L σ nx:=λb=>gO a b c h
theorem gB{c:Bool}(a:∀σ nx,A6 P TB Γ ⟨some d,op,ty,pos,af,g⟩ (look L) σ nx (eB c))(h:∀b,c=b->Lex P TB Γ ops (Av fl (i+1) n) K (look ((d,eB b)::L)) σ nx):GN P TB Γ ops ⟨some d,op,ty,pos,af,g⟩ fl i n K L σ nx:=λe=>bh a e h
theorem n7{c:Bool}(a:A6 P TB Γ ⟨some d,op,ty,pos,af,g⟩ (look L) σ nx (eB c))(f:SY (fl i)=true)(h:∀b,c=b->Lex P TB Γ ops (Av fl (i+1) n) K (look ((d,eB b)::L)) σ nx):GN P TB Γ ops ⟨some d,op,ty,pos,af,g⟩ fl i n K L σ nx:=λe=>gO a e f (h c rfl)
theorem gW(h:CC P TB Γ ⟨some d,op,ty,pos,af,g⟩ (look L) σ nx (λx σ' nx'=>Lex P TB Γ ops (Av fl (i+1) n) K (look ((d,x)::L)) σ' nx'))(b:fl i=1):GN P TB Γ ops ⟨some d,op,ty,pos,af,g⟩ fl i n K L σ nx:=λa=>Kz h a b
theorem n8(h:CC P TB Γ ⟨none,op,ty,pos,af,g⟩ (look L) σ nx (λ_ σ' nx'=>Lex P TB Γ ops (Av fl (i+1) n) K (look L) σ' nx'))(b:fl i=1):GN P TB Γ ops ⟨none,op,ty,pos,af,g⟩ fl i n K L σ nx:=λa=>Ia h a b
theorem yQ{md:Bool}[b:Dp P]{q:Prop}{x:E}(h:ew b.T md (look L) op=some (q,x))(a:q)(hk:Lex P TB Γ ops (Av fl (i+1) n) K (look ((d,x)::L)) σ nx):GN P TB Γ ops ⟨some d,op,ty,pos,af,g⟩ fl i n K L σ nx:=gS (λ_ _=>Zx h a) hk
theorem yB[a:Dp P]{c:Bool}(h:VC a.T (look L) op=some c)(hk:∀b,c=b->Lex P TB Γ ops (Av fl (i+1) n) K (look ((d,eB b)::L)) σ nx):GN P TB Γ ops ⟨some d,op,ty,pos,af,g⟩ fl i n K L σ nx:=gB (λ_ _=>VD h) hk
theorem yS[b:Dp P]{x:E}(h:Om b.T σ (look L) op=some x)(a:SY (fl i)=true)(hk:Lex P TB Γ ops (Av fl (i+1) n) K (look ((d,x)::L)) σ nx):GN P TB Γ ops ⟨some d,op,ty,pos,af,g⟩ fl i n K L σ nx:=gQ (Qf h) a hk
theorem yW[b:Dp P]{t:TypeId}{x y:Operand}{σ':Ab}(h:Sw b.T σ (look L) t x y=some σ')(a:fl i=1)(hk:Lex P TB Γ ops (Av fl (i+1) n) K (look L) σ' nx):GN P TB Γ ops ⟨none,.store t x y,ty,pos,af,g⟩ fl i n K L σ nx:=n8 (Qg h hk) a
theorem yO[b:Dp P]{T:TypeId}{z:List Value}(h:(KA b.T T).ze=some z)(a:z.all QP=true)(c:fl i=1)(e:Lex P TB Γ ops (Av fl (i+1) n) K (look ((d,.o (.ptr nx z.length 0 0))::L)) ((nx,.cells T z.length [z.map zC])::σ) (nx+1)):GN P TB Γ ops ⟨some d,.alloc T,ty,pos,af,g⟩ fl i n K L σ nx:=
 haveI:=(Em (P:=P) T b.ok).c8 h
 gW (gy a e) c
theorem yM[a:Dp P]{t:TypeId}{x:Operand}{id k i' j:Nat}{T:TypeId}{rows:List (List C)}{r:List C}{e:E}{ag:Bool}{m:Nat}(b:ev (look L) x=some (.o (.ptr id k i' j)))(f:look σ id=some (.cells T k rows))(c:rows[i']?=some r)(l:(KA a.T t).ld=some (ag,m))
 (h:jE ag m j r=some e) (p:SY (fl i)=true) (hk:Lex P TB Γ ops (Av fl (i+1) n) K (look ((d,e)::L)) σ nx):GN P TB Γ ops ⟨some d,.load t x,ty,pos,af,g⟩ fl i n K L σ nx:=
 haveI:=(Em (P:=P) t a.ok).Oa l
 gQ (Zq b f c h) p hk
theorem yV[b:Dp P]{t:TypeId}{x y:Operand}{id k i' j m:Nat}{T:TypeId}{rows:List (List C)}{r:List C}{e:E}{ag:Bool}(d:ev (look L) x=some (.o (.ptr id k i' j)))(c:ev (look L) y=some e)(h:UD e=true)(a:look σ id=some (.cells T k rows))(f:rows[i']?=some r)
 (p:(KA b.T t).ld=some (ag,m)) (l:(eC e).length=m) (q:Nat.ble (j+m) k=true) (s:fl i=1) (hk:Lex P TB Γ ops (Av fl (i+1) n) K (look L) ((id,.cells T k (rows.set i' (Ae r j (eC e))))::σ) nx):GN P TB Γ ops ⟨none,.store t x y,ty,pos,af,g⟩ fl i n K L σ nx:=
 haveI:=(Em (P:=P) t b.ok).Oa p
 n8 (EB d c h a f l (am q) hk) s
theorem oU[a:Dp P]{α:Type}{t e:TypeId}{x:Operand}{l:List α}{h:α->List D}{k b:Nat}(c:ev (look L) x=some (.o (.d (.l (l.map h)))))(f:(KA a.T t).sl=some (e,k,b))(hk:Lex P TB Γ ops (Av fl (i+1) n) K (look ((d,eI .i64 l.length)::L)) σ nx):GN P TB Γ ops ⟨some d,.call ⟨.builtin .len,#[x],#[t]⟩,ty,pos,af,g⟩ fl i n K L σ nx:=
 haveI:=(Em (P:=P) t a.ok).UN f
 gS (λ_ _=>jX c) hk
theorem yL[a:Dp P]{t e:TypeId}{x y:Operand}{rows:List (List D)}{row:List D}{m:Int}{k b:Nat}{ik:IntKind}(f:ev (look L) x=some (.o (.d (.l rows))))(c:ev (look L) y=some (eI ik m))(h:rows[m.toNat]?=some row)(p:(KA a.T t).sl=some (e,k,b))(j:row.length=k)(q:0<=m)
 (hk:Lex P TB Γ ops (Av fl (i+1) n) K (look ((d,.o (.ip row))::L)) σ nx):GN P TB Γ ops ⟨some d,.indexAddr t x y,ty,pos,af,g⟩ fl i n K L σ nx:=
 haveI:=(Em (P:=P) t a.ok).UN p
 gS (λ_ _=>dZ f c q h j) hk
theorem yT[a:Dp P]{t:TypeId}{x y:Operand}{s:List UInt8}{m:Int}{c:UInt8}{ik:IntKind}(e:ev (look L) x=some (eT s))(b:ev (look L) y=some (eI ik m))(h:s[m.toNat]?=some c)(f:(KA a.T t).st=true)(j:0<=m)
 (hk:Lex P TB Γ ops (Av fl (i+1) n) K (look ((d,eI .u8 (c.toNat:Int))::L)) σ nx):GN P TB Γ ops ⟨some d,.index t x y,ty,pos,af,g⟩ fl i n K L σ nx:=
 haveI:=(Em (P:=P) t a.ok).c7 f
 gS (λ_ _=>ed e b j h) hk
def nG(k m:Nat)(z:List Value)(es:List E):Option (List (List D)):=match es.all UD,QI es with
 | true,some rows=>match rows.all λr=>Nat.beq r.length k,Nat.beq z.length k,z.all QP,Nat.ble 1 k,Nat.ble (m*k) 16777216 with
  | true,true,true,true,true=>some rows
  | _,_,_,_,_=>none
 | _,_=>none
theorem yZ[c:Dp P]{t e:TypeId}{k b m:Nat}{z:List Value}{parts:Array (Nat×Operand)}{es:List E}{rows:List (List D)}(r:(KA c.T t).sl=some (e,k,b))(j:(KA c.T e).ze=some z)(p:DO 0 (parts.toList.map (·.2))=parts.toList)(q:parts.toList.length=m)
 (f:Ky (look L) (parts.toList.map (·.2))=some es) (a:nG k m z es=some rows)
 (h:Lex P TB Γ ops (Av fl (i+1) n) K (look ((d,.o (.d (.l rows)))::L)) σ nx):GN P TB Γ ops ⟨some d,.buildSlice t m parts,ty,pos,af,g⟩ fl i n K L σ nx:=by
 haveI:=(Em (P:=P) t c.ok).UN r;haveI:=(Em (P:=P) e c.ok).c8 j;unfold nG at a;split at a
 ·rename_i A y
  split at a
  ·rename_i x w v u s
   injection a with a
   subst a;exact gS (λ_ _=>Qb p q f A y x (i8 w) v u s) h
  ·cases a
 ·cases a
theorem yY{T:TypeId}{x:Operand}{e:E}{ds:List D}(a:ev (look L) x=some e)(b:UD e=true)(c:RF (eC e)=some ds)(h:Lex P TB Γ ops (Av fl (i+1) n) K (look ((d,.o (.ip ds))::L)) σ nx):GN P TB Γ ops ⟨some d,.box T x,ty,pos,af,g⟩ fl i n K L σ nx:=gS (λ_ _=>Dj a b c) h
def gD:Nat->List (Nat×Operand)->Bool
 | _,[]=>true
 | k,(i,_)::r=>Nat.beq i k && gD (k+1) r
theorem Zi:∀(l:List (Nat×Operand)) (k:Nat),gD k l=true->DO k (l.map (·.2))=l
 | [],_,_=>rfl
 | (i,x)::r,k,h=>by
  unfold gD at h;rw[d4]at h;have a:=i8 h.1;subst a;have:=Zi r (i+1) h.2;simp[DO,this]
def gH(c:Nat):Option E->Bool
 | some (.o (.ptr id _ _ _))=>SY c || (Nat.beq c (10+id) && !Nat.ble 1000 c)
 | _=>SY c
theorem ez{T:List (Nat×TI)}{σ σ':Ab}{f:Env}{t:TypeId}{x:Operand}{id k i j:Nat}(a:ev f x=some (.o (.ptr id k i j)))(h:look σ' id=look σ id):Om T σ' f (.load t x)=Om T σ f (.load t x):=by
 unfold Om;simp only[a]
 cases (KA T t).ld with
 | none=>rfl
 | some p=>obtain⟨ag,n⟩:=p;simp only[h]
def Zw(T:List (Nat×TI))(sl:Bool)(c nx:Nat)(σ:Ab)(L:List (Nat×E)):Option Tmp->Op->Option (List (Nat×E)×Ab×Nat)
 | some d,.alloc t=>match Nat.beq c 1,(KA T t).ze with
  | true,some z=>match z.all QP with
   | true=>some ((d,.o (.ptr nx z.length 0 0))::L,(nx,.cells t z.length [z.map zC])::σ,nx+1)
   | false=>none
  | _,_=>none
 | none,.store t x y=>match Nat.beq c 1,Sw T σ (look L) t x y with
  | true,some σ'=>some (L,σ',nx)
  | _,_=>none
 | some d,.load t x=>match gH c (ev (look L) x),Om T σ (look L) (.load t x) with
  | true,some e=>some ((d,e)::L,σ,nx)
  | _,_=>none
 | some d,.box _ x=>match sl,ev (look L) x with
  | true,some e=>match UD e,RF (eC e) with
   | true,some ds=>some ((d,.o (.ip ds))::L,σ,nx)
   | _,_=>none
  | _,_=>none
 | some d,.buildSlice t m parts=>match sl,(KA T t).sl with
  | true,some (e,k,_)=>match (KA T e).ze,Ky (look L) (parts.toList.map (·.2)) with
   | some z,some es=>match nG k m z es,gD 0 parts.toList,Nat.beq parts.toList.length m with
    | some rows,true,true=>some ((d,.o (.d (.l rows)))::L,σ,nx)
    | _,_,_=>none
   | _,_=>none
  | _,_=>none
 | _,_=>none
theorem yU[o:Dp P]{sl:Bool}{d:Option Tmp}{L':List (Nat×E)}{σ':Ab}{nx':Nat}(h:Zw o.T sl (fl i) nx σ L d op=some (L',σ',nx'))(hk:Lex P TB Γ ops (Av fl (i+1) n) K (look L') σ' nx'):GN P TB Γ ops ⟨d,op,ty,pos,af,g⟩ fl i n K L σ nx:=by
 unfold Zw at h;split at h
 ·split at h
  ·rename_i a b
   split at h
   ·rename_i j
    injection h with h;injection h with f h;injection h with e c;subst f;subst e;subst c
    exact yO b j (i8 a) hk
   ·cases h
  ·cases h
 ·split at h
  ·rename_i a b
   injection h with h;injection h with f h;injection h with e c;subst f;subst e;subst c
   exact yW b (i8 a) hk
  ·cases h
 ·split at h
  ·rename_i a b
   injection h with h;injection h with f h;injection h with e c;subst f;subst e;subst c
   unfold gH at a;split at a
   ·rename_i l
    rw[o8]at a
    rcases a with a|a
    ·exact yS b a hk
    ·rw[d4]at a
     have j:=i8 a.1;refine λm=>lQ (λσ' nx' k=>Qf (by rw[j,Nat.add_sub_cancel_left]at k;rw[ez (σ:=σ) (σ':=σ') l k];exact b)) m ⟨rx (by omega),by simpa using a.2⟩ hk
   ·exact yS b a hk
  ·cases h
 ·split at h
  ·rename_i a
   split at h
   ·rename_i b j
    injection h with h;injection h with f h;injection h with e c;subst f;subst e;subst c
    exact yY a b j hk
   ·cases h
  ·cases h
 ·split at h
  ·rename_i a
   split at h
   ·rename_i b j
    split at h
    ·rename_i r q p
     injection h with h;injection h with f h;injection h with e c;subst f;subst e;subst c
     exact yZ a b (Zi _ _ q) (i8 p) j r hk
    ·cases h
   ·cases h
  ·cases h
 ·cases h
theorem yP{x:Operand}{args:Array Operand}{tys:Array TypeId}{gg:FuncId}{cap:List C}{es:List E}{r:E}(b:ev (look L) x=some (.o (.fn gg cap)))(a:Ky (look L) args.toList=some es)(f:(es.all E.Cp && C.DB cap)=true)
 (c:Pure P TB gg (es++cap.map .o) r) (e:r.Cp=true) (h:Lex P TB Γ ops (Av fl (i+1) n) K (look ((d,r)::L)) σ nx):GN P TB Γ ops ⟨some d,.call ⟨.value x,args,tys⟩,ty,pos,af,g⟩ fl i n K L σ nx:=gS (λ_ _=>Bv b a f c e) h
theorem yC{x:Operand}{args:Array Operand}{tys:Array TypeId}{gg:FuncId}{cap:List C}{es:List E}{c:Bool}(e:ev (look L) x=some (.o (.fn gg cap)))(a:Ky (look L) args.toList=some es)(j:(es.all E.Cp && C.DB cap)=true)
 (f:Pure P TB gg (es++cap.map .o) (eB c)) (h:∀b,c=b->Lex P TB Γ ops (Av fl (i+1) n) K (look ((d,eB b)::L)) σ nx):GN P TB Γ ops ⟨some d,.call ⟨.value x,args,tys⟩,ty,pos,af,g⟩ fl i n K L σ nx:=gB (λ_ _=>Bv e a j f rfl) h
end
abbrev Gv:=Prop×List (Nat×E)×Ab×Nat
def iT(T : List (Nat×TI))(md sl:Bool)(ops:Array Oper)(fl:Fl)(i:Nat)(L:List (Nat×E))(σ:Ab)(nx:Nat):Option Gv:=
 match P4 ops.toList (fl.p i) with
 | some ⟨ds,op,ty,pos,af,g⟩=>match BH ops ⟨ds,op,ty,pos,af,g⟩ (look L) with
  | some true=>match ds with
   | some d=>match ew T md (look L) op with
    | some (q,e)=>some (q,(d,e)::L,σ,nx)
    | none=>match Zw T sl (fl i) nx σ L (some d) op with
     | some (L',σ',nx')=>some (True,L',σ',nx')
     | none=>none
   | none=>match Zw T sl (fl i) nx σ L none op with
    | some (L',σ',nx')=>some (True,L',σ',nx')
    | none=>none
  | some false=>match ds with
   | some d=>some (True,(d,.t [])::L,σ,nx)
   | none=>some (True,L,σ,nx)
  | none=>none
 | none=>none
def jR(ops:Array Oper)(fl:Fl)(i:Nat)(L:List (Nat×E)):Option (Option Tmp×Op):=match P4 ops.toList (fl.p i) with
 | some ⟨ds,op,ty,pos,af,g⟩=>match BH ops ⟨ds,op,ty,pos,af,g⟩ (look L) with
  | some true=>some (ds,op)
  | _=>none
 | none=>none
def oa(T:List (Nat×TI))(ops:Array Oper)(fl:Fl)(i:Nat)(L:List (Nat×E)):Option (Nat×List (List D)):=match jR ops fl i L with
 | some (some d,.call ⟨.builtin .len,⟨[x]⟩,⟨[t]⟩⟩)=>match (KA T t).sl,ev (look L) x with
  | some _,some (.o (.d (.l rows)))=>some (d,rows)
  | _,_=>none
 | _=>none
structure As where
 β:Type
 l:List β
 m:Nat
 k:β->Option Gv
def nc(T : List (Nat×TI))(ops:Array Oper)(fl:Fl)(i:Nat)(L:List (Nat×E))(σ:Ab)(nx:Nat):Option As:=match jR ops fl i L with
 | some (some d,.indexAddr t x y)=>match (KA T t).sl,ev (look L) x,ev (look L) y with
  | some (_,k,_),some (.o (.d (.l rows))),some (.o (.d (.v (.int _ m))))=>some ⟨List D,rows,m.toNat,λr=>match Nat.beq r.length k with
   | true=>some (0<=m,(d,.o (.ip r))::L,σ,nx)
   | false=>none⟩
  | _,_,_=>none
 | some (some d,.index t x y)=>match (KA T t).st,ev (look L) x,ev (look L) y with
  | true,some (.o (.d (.v (.string ⟨⟨s⟩⟩)))),some (.o (.d (.v (.int _ m))))=>some ⟨UInt8,s,m.toNat,λc=>some (0<=m,(d,eI .u8 (c.toNat:Int))::L,σ,nx)⟩
  | _,_,_=>none
 | some (some d,.load t x)=>match (KA T t).ld,ev (look L) x with
  | some (ag,m),some (.o (.ptr id k i' j))=>match look σ id with
   | some (.cells _ k' rows)=>match Nat.beq k k',gH (fl i) (some (.o (.ptr id k i' j))) with
    | true,true=>some ⟨List C,rows,i',λr=>match jE ag m j r with
     | some e=>some (True,(d,e)::L,σ,nx)
     | none=>none⟩
    | _,_=>none
   | _=>none
  | _,_=>none
 | some (none,.store t x y)=>match (KA T t).ld,ev (look L) x,ev (look L) y with
  | some (_,m),some (.o (.ptr id k i' j)),some e=>match look σ id with
   | some (.cells ct k' rows)=>match Nat.beq k k',Nat.beq (fl i) 1,UD e,Nat.beq (eC e).length m,Nat.ble (j+m) k with
    | true,true,true,true,true=>some ⟨List C,rows,i',λr=>some (True,L,(id,.cells ct k (rows.set i' (Ae r j (eC e))))::σ,nx)⟩
    | _,_,_,_,_=>none
   | _=>none
  | _,_,_=>none
 | _=>none
def oz(T:List (Nat×TI))(ops:Array Oper)(fl:Fl)(i:Nat)(L:List (Nat×E)):Option (Nat×Bool):=match jR ops fl i L with
 | some (some d,op)=>match VC T (look L) op with
  | some c=>some (d,c)
  | none=>none
 | _=>none
def oN(ops:Array Oper)(fl:Fl)(i:Nat)(L:List (Nat×E)):Option Bool:=match P4 ops.toList (fl.p i) with
 | some ⟨_,_,_,_,_,some (j,_)⟩=>match (ops[j]?).bind (·.dst) with
  | some t=>match look L t with
   | some (.o (.d (.v (.bool b))))=>some b
   | _=>none
  | none=>none
 | _=>none
def mK(ops:Array Oper)(fl:Fl)(i:Nat)(L:List (Nat×E)):Option (Nat×FuncId×List E):=match jR ops fl i L with
 | some (some d,.call ⟨.value x,args,_⟩)=>match ev (look L) x,Ky (look L) args.toList with
  | some (.o (.fn gg cap)),some es=>match es.all E.Cp && C.DB cap with
   | true=>some (d,gg,es++cap.map .o)
   | false=>none
  | _,_=>none
 | _=>none
section
variable {P:Program}{TB:BJ}{Γ:Ctx}{ops:Array Oper}{fl:Fl}{i n:Nat}{L L':List (Nat×E)}{σ σ':Ab}{nx nx' d:Nat}{K:Env->Ab->Nat->Prop}
theorem IG{ds:Option Tmp}{op:Op}(h:jR ops fl i L=some (ds,op))(k:∀ty pos af g,GN P TB Γ ops ⟨ds,op,ty,pos,af,g⟩ fl i n K L σ nx):Lex P TB Γ ops (Av fl i (n+1)) K (look L) σ nx:=by
 unfold jR at h;split at h
 ·rename_i a
  split at h
  ·rename_i b
   injection h with h;injection h with d c;subst d;subst c
   exact Ag a (k _ _ _ _ b)
  ·cases h
 ·cases h
theorem s1{md sl:Bool}[k:Dp P]{q:Prop}(h:iT k.T md sl ops fl i L σ nx=some (q,L',σ',nx'))(j:q)(hk:Lex P TB Γ ops (Av fl (i+1) n) K (look L') σ' nx'):Lex P TB Γ ops (Av fl i (n+1)) K (look L) σ nx:=by
 unfold iT at h;split at h
 ·rename_i a
  split at h
  ·rename_i f
   split at h
   ·split at h
    ·rename_i g
     injection h with h;injection h with e h;injection h with d h;injection h with c b;subst e;subst d;subst c;subst b
     exact Ag a (yQ g j hk f)
    ·split at h
     ·rename_i g
      injection h with h;injection h with e h;injection h with d h;injection h with c b;subst e;subst d;subst c;subst b
      exact Ag a (yU g hk f)
     ·cases h
   ·split at h
    ·rename_i g
     injection h with h;injection h with e h;injection h with d h;injection h with c b;subst e;subst d;subst c;subst b
     exact Ag a (yU g hk f)
    ·cases h
  ·rename_i f
   split at h
   ·injection h with h;injection h with e h;injection h with d h;injection h with c b;subst e;subst d;subst c;subst b
    exact Ag a (λa=>dQ a f (by rw[ER];exact hk))
   ·injection h with h;injection h with e h;injection h with d h;injection h with c b;subst e;subst d;subst c;subst b
    exact Ag a (λa=>dQ a f hk)
  ·cases h
 ·cases h
theorem sA[b:Dp P]{q:Prop}(h:iT b.T false true ops fl i L σ nx=some (q,L',σ',nx'))(a:q)(hk:Lex P TB Γ ops (Av fl (i+1) n) K (look L') σ' nx'):Lex P TB Γ ops (Av fl i (n+1)) K (look L) σ nx:=s1 h a hk
theorem sM[b:Dp P]{q:Prop}(h:iT b.T true false ops fl i L σ nx=some (q,L',σ',nx'))(a:q)(hk:Lex P TB Γ ops (Av fl (i+1) n) K (look L') σ' nx'):Lex P TB Γ ops (Av fl i (n+1)) K (look L) σ nx:=s1 h a hk
theorem sX[b:Dp P]{q:Prop}(h:iT b.T false false ops fl i L σ nx=some (q,L',σ',nx'))(a:q)(hk:Lex P TB Γ ops (Av fl (i+1) n) K (look L') σ' nx'):Lex P TB Γ ops (Av fl i (n+1)) K (look L) σ nx:=s1 h a hk
theorem sN[e:Dp P]{α:Type}{l:List α}{f:α->List D}(h:oa e.T ops fl i L=some (d,l.map f))(hk:Lex P TB Γ ops (Av fl (i+1) n) K (look ((d,eI .i64 l.length)::L)) σ nx):Lex P TB Γ ops (Av fl i (n+1)) K (look L) σ nx:=by
 unfold oa at h;split at h
 ·rename_i b
  split at h
  ·rename_i c a
   injection h with h;injection h with j g;subst j;subst g
   exact IG b λ_ _ _ _=>oU a c hk
  ·cases h
 ·cases h
theorem s4[x : Dp P]{β:Type}{l:List β}{m:Nat}{k:β->Option Gv}{r:β}{q:Prop}(h:nc x.T ops fl i L σ nx=some ⟨β,l,m,k⟩)(s:l[m]?=some r)(e:k r=some (q,L',σ',nx'))(v:q)
 (hk:Lex P TB Γ ops (Av fl (i+1) n) K (look L') σ' nx'):Lex P TB Γ ops (Av fl i (n+1)) K (look L) σ nx:=by
 unfold nc at h;split at h
 ·rename_i j
  split at h
  ·rename_i o g p
   injection h with h;injection h with d c b a;subst d;subst c;subst b
   have a:=eq_of_heq a;subst a;dsimp only at e;split at e
   ·rename_i hb
    injection e with h;injection h with d h;injection h with c h;injection h with b a;subst d;subst c;subst b;subst a
    exact IG j λ_ _ _ _=>yL g p s o (i8 hb) v hk
   ·cases e
  ·cases h
 ·rename_i j
  split at h
  ·rename_i o g p
   injection h with h;injection h with d c b a;subst d;subst c;subst b
   have a:=eq_of_heq a;subst a;dsimp only at e
   injection e with h;injection h with d h;injection h with c h;injection h with b a;subst d;subst c;subst b;subst a
   exact IG j λ_ _ _ _=>yT g p s o v hk
  ·cases h
 ·rename_i j
  split at h
  ·rename_i o g
   split at h
   ·rename_i t
    split at h
    ·rename_i hb f
     injection h with h;injection h with d c b a;subst d;subst c;subst b
     have a:=eq_of_heq a;subst a;dsimp only at e;split at e
     ·rename_i w
      injection e with h;injection h with d h;injection h with c h;injection h with b a;subst d;subst c;subst b;subst a
      have hb:=i8 hb;subst hb;unfold gH at f;rw[o8]at f
      rcases f with f|f
      ·exact IG j λ_ _ _ _=>yM g t s o w f hk
      ·rw[d4]at f
       have F:=i8 f.1;haveI:=(Em (P:=P) _ x.ok).Oa o;exact IG j λ_ _ _ _ y=>lQ (λσ' nx' u=>Zq g (by rw[F,Nat.add_sub_cancel_left]at u;rw[u];exact t) s w) y ⟨rx (by omega),by simpa using f.2⟩ hk
     ·cases e
    ·cases h
   ·cases h
  ·cases h
 ·rename_i j
  split at h
  ·rename_i o g p
   split at h
   ·rename_i t
    split at h
    ·rename_i hb f B A z
     injection h with h;injection h with d c b a;subst d;subst c;subst b
     have a:=eq_of_heq a;subst a;dsimp only at e
     injection e with h;injection h with d h;injection h with c h;injection h with b a;subst d;subst c;subst b;subst a
     have hb:=i8 hb;subst hb;exact IG j λ_ _ _ _=>yV g p B t s o (i8 A) z (i8 f) hk
    ·cases h
   ·cases h
  ·cases h
 ·cases h
theorem tA[a:Dp P](h:iT a.T false true ops fl i L σ nx=some (True,L',σ',nx'))(hk:Lex P TB Γ ops (Av fl (i+1) n) K (look L') σ' nx'):Lex P TB Γ ops (Av fl i (n+1)) K (look L) σ nx:=s1 h True.intro hk
theorem tM[a:Dp P](h:iT a.T true false ops fl i L σ nx=some (True,L',σ',nx'))(hk:Lex P TB Γ ops (Av fl (i+1) n) K (look L') σ' nx'):Lex P TB Γ ops (Av fl i (n+1)) K (look L) σ nx:=s1 h True.intro hk
theorem tX[a:Dp P](h:iT a.T false false ops fl i L σ nx=some (True,L',σ',nx'))(hk:Lex P TB Γ ops (Av fl (i+1) n) K (look L') σ' nx'):Lex P TB Γ ops (Av fl i (n+1)) K (look L) σ nx:=s1 h True.intro hk
theorem t4[b:Dp P]{β:Type}{l:List β}{m:Nat}{k:β->Option Gv}{r:β}(h:nc b.T ops fl i L σ nx=some ⟨β,l,m,k⟩)(a:l[m]?=some r)(c:k r=some (True,L',σ',nx'))
 (hk:Lex P TB Γ ops (Av fl (i+1) n) K (look L') σ' nx'):Lex P TB Γ ops (Av fl i (n+1)) K (look L) σ nx:=s4 h a c True.intro hk
theorem s2[f:Dp P]{c:Bool}(h:oz f.T ops fl i L=some (d,c))(hk:∀b,c=b->Lex P TB Γ ops (Av fl (i+1) n) K (look ((d,eB b)::L)) σ nx):Lex P TB Γ ops (Av fl i (n+1)) K (look L) σ nx:=by
 unfold oz at h;split at h
 ·rename_i e
  split at h
  ·rename_i a
   injection h with h;injection h with j g;subst j;subst g
   exact IG e λ_ _ _ _=>yB a hk
  ·cases h
 ·cases h
theorem s3{b:Bool}(_h:oN ops fl i L=some b)(a:b=true->Lex P TB Γ ops (Av fl i (n+1)) K (look L) σ nx)(c:b=false->Lex P TB Γ ops (Av fl i (n+1)) K (look L) σ nx):Lex P TB Γ ops (Av fl i (n+1)) K (look L) σ nx:=by
 cases b
 ·exact c rfl
 ·exact a rfl
theorem YV{gg:FuncId}{es:List E}(h:mK ops fl i L=some (d,gg,es)):∃x args tys cap a,jR ops fl i L=some (some d,.call ⟨.value x,args,tys⟩)/\ev (look L) x=some (.o (.fn gg cap))/\Ky (look L) args.toList=some a/\(a.all E.Cp && C.DB cap)=true/\es=a++cap.map .o:=by
 unfold mK at h;split at h
 ·rename_i e
  split at h
  ·rename_i b f
   split at h
   ·rename_i c
    injection h with h;injection h with k h;injection h with j g;subst k;subst j;subst g
    exact⟨_,_,_,_,_,e,b,f,c,rfl⟩
   ·cases h
  ·cases h
 ·cases h
theorem sP{gg:FuncId}{es:List E}{r:E}(h:mK ops fl i L=some (d,gg,es))(b:Pure P TB gg es r)(c:r.Cp=true)(hk:Lex P TB Γ ops (Av fl (i+1) n) K (look ((d,r)::L)) σ nx):Lex P TB Γ ops (Av fl i (n+1)) K (look L) σ nx:=by
 obtain⟨x,args,tys,cap,j,f,a,g,e,rfl⟩:=YV h;exact IG f λ_ _ _ _=>yP a g e b c hk
theorem sC{gg:FuncId}{es:List E}{c:Bool}(h:mK ops fl i L=some (d,gg,es))(e:Pure P TB gg es (eB c))(hk:∀b,c=b->Lex P TB Γ ops (Av fl (i+1) n) K (look ((d,eB b)::L)) σ nx):Lex P TB Γ ops (Av fl i (n+1)) K (look L) σ nx:=by
 obtain⟨x,args,tys,cap,k,g,a,j,f,rfl⟩:=YV h;exact IG g λ_ _ _ _=>yC a j f e hk
theorem tI:True:=True.intro
end
section
variable {P:Program}{TB:BJ}{Γ:Ctx}{N:Nat}{ops:Array Oper}{fl:Fl}{i:Nat}{K:Env->Ab->Nat->Prop}{Q:Exit->Env->Ab->Nat->Prop}{f:Env}{σ:Ab}{nx:Nat}
theorem aS{x y:Code}(h:Ak P TB Γ N x (MJ (Ak P TB Γ N y Q) Q) f σ nx):Ak P TB Γ N (.seq x y) Q f σ nx:=.seq h
def Xa(N:Nat):List Oper->Bool
 | []=>true
 | o::r=>match o.dst with
  | some d=>bif Nat.ble (d+1) N then Xa N r else false
  | none=>Xa N r
theorem YU{N:Nat}:∀ {l:List Oper},Xa N l=true->∀o∈l,(match o.dst with|some d=>Nat.blt d N|none=>true)=true
 | [],_,o,a=>by cases a
 | x :: l,h,o,a=>by
  unfold Xa at h
  rcases o3.1 a with rfl|a
  ·cases b:o.dst with
   | none=>rfl
   | some d=>
    rw[b]at h;dsimp only at h |-
    cases hb:Nat.ble (d+1) N with
    | false=>rw[hb]at h;cases h
    | true=>exact hb
  ·refine YU ?_ o a
   cases b:x.dst with
   | none=>rw[b]at h;exact h
   | some d=>
    rw[b]at h;dsimp only at h
    cases hb:Nat.ble (d+1) N with
    | false=>rw[hb]at h;cases h
    | true=>rw[hb]at h;exact h
theorem cL{N:Nat}{ops:Array Oper}(h:Xa N ops.toList=true):Hr N ops=true:=by
 unfold Hr;rw[Array.all_eq_true];intro i hi;exact YU h _ (by simp)
def kH(P:Program)(TB:BJ)(Γ:Ctx)(N:Nat):Code->(Exit->Env->Ab->Nat->Prop)->Option (Env->Ab->Nat->Prop)
 | .region _ ops false,Q=>bif Xa N ops.toList then some (Lex P TB Γ ops (Av cY 0 ops.size) (λf σ nx=>Q .normal f σ nx)) else none
 | .seq c d,Q=>match kH P TB Γ N c (MJ (Ak P TB Γ N d Q) Q) with
  | some G=>some G
  | none=>some (Ak P TB Γ N c (MJ (Ak P TB Γ N d Q) Q))
 | _,_=>none
theorem dJ:∀ {c:Code} {Q:Exit->Env->Ab->Nat->Prop} {G:Env->Ab->Nat->Prop} {f:Env} {σ:Ab} {nx:Nat},kH P TB Γ N c Q=some G->G f σ nx->Ak P TB Γ N c Q f σ nx
 | .region _ ops false,Q,G,f,σ,nx,h,g=>by
  unfold kH at h
  cases b:Xa N ops.toList with
  | false=>rw[b]at h;cases h
  | true=>rw[b]at h;injection h with h;subst h;exact og (cL b) g
 | .seq c d,Q,G,f,σ,nx,h,g=>by
  unfold kH at h;refine .seq ?_
  cases a:kH P TB Γ N c (MJ (Ak P TB Γ N d Q) Q) with
  | none=>rw[a]at h;injection h with h;subst h;exact g
  | some G=>rw[a]at h;injection h with h;subst h;exact dJ a g
 | .region _ ops true,Q,G,f,σ,nx,h,g=>by cases h
 | .skip,Q,G,f,σ,nx,h,g=>by cases h
 | .cond ..,Q,G,f,σ,nx,h,g=>by cases h
 | .block ..,Q,G,f,σ,nx,h,g=>by cases h
 | .ret,Q,G,f,σ,nx,h,g=>by cases h
 | .exit ..,Q,G,f,σ,nx,h,g=>by cases h
theorem aU{c:Code}{G:Env->Ab->Nat->Prop}(h:kH P TB Γ N c Q=some G)(g:G f σ nx):Ak P TB Γ N c Q f σ nx:=dJ h g
theorem aR(h:Q .ret f σ nx):Ak P TB Γ N .ret Q f σ nx:=.ret h
theorem aK(h:Q .normal f σ nx):Ak P TB Γ N .skip Q f σ nx:=.skip h
theorem aE{id:Nat}(h:Q (.exit id) f σ nx):Ak P TB Γ N (.exit id) Q f σ nx:=.exit h
theorem aB{id:Nat}{c:Code}(h:Ak P TB Γ N c (mO id Q) f σ nx):Ak P TB Γ N (.block id c) Q f σ nx:=.block h
theorem aC{c:Operand}{x y:Code}{b:Bool}(e:ev f c=some (.o (.d (.v (.bool b)))))(ht:b=true->Ak P TB Γ N x Q f σ nx)(a:b=false->Ak P TB Γ N y Q f σ nx):Ak P TB Γ N (.cond c x y) Q f σ nx:=.cond e ht a
theorem eN {g:FuncId} {fn:Func} {c:Code} {args:List E} {post:E->Ab->Nat->Prop} (b:P.funcs[g]?=some fn) (hb:fn.body=some c) (a:(fn.name == "runtime.NumGoroutine")=false) (ha:Nat.ble args.length fn.ntmps=true)
 (h:∀Γ:Ctx,Γ.V.nx=nx->Ak P TB Γ fn.ntmps c (kP fn.results post) (look (Cr 0 args)) σ nx):Spec P TB g σ nx args post:=.of b hb a (am ha) h
end
section
variable {P:Program}{TB:BJ}{Γ:Ctx}{d:Option Tmp}{ty:TypeId}{pos:String}{af:Array Edge}{g:Option (Nat×Bool)}{f:Env}{σ:Ab}{nx:Nat}
theorem XQ{t e:TypeId}{k b:Nat}{z:List Value}{ik ik':IntKind}{n c:Int}(B:iS P t=some (e,k,b))(x:bS P e=some z)(f:z.length=k)(H:0<b)(I:0<=n)(A:n<=c)(G:c*b<=140737488355328)(w:World) :
 ∃zv:Value,zv.cells.toList=z/\(Instr.makeSlice t (.int ik n) (.int ik' c)).run P w=.ok (.slice (some ⟨w.heap.size,0,none⟩) n.toNat c.toNat) (w.alloc (.cells ((Array.range (c.toNat*z.length)).map (zv.cells[· % zv.cells.size]!)) e)):=by
 obtain⟨i,y,hi,j,l⟩:=Hg B;obtain⟨i',zv,a,m,h⟩:=HI x
 rw[hi]at a;injection a with a;subst a
 refine⟨zv,h,?_⟩
 have p:0<=c:=by omega
 have F:c<=c*b:=by
  have:=pB (show (1:Int)<=(b:Int) by omega) p;omega
 have wn:IntKind.i64.wrap n=n:=IntWalk.i64_in n (by omega);have wc:IntKind.i64.wrap c=c:=IntWalk.i64_in c (by omega)
 have v:zv.cells.size=k:=by rw[<-f,<-h];simp
 have q:(b:Int)*c<=140737488355328:=by rw[q6];exact G
 have ht:¬(281474976710656:Int)<(b:Int)*c:=by omega
 generalize d:(Array.range (c.toNat*z.length)).map (zv.cells[· % zv.cells.size]!)=cur
 have u:¬c<0:=by omega
 have s:¬n<0:=by omega
 have r:¬c<n:=by omega
 simp only[Instr.makeSlice,oX,run_underlying y,kw,asInt,asIntOf,pure_bind,bind_pure_comp,map_pure,typeInfo,sizeOf,wn,wc];by_cases g:c.toNat*k=0
 ·have o:cur = #[]:=by
   have:cur.size=0:=by rw[<-d];simp[f,g]
   exact qy this
  simp[go_sem,hi,l,j,u,s,r,ht,askRoom,g,newRow,newObj,o];rfl
 ·simp[go_sem,hi,l,j,u,s,r,ht,askRoom,g,newRow,newObj,zeroValue,typeInfo,m,<-d,f]
  rfl
theorem Zt{t e:TypeId}{k b:Nat}{z:List Value}{dz:List D}{x y:Operand}{ik ik':IntKind}{n:Int}[X:CT P t e k b][S:BM P e z](U:ev f x=some (eI ik n))(T:ev f y=some (eI ik' n))(p:z.length=k)(G:z.all QP=true)(q:z.map zC=dz.map C.d)(K:0<b)
 (R:0<=n) (hc:n*b<=140737488355328):A6 P TB Γ ⟨d,.makeSlice t x y,ty,pos,af,g⟩ f σ nx (.o (.d (.l (List.replicate n.toNat dz)))):=
 J8 λV ρ Q h2=>by
  have B:ρ x=.int ik n:=AH.val (Q.get (by simp[Op.operands]) U);have A:ρ y=.int ik' n:=AH.val (Q.get (by simp[Op.operands]) T);obtain⟨zv,u,c⟩:=XQ (ik:=ik) (ik':=ik') X.out S.out p K R (sW n) hc V.w
  have Z:n<=n*b:=by
   have:=pB (show (1:Int)<=(b:Int) by omega) R;omega
  have m:=NV (V:=V) (n:=n.toNat) u G;generalize N:(Array.range (n.toNat*z.length)).map (zv.cells[· % zv.cells.size]!)=cur at c m;obtain⟨hi,M⟩:=h2.WT (w:=V.w.alloc (.cells cur e)) rfl rfl rfl (by simp) (λb hb=>Bh _ _ _ hb)
  have J:dz.length=k:=by have:=congrArg List.length q;simp at this;omega
  have a:∀(i:Nat) (r:List D) (j:Nat) (x:D),(List.replicate n.toNat dz)[i]?=some r->r[j]?=some x->∃v,cur[i*k+j]?=some v/\Dv V.I V.w x v:=λi r j x hi s=>by
   have F:r=dz:=qx (co hi);subst F
   have H:i<n.toNat:=by have:=(ce.1 hi).1;simpa using this
   obtain⟨v,h9,h⟩:=Hs (k:=k) m (λr F=>by rw[qx F];simp[p]) i (z.map zC) j (.d x) (by simp[H]) (by rw[q];simp[s])
   cases h with
   | d h=>exact⟨v,h9,h⟩
  refine⟨.slice (some ⟨V.w.heap.size,0,none⟩) n.toNat n.toNat,Mo V (V.w.alloc (.cells cur e)),?_,M,hi,rfl,?_⟩
  ·show ((do let v <-Instr.makeSlice t (ρ x) (ρ y);pure (Go.Next.value v):Sem Go.Next)).run P V.w=_
   rw[B,A];simp only[oX,c,kw];rfl
  ·have hb:(Mo V (V.w.alloc (.cells cur e))).I V.w.heap.size:=.inr rfl
   have Y:(Mo V (V.w.alloc (.cells cur e))).w.heap[V.w.heap.size]?=some (.cells cur e):=Cj _ _;have := @Dv.l (Mo V (V.w.alloc (.cells cur e))).I (Mo V (V.w.alloc (.cells cur e))).w (List.replicate n.toNat dz) V.w.heap.size 0 k n.toNat (λi j=>cur.getD (i*k+j) undef) hb (by simp) (by unfold maxLen;omega)
    (λi r hi=>by rw[qx (co hi)];exact J)
    (λi r j x hi s=>by
     obtain⟨v,L,_⟩:=a i r j x hi s
     simp[World.cell?,Y,L])
    (λi r j x hi s=>by
     obtain⟨v,L,h7⟩:=a i r j x hi s
     have:cur.getD (i*k+j) undef=v:=by simp[L]
     rw[this];exact h7.ext M)
   rw[r6]at this;exact .d this
end
end Go.Am
namespace Go.Am
theorem aT(L:W->Bool)(cols:List W)(v w:W):marks L (cols++[v]) w=marks L cols w++[Si (L (w++v))]:=by simp[marks]
theorem BV.row{L:W->Bool}{ls:List UInt8}{t:A0}(h:BV L ls t){i j:Nat}{r s:W}(hi:t.rows[i]?=some r)(g:t.rows[j]?=some s)(k:marks L t.cols r=marks L t.cols s):i=j:=by
 have d:(AK L t)[i]?=some (marks L t.cols r):=by simp[AK,hi]
 have c:(AK L t)[j]?=some (marks L t.cols r):=by simp[AK,g,k]
 have l1:=(ce.1 d).1;have l2:=(ce.1 c).1;have f:=(ce.1 d).2;have e:=(ce.1 c).2;have b:=o7.1 h.nd
 rcases rU i j with a|a|a
 ·exact absurd (f.trans e.symm) (b i j l1 l2 a)
 ·exact a
 ·exact absurd (e.trans f.symm) (b j i l2 l1 a)
structure Split (L:W->Bool) (ls:List UInt8) (t:A0) (u v:W):Prop where
 suf:∃p,p≠[]/\u=p++v
 new:v∉t.cols
 opens:∃r∈t.rows,∃c∈ls,marks L (t.cols++[v]) (r++[c])∉AK L ⟨t.rows,t.cols++[v]⟩
theorem VX{L:W->Bool}{ls:List UInt8}{t:A0}(h:BV L ls t)(b:Bool):∀(u:W) (i:Nat) (r:W),AP ls u->t.rows[i]?=some r->L (r++u)=b->L (t.rows.getD (runM L t i u) [])≠b->∃v,splitAt L t b i u=some v/\Split L ls t u v
 | [],i,r,_,hi,hb,z=>by
  have a:t.rows.getD i []=r:=by simp[hi]
  rw[pA]at hb;exact absurd (by show L (t.rows.getD i [])=b;rw[a];exact hb) z
 | c :: v,i,r,A,hi,hb,z=>by
  have F:c∈ls:=A c (by simp)
  have j:t.rows.getD i []=r:=by simp[hi]
  obtain⟨r',a,G⟩:=h.idx hi F
  have g:t.rows.getD (Df L t (r++[c])) []=r':=by simp[a]
  unfold splitAt;rw[j,g];by_cases k:L (r'++v)≠b
  ·rw[if_pos k]
   have n:r++c::v=(r++[c])++v:=by simp
   have f:L ((r++[c])++v)≠L (r'++v):=by rw[<-n,hb];exact λe=>k e.symm
   refine⟨v,rfl,⟨[c],by simp,rfl⟩,λl=>f ((Vl.1 G v l).symm),r,co hi,c,F,λl=>?_⟩;unfold AK at l;obtain⟨s,I,B⟩:=d9.1 l;simp only[aT]at B;obtain⟨S,R⟩:=List.append_inj' B rfl;obtain⟨q,J,o⟩:=pk I
   have d:t.rows[q]?=some s:=by rw[d6 J,o]
   have:=h.row d a (S.trans G.symm);subst this;rw[d]at a
   injection a with a
   subst a
   have Q:Si (L (s++v))=Si (L (r++[c]++v)):=by simpa using R
   exact f (Zd Q).symm
  ·rw [if_neg k]
   have m:L (r'++v)=b:=by simpa using k
   have y:L (t.rows.getD (runM L t (Df L t (r++[c])) v) [])≠b:=by
    have:runM L t i (c::v)=runM L t (Df L t (r++[c])) v:=by show runM L t (Df L t (t.rows.getD i []++[c])) v=_;rw[j]
    rwa[this]at z
   obtain⟨w,P,⟨p,T,N⟩,M,K⟩:=VX h b v _ r' (λx H=>A x (by simp[H])) a m y;exact⟨w,P,⟨c::p,by simp,by rw[N];rfl⟩,M,K⟩
theorem gK{L:W->Bool}{ls:List UInt8}{t:A0}{r:W}{c:UInt8}(a:r∈t.rows)(d:c∈ls)(b:marks L t.cols (r++[c])∉AK L t):Bg L ls t≠none:=λh=>b (Hc h r a c d)
end Go.Am
