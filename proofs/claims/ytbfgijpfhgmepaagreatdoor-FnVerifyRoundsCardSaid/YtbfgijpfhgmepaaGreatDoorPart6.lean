/-
  The steps of a walk, few and short: what an operation gives is reckoned.
-/
import Derived.Test.YtbfgijpfhgmepaaGreatDoorPart5
import Derived.ProofKit
import Derived.OpenShut
import Derived.WideKeyArgs
import Derived.Deep.DeepHandedRow
import Derived.Lib.LaidTab
set_option linter.constructorNameAsVariable false
set_option linter.unusedSectionVars false
set_option linter.unusedSimpArgs false
set_option linter.unusedVariables false
namespace Go.Am
open Go
class RC (P:Program) (t:TypeId):Prop where
 out:P.underlying t=some .bool
theorem oA{p:Prop}[Decidable p]:(decide p=true)=p:=decide_eq_true_eq
theorem oB{p:Prop}[Decidable p]:decide p=false↔¬p:=decide_eq_false_iff_not
theorem oC{α β:Type}{l:List α}{f:α->β}:(l.map f).length=l.length:=gt f
theorem oD{α:Type}{l m:List α}:(l++m).length=l.length+m.length:=ol
theorem oE{α:Type}{n:Nat}{x:α}:(List.replicate n x).length=n:=qm
theorem oF{α:Type}{x:α}{l:List α}:(x::l).length=l.length+1:=nM
theorem oG{α:Type}:([]:List α).length=0:=qu
theorem oZ:(∀(p:Prop) [Decidable p],(decide p=true)=p)/\(∀(p:Prop) [Decidable p],decide p=false↔¬p)/\(∀(α β:Type) (l:List α) (f:α->β),(l.map f).length=l.length)/\(∀(α:Type) (l m:List α),(l++m).length=l.length+m.length)/\(∀(α:Type) (n:Nat) (x:α),(List.replicate n x).length=n)/\(∀(α:Type) (x:α) (l:List α),(x::l).length=l.length+1)/\∀(α:Type),([]:List α).length=0:=
 ⟨λ_ _=>oA,λ_ _=>oB,λ_ _ _ _=>oC,λ_ _ _=>oD,λ_ _ _=>oE,λ_ _ _=>oF,λ_=>oG⟩
structure TI where
 ld:Option (Bool×Nat):=none
 ik:Option IntKind:=none
 st:Bool:=false
 sl:Option (Nat×Nat×Nat):=none
 ar:Option (Nat×Nat):=none
 fl:List (Option (Nat×Bool×Nat)):=[]
 pt:Bool:=false
 bo:Bool:=false
 ze:Option (List Value):=none
def Tf(P:Program)(t:Nat):Nat->List (Option (Nat×Bool×Nat))->Prop
 | _,[]=>True
 | k,none::r=>Tf P t (k+1) r
 | k,some x::r=>(Zi P t k=some x.1/\Zj P t k=some x)/\Tf P t (k+1) r
structure EX (P:Program) (t:Nat) (i:TI):Prop where
 ld:i.ld=none\/iw P t=i.ld
 ik:i.ik=none\/P.underlying t=i.ik.map .int
 st:i.st=false\/P.underlying t=some .string
 sl:i.sl=none\/gx P t=i.sl
 ar:i.ar=none\/jF P t=i.ar
 fl:Tf P t 0 i.fl
 pt:i.pt=false\/∃e,P.underlying t=some (.pointer e)
 bo:i.bo=false\/P.underlying t=some .bool
 ze:i.ze=none\/ah P t=i.ze
def Xh(P:Program):List (Nat×TI)->Prop
 | []=>True
 | (t,i)::r=>EX P t i/\Xh P r
def l6:Value->Value->Bool
 | .int k n,.int k' n'=>decide (k=k') && decide (n=n')
 | .bool a,.bool b=>decide (a=b)
 | .string ⟨⟨a⟩⟩,.string ⟨⟨b⟩⟩=>a.isEmpty && b.isEmpty
 | .slice none 0 0,.slice none 0 0=>true
 | .pointer none,.pointer none=>true
 | .map none,.map none=>true
 | .nilFunc,.nilFunc=>true
 | .nilIface,.nilIface=>true
 | _,_=>false
theorem jm:∀ {a b:Value},l6 a b=true->a=b:=by
 intro a b h;unfold l6 at h;split at h<;>simp_all
def lq:List Value->List Value->Bool
 | [],[]=>true
 | a::l,b::m=>l6 a b && lq l m
 | _,_=>false
theorem dN:∀ {l m:List Value},lq l m=true->l=m
 | [],[],_=>rfl
 | a::l,b::m,h=>by
  unfold lq at h;rw [d4] at h;rw [jm h.1,dN h.2]
 | [],_::_,h=>by cases h
 | _::_,[],h=>by cases h
def jQ(P:Program)(t:Nat):Nat->List (Option (Nat×Bool×Nat))->Bool
 | _,[]=>true
 | k,none::r=>jQ P t (k+1) r
 | k,some x::r=>decide (Zi P t k=some x.1) && decide (Zj P t k=some x) && jQ P t (k+1) r
theorem VJ{P:Program}{t:Nat}:∀ {l:List (Option (Nat×Bool×Nat))} {k:Nat},jQ P t k l=true->Tf P t k l
 | [],_,_=>trivial
 | none::r,k,h=>VJ (l:=r) (k:=k+1) h
 | some x::r,k,h=>by
  unfold jQ at h;simp only [d4,decide_eq_true_eq] at h;exact⟨h.1,VJ h.2⟩
def mx(d:Option TypeDesc)(i:TI):Bool:=match d with
 | some (.int k)=>(match i.ik with|none=>true|some k'=>decide (k=k')) && !i.st && !i.pt && !i.bo
 | some .string=>i.ik.isNone && !i.pt && !i.bo
 | some (.pointer _)=>i.ik.isNone && !i.st && !i.bo
 | some .bool=>i.ik.isNone && !i.st && !i.pt
 | _=>i.ik.isNone && !i.st && !i.pt && !i.bo
def lX(P:Program)(t:Nat)(i:TI):Bool:=
 (i.ld.isNone || decide (iw P t=i.ld)) && (mx (P.underlying t) i && ((i.sl.isNone || decide (gx P t=i.sl)) && ((i.ar.isNone || decide (jF P t=i.ar)) && (jQ P t 0 i.fl && match i.ze with
  | none=>true
  | some l=>match ah P t with
   | some l'=>lq l' l
   | none=>false))))
theorem or_none{α:Type}[DecidableEq α]{a b:Option α}(h:(b.isNone || decide (a=b))=true):b=none\/a=b:=by
 rw [nq] at h
 rcases h with h|h
 ·left;cases b<;>simp_all
 ·right;exact of_decide_eq_true h
theorem jf{P:Program}{t:Nat}{i:TI}(h:lX P t i=true):EX P t i:=by
 unfold lX at h;simp only [d4] at h;obtain⟨o,f,n,m,j,b⟩:=h
 have a:(i.ik=none\/P.underlying t=i.ik.map .int)/\(i.st=false\/P.underlying t=some .string)/\(i.pt=false\/∃e,P.underlying t=some (.pointer e))/\(i.bo=false\/P.underlying t=some .bool):=by
  unfold mx at f;split at f
  ·rename_i k hk
   cases g:i.ik<;>simp_all
  all_goals simp_all
 refine⟨or_none o,a.1,a.2.1,or_none n,or_none m,VJ j,a.2.2.1,a.2.2.2,?_⟩;split at b
 ·rename_i d;exact .inl d
 ·rename_i l d
  split at b
  ·rename_i l' c
   right;rw [c,d,dN b]
  ·cases b
def gP(P:Program):List (Nat×TI)->Bool
 | []=>true
 | (t,i)::r=>lX P t i && gP P r
theorem Xp{P:Program}:∀ {l:List (Nat×TI)},gP P l=true->Xh P l
 | [],_=>trivial
 | (t,i)::r,h=>by
  unfold gP at h;rw [d4] at h;exact⟨jf h.1,Xp h.2⟩
class C7 (P:Program) where
 T:List (Nat×TI)
 ok:Xh P T
def JR:List (Nat×TI)->Nat->TI
 | [],_=>{}
 | (k,x)::r,t=>bif Nat.beq k t then x else JR r t
def nth{α:Type}:List α->Nat->Option α
 | [],_=>none
 | x::_,0=>some x
 | _::r,n+1=>nth r n
theorem N9{α:Type}:∀(l:List α) (i:Nat),nth l i=l[i]?
 | [],_=>by simp [nth]
 | o::_,0=>by simp [nth]
 | _::r,n+1=>by simp [nth,N9 r n]
theorem DU{P:Program}(t:Nat):∀ {T:List (Nat×TI)},Xh P T->EX P t (JR T t)
 | [],_=>⟨.inl rfl,.inl rfl,.inl rfl,.inl rfl,.inl rfl,trivial,.inl rfl,.inl rfl,.inl rfl⟩
 | (k,x)::r,h=>by
  unfold JR;cases hb:Nat.beq k t
  ·exact DU t h.2
  ·have:=i8 hb
   subst this;exact h.1
section
variable {P:Program}{t:Nat}{i:TI}
theorem EX.Ng(h:EX P t i){ag:Bool}{n:Nat}(e:i.ld=some (ag,n)):DL P t ag n:=⟨by rcases h.ld with h|h<;>simp_all⟩
theorem EX.bx(h:EX P t i){k:IntKind}(e:i.ik=some k):J7 P t k:=⟨by rcases h.ik with h|h<;>simp_all⟩
theorem EX.bA(h:EX P t i)(e:i.st=true):DQ P t:=⟨by rcases h.st with h|h<;>simp_all⟩
theorem EX.TP(h:EX P t i){e k b:Nat}(a:i.sl=some (e,k,b)):CO P t e k b:=⟨by rcases h.sl with h|h<;>simp_all⟩
theorem EX.jT(h:EX P t i){n k:Nat}(a:i.ar=some (n,k)):Qp P t n k:=⟨by rcases h.ar with h|h<;>simp_all⟩
theorem EX.bz(h:EX P t i)(e:i.pt=true):Vq P t:=⟨h.pt.resolve_left (by simp [e])⟩
theorem EX.eD(h:EX P t i)(e:i.bo=true):RC P t:=⟨by rcases h.bo with h|h<;>simp_all⟩
theorem EX.bB(h:EX P t i){z:List Value}(e:i.ze=some z):BM P t z:=⟨by rcases h.ze with h|h<;>simp_all⟩
theorem Tf.get:∀ {l:List (Option (Nat×Bool×Nat))} {k j:Nat} {x:Nat×Bool×Nat},Tf P t k l->nth l j=some (some x)->Zi P t (k+j)=some x.1/\Zj P t (k+j)=some x
 | [],_,_,_,_,h=>by simp [nth] at h
 | none::r,k,0,x,_,h=>by simp [nth] at h
 | some y::r,k,0,x,a,h=>by simp [nth] at h;subst h;exact a.1
 | none::r,k,j+1,x,a,h=>by
  have:=Tf.get (l:=r) (k:=k+1) (j:=j) (x:=x) a h;rwa [show k+(j+1)=k+1+j by omega]
 | some y::r,k,j+1,x,a,h=>by
  have:=Tf.get (l:=r) (k:=k+1) (j:=j) (x:=x) a.2 h;rwa [show k+(j+1)=k+1+j by omega]
theorem EX.il(h:EX P t i){j off n:Nat}{ag:Bool}(e:nth i.fl j=some (some (off,ag,n))):RD P t j off:=⟨by have:=(h.fl.get e).1;rwa [nf] at this⟩
theorem EX.eE(h:EX P t i){j off n:Nat}{ag:Bool}(e:nth i.fl j=some (some (off,ag,n))):NS P t j off ag n:=⟨by have:=(h.fl.get e).2;rwa [nf] at this⟩
end
def Gu(P:Program)(TB:Bz)(Z:Ctx)(ops:Array Oper)(o:Oper)(fl:Fl)(i n:Nat)(K:Env->Ab->Nat->Prop)(L:List (Nat×E))(σ:Ab)(nx:Nat):Prop:=
 BB ops o (look L)=some true->Bh P TB Z ops o fl i n K L σ nx
def xE:Bool×List C->Option E
 | (false,[c])=>some (.o c)
 | (true,cs)=>some (.a cs)
 | _=>none
def lH(f:Env):Op->Option E
 | .move x=>ev f x
 | .pick c x y=>match ev f c with
  | some (.o (.d (.v (.bool true))))=>ev f x
  | some (.o (.d (.v (.bool false))))=>ev f y
  | _=>none
 | .extract x k=>match ev f x with
  | some (.t xs)=>(xs[k]?).bind xE
  | _=>none
 | .nilCheck x=>match ev f x with
  | some (.o (.d (.p cs)))=>some (.o (.ip cs))
  | some (.o (.ptr id k i j))=>some (.o (.ptr id k i j))
  | some (.o (.fn gg cs))=>some (.o (.fn gg cs))
  | _=>none
 | _=>none
def jq:IntKind->IntKind->Bool
 | .i64,.i64|.u8,.u8|.u64,.u64|.i32,.i32|.u16,.u16|.u32,.u32=>true
 | _,_=>false
theorem OP{a b:IntKind}(h:jq a b=true):a=b:=by cases a<;>cases b<;>first|rfl|cases h
def jM(o:BinOp)(m n:Int):Option Bool:=match o with
 | .lss=>some (decide (m < n))
 | .leq=>some (decide (m<=n))
 | .gtr=>some (decide (m > n))
 | .geq=>some (decide (m>=n))
 | .eql=>some (decide (m=n))
 | .neq=>some (decide (m≠n))
 | _=>none
def jL(o:BinOp)(a b:List UInt8):Option Bool:=match o with
 | .eql=>some (decide (a=b))
 | .neq=>some (decide (a≠b))
 | _=>none
def g9(o:BinOp):E->E->Option Bool
 | .o (.d (.v (.int k m))),.o (.d (.v (.int k' n)))=>match jq k k' with
  | true=>jM o m n
  | false=>none
 | .o (.d (.v (.string ⟨⟨a⟩⟩))),.o (.d (.v (.string ⟨⟨b⟩⟩)))=>jL o a b
 | _,_=>none
def ZL:IntKind->Int->Option Prop
 | .i64,m=>some (-9223372036854775808<=m/\m<=9223372036854775807)
 | .u64,m=>some (0<=m/\m<=18446744073709551615)
 | .u8,m=>some (0<=m/\m<=255)
 | .i32,m=>some (-2147483648<=m/\m<=2147483647)
 | _,_=>none
def me(o:BinOp)(k:IntKind)(m n:Int):Option (Prop×E):=match o with
 | .add=>(ZL k (m+n)).map λq=>(q,eI k (m+n))
 | .sub=>(ZL k (m - n)).map λq=>(q,eI k (m - n))
 | .mul=>(ZL k (m*n)).map λq=>(q,eI k (m*n))
 | .rem=>some (0<=m/\0 < n,eI k (m % n))
 | .and=>some (True,eI k (FW k m n))
 | .or=>some (True,eI k (Gk k m n))
 | _=>none
def lC(o:BinOp):E->E->Option (Prop×E)
 | .o (.d (.v (.int k m))),.o (.d (.v (.int k' n)))=>match o with
  | .shr=>some (0<=n,eI k (m.fdiv (2 ^ (min n.toNat k.bits))))
  | .quo=>match jq k .i64,jq k' .i64 with
   | true,true=>some ((0<=m/\m<=9223372036854775807)/\0 < n,eI .i64 (m / n))
   | _,_=>none
  | o=>match jq k k' with
   | true=>me o k m n
   | false=>none
 | .o (.d (.v (.string ⟨⟨a⟩⟩))),.o (.d (.v (.string ⟨⟨b⟩⟩)))=>match o with
  | .add=>some (a.length+b.length<=9223372036854775807,eT (a++b))
  | _=>none
 | _,_=>none
def ig(off:Nat):E->Option E
 | .o (.d (.p cs))=>some (.o (.ip (cs.drop off)))
 | .o (.ptr id k i j)=>some (.o (.ptr id k i (j+off)))
 | _=>none
def lL(ag:Bool)(n:Nat):E->Option E
 | .o (.d (.p cs))=>match ag,cs with
  | false,c::_=>some (.o (.d c))
  | true,cs=>match Nat.ble n cs.length with
   | true=>some (.a ((cs.take n).map .d))
   | false=>none
  | _,_=>none
 | _=>none
def ix(ag:Bool)(n j:Nat)(r:List C):Option E:=match ag with
 | false=>(r[j]?).map .o
 | true=>match Nat.ble (j+n) r.length with
  | true=>some (.a ((r.drop j).take n))
  | false=>none
def lI(ag:Bool)(off n:Nat)(cs:List C):Option E:=match ag with
 | false=>(cs[off]?).map .o
 | true=>match Nat.ble (off+n) cs.length with
  | true=>some (.a ((cs.drop off).take n))
  | false=>none
def lK(k:Nat)(n:Int):E->Option E
 | .o (.d (.p cs))=>some (.o (.ip (cs.drop (n.toNat*k))))
 | .o (.ptr id k' i j)=>some (.o (.ptr id k' i (j+n.toNat*k)))
 | _=>none
def lM(k:Nat):E->Option E
 | .o (.d (.l rows))=>some (eI .i64 rows.length)
 | .o (.arr _ k' _ len)=>match Nat.beq k' k with
  | true=>some (eI .i64 len)
  | false=>none
 | _=>none
def tr:Option E->Option (Prop×E)
 | some e=>some (True,e)
 | none=>none
def iH:Bool->E->E->Option (Prop×E)
 | true,.o (.d (.p _)),.o (.d (.v (.pointer none)))=>some (True,eB false)
 | true,.o (.d (.v (.pointer none))),.o (.d (.v (.pointer none)))=>some (True,eB true)
 | _,_,_=>none
def jI(pt:Bool)(o:BinOp)(a b:E):Option (Prop×E):=match o with
 | .eql=>iH pt a b
 | o=>lC o a b
def ir(i:TI):E->E->Option (Prop×E)
 | .o (.arr id k off len),.o (.d (.v (.int _ m)))=>match i.sl with
  | some (_,k',_)=>match Nat.beq k k' with
   | true=>some (0<=m/\m < len,.o (.ptr id k (off+m.toNat) 0))
   | false=>none
  | none=>none
 | a, .o (.d (.v (.int _ m)))=>match i.ar with
  | some (len,k)=>match lK k m a with
   | some e=>some (0<=m/\m < len,e)
   | none=>none
  | none=>none
 | _,_=>none
def iz(i:TI):E->Option E
 | .o (.d (.v (.string ⟨⟨s⟩⟩)))=>match i.st with
  | true=>some (eI .i64 s.length)
  | false=>none
 | e=>match i.sl with
  | some (_,k,_)=>lM k e
  | none=>none
def hO(k k':IntKind):E->Option (Prop×E)
 | .o (.d (.v (.int a m)))=>match jq a k,ZL k' m with
  | true,some q=>some (q,eI k' m)
  | _,_=>none
 | _=>none
def cY(T:List (Nat×TI))(md:Bool)(f:Env):Op->Option (Prop×E)
 | .assign x=>match md,notNil x with
  | true,false=>none
  | _,_=>tr (ev f x)
 | .binOp o t x y _=>match ev f x,ev f y with
  | some a,some b=>jI (JR T t).pt o a b
  | _,_=>none
 | .fieldAddr s x k=>match nth (JR T s).fl k,ev f x with
  | some (some (off,_,_)),some a=>tr (ig off a)
  | _,_=>none
 | .field t x k=>match nth (JR T t).fl k,ev f x with
  | some (some (off,ag,n)),some (.a cs)=>tr (lI ag off n cs)
  | _,_=>none
 | .load t x=>match (JR T t).ld,ev f x with
  | some (ag,n),some a=>tr (lL ag n a)
  | _,_=>none
 | .indexAddr t x y=>match ev f x,ev f y with
  | some a,some b=>ir (JR T t) a b
  | _,_=>none
 | .call ⟨.builtin .len,⟨[x]⟩,⟨[t]⟩⟩=>match ev f x with
  | some a=>tr (iz (JR T t) a)
  | none=>none
 | .convert s t x=>match (JR T s).ik,(JR T t).ik,ev f x with
  | some k,some k',some a=>hO k k' a
  | _,_,_=>none
 | .makeFunc (.func gg) ⟨[]⟩ caps=>match JP f caps.toList with
  | some es=>match dK es with
   | some cs=>some (True,.o (.fn gg cs))
   | none=>none
  | none=>none
 | op=>tr (lH f op)
def mf:BinOp->E->E->Option Bool
 | .eql,.o (.d (.v (.bool a))),.o (.d (.v (.bool b)))=>some (a == b)
 | .neq,.o (.d (.v (.bool a))),.o (.d (.v (.bool b)))=>some (a != b)
 | _,_,_=>none
def Uv(T:List (Nat×TI))(f:Env):Op->Option Bool
 | .binOp o t x y _=>match ev f x,ev f y with
  | some a,some b=>match (JR T t).bo with
   | true=>mf o a b
   | false=>g9 o a b
  | _,_=>none
 | .unOp .not _ x=>match ev f x with
  | some (.o (.d (.v (.bool b))))=>some (!b)
  | _=>none
 | _=>none
def Nr(T:List (Nat×TI))(σ:Ab)(f:Env):Op->Option E
 | .load t x=>match (JR T t).ld,ev f x with
  | some (ag,n),some (.o (.ptr id k i j))=>match look σ id with
   | some (.cells _ k' rows)=>match Nat.beq k k',nth rows i with
    | true,some r=>ix ag n j r
    | _,_=>none
   | _=>none
  | _,_=>none
 | _=>none
def Ro(T:List (Nat×TI))(σ:Ab)(f:Env)(t:Nat)(x y:Operand):Option Ab:=
 match (JR T t).ld,ev f x,ev f y with
 | some (_,n),some (.o (.ptr id k i j)),some e=>match look σ id with
  | some (.cells ct k' rows)=>match Nat.beq k k',nth rows i with
   | true,some r=>match TC e,Nat.beq (eC e).length n,Nat.ble (j+n) k with
    | true,true,true=>some ((id,.cells ct k (rows.set i (Ae r j (eC e))))::σ)
    | _,_,_=>none
   | _,_=>none
  | _=>none
 | _,_,_=>none
section
variable {P:Program}{TB:Bz}{Z:Ctx}{d:Option Tmp}{ty:TypeId}{pos:String}{af:Array Edge}{g:Option (Nat×Bool)}{f:Env}{σ:Ab}{nx:Nat}
theorem Yy{t:TypeId}{a b:Bool}(c:P.underlying t=some .bool)(w:World):(Op.equal t (.bool a) (.bool b)).run P w=.ok (a == b) w:=by
 unfold Op.equal Op.maxDepth;rw [show 10000=9999+1 from rfl,Op.equalIn];simp [run_underlying c,go_sem]
theorem kr{t yt:TypeId}{x y:Operand}{a b:Bool}[h:RC P t](e:ev f x=some (eB a))(c:ev f y=some (eB b)):AX P TB Z ⟨d,.binOp .eql t x y yt,ty,pos,af,g⟩ f σ nx (eB (a == b)):=
 BK e c rfl λw=>by
  have j:binOp .eql t (.bool a) (.bool b)=(do pure (.bool (<-Op.equal t (.bool a) (.bool b)))):=rfl;have i:eqGuard .eql t x y (.bool a) (.bool b)=pure ():=rfl;rw [j,i];simp [Yy h.out w,go_sem]
theorem kE{t yt:TypeId}{x y:Operand}{a b:Bool}[h:RC P t](e:ev f x=some (eB a))(c:ev f y=some (eB b)):AX P TB Z ⟨d,.binOp .neq t x y yt,ty,pos,af,g⟩ f σ nx (eB (a != b)):=
 BK e c rfl λw=>by
  have j:binOp .neq t (.bool a) (.bool b)=(do pure (.bool (!(<-Op.equal t (.bool a) (.bool b))))):=rfl;have i:eqGuard .neq t x y (.bool a) (.bool b)=pure ():=rfl;rw [j,i];simp [Yy h.out w,go_sem,bne]
theorem mW{op:Op}{e:E}(h:lH f op=some e):AX P TB Z ⟨d,op,ty,pos,af,g⟩ f σ nx e:=by
 unfold lH at h;split at h
 ·exact iU h
 ·split at h
  ·rename_i a;exact fC a h
  ·rename_i a;exact fB a h
  ·cases h
 ·split at h
  ·rename_i a
   refine ZF a ?_;rw [<-h];congr 1
  ·cases h
 ·split at h
  ·rename_i a;injection h with h;subst h;exact fy a
  ·rename_i a;injection h with h;subst h;exact iV a
  ·rename_i a;injection h with h;subst h;exact fx a
  ·cases h
 ·cases h
theorem kq{o:BinOp}{t yt:TypeId}{x y:Operand}{ex ey:E}{c:Bool}(e:ev f x=some ex)(b:ev f y=some ey)(a:g9 o ex ey=some c) :
 AX P TB Z ⟨d,.binOp o t x y yt,ty,pos,af,g⟩ f σ nx (eB c):=by
 unfold g9 at a;split at a
 ·split at a
  ·rename_i hk
   have hk:=OP hk;subst hk;unfold jM at a
   split at a<;>first|(injection a with a;subst a)|cases a
   ·exact kD e b
   ·exact kC e b
   ·exact kz e b
   ·exact ky e b
   ·exact kv e b
   ·exact kG e b
  ·cases a
 ·unfold jL at a
  split at a<;>first|(injection a with a;subst a)|cases a
  ·exact kt e b
  ·exact kF e b
 ·cases a
theorem SG{k:IntKind}{m:Int}{q:Prop}(h:ZL k m=some q)(a:q):k.wrap m=m:=by
 unfold ZL at h
 split at h<;>first|(injection h with h;subst h)|cases h
 ·exact IntWalk.i64_in _ a
 ·exact IntWalk.u64_in _ a
 ·exact IntWalk.u8_in _ a
 ·exact IntWalk.i32_in _ a
theorem lQ{o:BinOp}{t yt:TypeId}{x y:Operand}{ex ey e:E}{q:Prop}(j:ev f x=some ex)(i:ev f y=some ey)(a:lC o ex ey=some (q,e))(h:q) :
 AX P TB Z ⟨d,.binOp o t x y yt,ty,pos,af,g⟩ f σ nx e:=by
 unfold lC at a;split at a
 ·split at a
  ·injection a with a;injection a with c b;subst c;subst b;exact kK j i h rfl
  ·split at a
   ·rename_i hk k
    have hk:=OP hk;have k:=OP k;subst hk;subst k
    injection a with a;injection a with c b;subst c;subst b;exact iX j i h.1.1 h.1.2 h.2
   ·cases a
  ·split at a
   ·rename_i hk
    have hk:=OP hk;subst hk;unfold me at a;split at a
    ·obtain⟨q',l,m⟩:=d7.1 a
     injection m with c b;subst c;subst b;exact km j i (SG l h)
    ·obtain⟨q',l,m⟩:=d7.1 a
     injection m with c b;subst c;subst b;exact kL j i (SG l h)
    ·obtain⟨q',l,m⟩:=d7.1 a
     injection m with c b;subst c;subst b;exact gv j i (SG l h)
    ·injection a with a;injection a with c b;subst c;subst b;exact iY j i h.1 h.2
    ·injection a with a;injection a with c b;subst b;exact gu j i rfl
    ·injection a with a;injection a with c b;subst b;exact iW j i rfl
    ·cases a
   ·cases a
 ·split at a
  ·injection a with a;injection a with c b;subst c;subst b;exact ko j i h
  ·cases a
 ·cases a
theorem kx{s k off:Nat}{x:Operand}{ex e:E}[b:RD P s k off](a:ev f x=some ex)(h:ig off ex=some e):AX P TB Z ⟨d,.fieldAddr s x k,ty,pos,af,g⟩ f σ nx e:=by
 unfold ig at h
 split at h<;>first|(injection h with h;subst h)|cases h
 ·exact ZG a
 ·exact cI a
theorem lU{t:TypeId}{x:Operand}{ex e:E}{ag:Bool}{n:Nat}[b:DL P t ag n](a:ev f x=some ex)(h:lL ag n ex=some e):AX P TB Z ⟨d,.load t x,ty,pos,af,g⟩ f σ nx e:=by
 unfold lL at h;split at h
 ·split at h
  ·injection h with h;subst h;exact Us a
  ·split at h
   ·rename_i hb;injection h with h;subst h;exact ZI a (am hb)
   ·cases h
  ·cases h
 ·cases h
theorem X6{t:TypeId}{x:Operand}{id k i j:Nat}{T:TypeId}{rows:List (List C)}{r:List C}{e:E}{ag:Bool}{n:Nat}[q:DL P t ag n](a:ev f x=some (.o (.ptr id k i j)))(l:look σ id=some (.cells T k rows))(b:rows[i]? = some r)
 (h:ix ag n j r=some e):AX P TB Z ⟨d,.load t x,ty,pos,af,g⟩ f σ nx e:=by
 unfold ix at h;split at h
 ·obtain⟨c,p,m⟩:=d7.1 h
  subst m;exact SA a l b p
 ·split at h
  ·rename_i hb;injection h with h;subst h;exact cR a l b (am hb)
  ·cases h
theorem lS{t:TypeId}{x:Operand}{k off n:Nat}{ag:Bool}{cs:List C}{e:E}[l:NS P t k off ag n](b:ev f x=some (.a cs))(h:lI ag off n cs=some e):AX P TB Z ⟨d,.field t x k,ty,pos,af,g⟩ f σ nx e:=by
 unfold lI at h;split at h
 ·obtain⟨c,j,i⟩:=d7.1 h
  subst i;exact fv b j
 ·split at h
  ·rename_i hb;injection h with h;subst h;exact cH b (am hb)
  ·cases h
theorem lT{t:TypeId}{x y:Operand}{ex e:E}{n:Int}{len k:Nat}{ik:IntKind}[i:Qp P t len k](c:ev f x=some ex)(b:ev f y=some (eI ik n))(h:lK k n ex=some e)(a:0<=n/\n < len) :
 AX P TB Z ⟨d,.indexAddr t x y,ty,pos,af,g⟩ f σ nx e:=by
 unfold lK at h
 split at h<;>first|(injection h with h;subst h)|cases h
 ·exact ZH c b a.1 a.2
 ·exact cM c b a.1 a.2
theorem kB{t e:TypeId}{x:Operand}{ex r:E}{k b:Nat}[c:CO P t e k b](a:ev f x=some ex)(h:lM k ex=some r):AX P TB Z ⟨d,.call ⟨.builtin .len,#[x],#[t]⟩,ty,pos,af,g⟩ f σ nx r:=by
 unfold lM at h;split at h
 ·injection h with h;subst h;exact cQ a
 ·split at h
  ·injection h with h;subst h;exact iQ a
  ·cases h
 ·cases h
theorem MR{x:Option E}{q:Prop}{e:E}(h:tr x=some (q,e)):x=some e:=by
 cases x with
 | none=>cases h
 | some y=>injection h with h;injection h with _ h;rw [h]
theorem iA{i:TI}{t:TypeId}{x:Operand}{a e:E}(hi:EX P t i)(c:ev f x=some a)(h:iz i a=some e):AX P TB Z ⟨d,.call ⟨.builtin .len,#[x],#[t]⟩,ty,pos,af,g⟩ f σ nx e:=by
 unfold iz at h;split at h
 ·split at h
  ·rename_i b
   injection h with h;subst h
   haveI:=hi.bA b;exact iT c
  ·cases h
 ·split at h
  ·rename_i b
   haveI:=hi.TP b;exact kB c h
  ·cases h
theorem iv{i:TI}{t:TypeId}{x y:Operand}{a b e:E}{q:Prop}(hi:EX P t i)(n:ev f x=some a)(m:ev f y=some b)(h:ir i a b=some (q,e))(j:q):AX P TB Z ⟨d,.indexAddr t x y,ty,pos,af,g⟩ f σ nx e:=by
 unfold ir at h;split at h
 ·split at h
  ·rename_i c
   split at h
   ·rename_i hk
    injection h with h;injection h with l k;subst l;subst k
    have:=i8 hk;subst this;haveI:=hi.TP c;exact cJ n m j.1 j.2
   ·cases h
  ·cases h
 ·split at h
  ·rename_i c
   split at h
   ·rename_i o
    injection h with h;injection h with l k;subst l;subst k
    haveI:=hi.jT c;exact lT n m o j
   ·cases h
  ·cases h
 ·cases h
theorem iI{i:TI}{t yt:TypeId}{x y:Operand}{a b e:E}{q:Prop}(hi:EX P t i)(l:ev f x=some a)(k:ev f y=some b)(h:iH i.pt a b=some (q,e)):AX P TB Z ⟨d,.binOp .eql t x y yt,ty,pos,af,g⟩ f σ nx e:=by
 unfold iH at h;split at h
 ·rename_i c
  injection h with h;injection h with m j;subst j
  haveI:=hi.bz c;exact ZE l k
 ·rename_i c
  injection h with h;injection h with m j;subst j
  haveI:=hi.bz c;exact WE l k
 ·cases h
theorem hX{i i':TI}{s t:TypeId}{k k':IntKind}{x:Operand}{a e:E}{q:Prop}(hi:EX P s i)(c:EX P t i')(hk:i.ik=some k)(b:i'.ik=some k')(l:ev f x=some a)(h:hO k k' a=some (q,e))(n:q):AX P TB Z ⟨d,.convert s t x,ty,pos,af,g⟩ f σ nx e:=by
 unfold hO at h;split at h
 ·split at h
  ·rename_i j m
   injection h with h;injection h with p o;subst p;subst o
   have j:=OP j;subst j;haveI:=hi.bx hk;haveI:=c.bx b;exact Sy l (SG m n)
  ·cases h
 ·cases h
theorem Yv[n:C7 P]{md:Bool}{op:Op}{q:Prop}{e:E}(h:cY n.T md f op=some (q,e))(i:q):AX P TB Z ⟨d,op,ty,pos,af,g⟩ f σ nx e:=by
 have a:=λt=>DU (P:=P) t n.ok;unfold cY at h;split at h
 ·split at h
  ·cases h
  ·exact CG (MR h)
 ·rename_i o t x y yt
  split at h
  ·rename_i b c
   unfold jI at h;split at h
   ·exact iI (a t) b c h
   ·exact lQ b c h i
  ·cases h
 ·rename_i s x k
  split at h
  ·rename_i j b
   haveI:=(a s).il j;exact kx b (MR h)
  ·cases h
 ·rename_i t x k
  split at h
  ·rename_i j b
   haveI:=(a t).eE j;exact lS b (MR h)
  ·cases h
 ·rename_i t x
  split at h
  ·rename_i p b
   haveI:=(a t).Ng p;exact lU b (MR h)
  ·cases h
 ·rename_i t x y
  split at h
  ·rename_i b c
   exact iv (a t) b c h i
  ·cases h
 ·rename_i x t
  split at h
  ·rename_i b
   exact iA (a t) b (MR h)
  ·cases h
 ·rename_i s t x
  split at h
  ·rename_i m l b
   exact hX (a s) (a t) m l b h i
  ·cases h
 ·split at h
  ·rename_i m
   split at h
   ·rename_i l
    injection h with h;injection h with _ h;subst h
    exact lR m l
   ·cases h
  ·cases h
 ·exact mW (MR h)
theorem Uw[i:C7 P]{op:Op}{c:Bool}(h:Uv i.T f op=some c):AX P TB Z ⟨d,op,ty,pos,af,g⟩ f σ nx (eB c):=by
 have e:=λt=>DU (P:=P) t i.ok;unfold Uv at h;split at h
 ·rename_i o t x y yt
  split at h
  ·rename_i a b
   split at h
   ·rename_i hb
    haveI:=(e t).eD hb;unfold mf at h;split at h
    ·injection h with h;subst h;exact kr a b
    ·injection h with h;subst h;exact kE a b
    ·cases h
   ·exact kq a b h
  ·cases h
 ·split at h
  ·rename_i a
   injection h with h;subst h
   exact kH a
  ·cases h
 ·cases h
theorem Pg[c:C7 P]{op:Op}{e:E}(h:Nr c.T σ f op=some e):AX P TB Z ⟨d,op,ty,pos,af,g⟩ f σ nx e:=by
 have a:=λt=>DU (P:=P) t c.ok;unfold Nr at h;split at h
 ·rename_i t x
  split at h
  ·rename_i k i
   split at h
   ·rename_i j
    split at h
    ·rename_i hk b
     have hk:=i8 hk;subst hk;haveI:=(a t).Ng k;rw [N9] at b;exact X6 i j b h
    ·cases h
   ·cases h
  ·cases h
 ·cases h
theorem Ph[c:C7 P]{t:TypeId}{x y:Operand}{σ':Ab}{K:E->Ab->Nat->Prop}(h:Ro c.T σ f t x y=some σ')(l:K (.t []) σ' nx):Cb P TB Z ⟨d,.store t x y,ty,pos,af,g⟩ f σ nx K:=by
 have a:=λt=>DU (P:=P) t c.ok;unfold Ro at h;split at h
 ·rename_i k i e
  split at h
  ·rename_i j
   split at h
   ·rename_i hk b
    split at h
    ·rename_i o n m
     have hk:=i8 hk;subst hk;haveI:=(a t).Ng k;rw [N9] at b
     injection h with h
     subst h;exact Ei i e o j b (i8 n) (am m) l
    ·cases h
   ·cases h
  ·cases h
 ·cases h
end
section
variable {P:Program}{TB:Bz}{Z:Ctx}{ops:Array Oper}{fl:Fl}{i n:Nat}{L:List (Nat×E)}{σ:Ab}{nx:Nat}{K:Env->Ab->Nat->Prop}{d:Tmp}{ty:TypeId}{pos:String}{af:Array Edge}{g:Option (Nat×Bool)}{op:Op}
theorem gA{d:Option Tmp}(a:BB ops ⟨d,op,ty,pos,af,g⟩ (look L)=some true)(h:Gu P TB Z ops ⟨d,op,ty,pos,af,g⟩ fl i n K L σ nx):Bh P TB Z ops ⟨d,op,ty,pos,af,g⟩ fl i n K L σ nx:=h a
theorem gS{x:E}(a:∀σ nx,AX P TB Z ⟨some d,op,ty,pos,af,g⟩ (look L) σ nx x)(h:Lex P TB Z ops (Av fl (i+1) n) K (look ((d,x)::L)) σ nx):Gu P TB Z ops ⟨some d,op,ty,pos,af,g⟩ fl i n K L σ nx:=λb=>CB a b h
theorem gQ{x:E}(a:AX P TB Z ⟨some d,op,ty,pos,af,g⟩ (look L) σ nx x)(c:RL (fl i)=true)(h:Lex P TB Z ops (Av fl (i+1) n) K (look ((d,x)::L)) σ nx):Gu P TB Z ops ⟨some d,op,ty,pos,af,g⟩ fl i n K L σ nx:=λb=>fq a b c h
theorem gB{c:Bool}(a:∀σ nx,AX P TB Z ⟨some d,op,ty,pos,af,g⟩ (look L) σ nx (eB c))(h:∀b,c=b->Lex P TB Z ops (Av fl (i+1) n) K (look ((d,eB b)::L)) σ nx):Gu P TB Z ops ⟨some d,op,ty,pos,af,g⟩ fl i n K L σ nx:=λe=>ZD a e h
theorem ml{c:Bool}(a:AX P TB Z ⟨some d,op,ty,pos,af,g⟩ (look L) σ nx (eB c))(f:RL (fl i)=true)(h:∀b,c=b->Lex P TB Z ops (Av fl (i+1) n) K (look ((d,eB b)::L)) σ nx):Gu P TB Z ops ⟨some d,op,ty,pos,af,g⟩ fl i n K L σ nx:=λe=>fq a e f (h c rfl)
theorem gW(h:Cb P TB Z ⟨some d,op,ty,pos,af,g⟩ (look L) σ nx (λx σ' nx'=>Lex P TB Z ops (Av fl (i+1) n) K (look ((d,x)::L)) σ' nx'))(b:fl i=1):Gu P TB Z ops ⟨some d,op,ty,pos,af,g⟩ fl i n K L σ nx:=λa=>JQ h a b
theorem mn(h:Cb P TB Z ⟨none,op,ty,pos,af,g⟩ (look L) σ nx (λ_ σ' nx'=>Lex P TB Z ops (Av fl (i+1) n) K (look L) σ' nx'))(b:fl i=1):Gu P TB Z ops ⟨none,op,ty,pos,af,g⟩ fl i n K L σ nx:=λa=>HK h a b
theorem yQ{md:Bool}[b:C7 P]{q:Prop}{x:E}(h:cY b.T md (look L) op=some (q,x))(a:q)(hk:Lex P TB Z ops (Av fl (i+1) n) K (look ((d,x)::L)) σ nx):Gu P TB Z ops ⟨some d,op,ty,pos,af,g⟩ fl i n K L σ nx:=gS (λ_ _=>Yv h a) hk
theorem yB[a:C7 P]{c:Bool}(h:Uv a.T (look L) op=some c)(hk:∀b,c=b->Lex P TB Z ops (Av fl (i+1) n) K (look ((d,eB b)::L)) σ nx):Gu P TB Z ops ⟨some d,op,ty,pos,af,g⟩ fl i n K L σ nx:=gB (λ_ _=>Uw h) hk
theorem yS[b:C7 P]{x:E}(h:Nr b.T σ (look L) op=some x)(a:RL (fl i)=true)(hk:Lex P TB Z ops (Av fl (i+1) n) K (look ((d,x)::L)) σ nx):Gu P TB Z ops ⟨some d,op,ty,pos,af,g⟩ fl i n K L σ nx:=gQ (Pg h) a hk
theorem yW[b:C7 P]{t:TypeId}{x y:Operand}{σ':Ab}(h:Ro b.T σ (look L) t x y=some σ')(a:fl i=1)(hk:Lex P TB Z ops (Av fl (i+1) n) K (look L) σ' nx):Gu P TB Z ops ⟨none,.store t x y,ty,pos,af,g⟩ fl i n K L σ nx:=mn (Ph h hk) a
theorem yO[b:C7 P]{T:TypeId}{z:List Value}(h:(JR b.T T).ze=some z)(a:z.all PM=true)(c:fl i=1)(e:Lex P TB Z ops (Av fl (i+1) n) K (look ((d,.o (.ptr nx z.length 0 0))::L)) ((nx,.cells T z.length [z.map zC])::σ) (nx+1)):Gu P TB Z ops ⟨some d,.alloc T,ty,pos,af,g⟩ fl i n K L σ nx:=
 haveI:=(DU (P:=P) T b.ok).bB h
 gW (fb a e) c
theorem yM[a:C7 P]{t:TypeId}{x:Operand}{id k i' j:Nat}{T:TypeId}{rows:List (List C)}{r:List C}{e:E}{ag:Bool}{m:Nat}(b:ev (look L) x=some (.o (.ptr id k i' j)))(f:look σ id=some (.cells T k rows))(c:rows[i']? = some r)(l:(JR a.T t).ld=some (ag,m))
 (h:ix ag m j r=some e) (p:RL (fl i)=true) (hk:Lex P TB Z ops (Av fl (i+1) n) K (look ((d,e)::L)) σ nx):Gu P TB Z ops ⟨some d,.load t x,ty,pos,af,g⟩ fl i n K L σ nx:=
 haveI:=(DU (P:=P) t a.ok).Ng l
 gQ (X6 b f c h) p hk
theorem yV[b:C7 P]{t:TypeId}{x y:Operand}{id k i' j m:Nat}{T:TypeId}{rows:List (List C)}{r:List C}{e:E}{ag:Bool}(d:ev (look L) x=some (.o (.ptr id k i' j)))(c:ev (look L) y=some e)(h:TC e=true)(a:look σ id=some (.cells T k rows))(f:rows[i']? = some r)
 (p:(JR b.T t).ld=some (ag,m)) (l:(eC e).length=m) (q:Nat.ble (j+m) k=true) (s:fl i=1) (hk:Lex P TB Z ops (Av fl (i+1) n) K (look L) ((id,.cells T k (rows.set i' (Ae r j (eC e))))::σ) nx):Gu P TB Z ops ⟨none,.store t x y,ty,pos,af,g⟩ fl i n K L σ nx:=
 haveI:=(DU (P:=P) t b.ok).Ng p
 mn (Ei d c h a f l (am q) hk) s
theorem m7[a:C7 P]{α:Type}{t e:TypeId}{x:Operand}{l:List α}{h:α->List D}{k b:Nat}(c:ev (look L) x=some (.o (.d (.l (l.map h)))))(f:(JR a.T t).sl=some (e,k,b))(hk:Lex P TB Z ops (Av fl (i+1) n) K (look ((d,eI .i64 l.length)::L)) σ nx):Gu P TB Z ops ⟨some d,.call ⟨.builtin .len,#[x],#[t]⟩,ty,pos,af,g⟩ fl i n K L σ nx:=
 haveI:=(DU (P:=P) t a.ok).TP f
 gS (λ_ _=>iR c) hk
theorem yL[a:C7 P]{t e:TypeId}{x y:Operand}{rows:List (List D)}{row:List D}{m:Int}{k b:Nat}{ik:IntKind}(f:ev (look L) x=some (.o (.d (.l rows))))(c:ev (look L) y=some (eI ik m))(h:rows[m.toNat]? = some row)(p:(JR a.T t).sl=some (e,k,b))(j:row.length=k)(q:0<=m)
 (hk:Lex P TB Z ops (Av fl (i+1) n) K (look ((d,.o (.ip row))::L)) σ nx):Gu P TB Z ops ⟨some d,.indexAddr t x y,ty,pos,af,g⟩ fl i n K L σ nx:=
 haveI:=(DU (P:=P) t a.ok).TP p
 gS (λ_ _=>cL f c q h j) hk
theorem yT[a:C7 P]{t:TypeId}{x y:Operand}{s:List UInt8}{m:Int}{c:UInt8}{ik:IntKind}(e:ev (look L) x=some (eT s))(b:ev (look L) y=some (eI ik m))(h:s[m.toNat]? = some c)(f:(JR a.T t).st=true)(j:0<=m)
 (hk:Lex P TB Z ops (Av fl (i+1) n) K (look ((d,eI .u8 (c.toNat:Int))::L)) σ nx):Gu P TB Z ops ⟨some d,.index t x y,ty,pos,af,g⟩ fl i n K L σ nx:=
 haveI:=(DU (P:=P) t a.ok).bA f
 gS (λ_ _=>cP e b j h) hk
def lW(k m:Nat)(z:List Value)(es:List E):Option (List (List D)):=match es.all TC,PF es with
 | true,some rows=>match rows.all λr=>Nat.beq r.length k,Nat.beq z.length k,z.all PM,Nat.ble 1 k,Nat.ble (m*k) 16777216 with
  | true,true,true,true,true=>some rows
  | _,_,_,_,_=>none
 | _,_=>none
theorem yZ[c:C7 P]{t e:TypeId}{k b m:Nat}{z:List Value}{parts:Array (Nat×Operand)}{es:List E}{rows:List (List D)}(r:(JR c.T t).sl=some (e,k,b))(j:(JR c.T e).ze=some z)(p:Dr 0 (parts.toList.map (·.2))=parts.toList)(q:parts.toList.length=m)
 (f:JP (look L) (parts.toList.map (·.2))=some es) (a:lW k m z es=some rows)
 (h:Lex P TB Z ops (Av fl (i+1) n) K (look ((d,.o (.d (.l rows)))::L)) σ nx):Gu P TB Z ops ⟨some d,.buildSlice t m parts,ty,pos,af,g⟩ fl i n K L σ nx:=by
 haveI:=(DU (P:=P) t c.ok).TP r;haveI:=(DU (P:=P) e c.ok).bB j;unfold lW at a;split at a
 ·rename_i A y
  split at a
  ·rename_i x w v u s
   injection a with a
   subst a;exact gS (λ_ _=>Pc p q f A y x (i8 w) v u s) h
  ·cases a
 ·cases a
theorem yY{T:TypeId}{x:Operand}{e:E}{ds:List D}(a:ev (look L) x=some e)(b:TC e=true)(c:Qo (eC e)=some ds)(h:Lex P TB Z ops (Av fl (i+1) n) K (look ((d,.o (.ip ds))::L)) σ nx):Gu P TB Z ops ⟨some d,.box T x,ty,pos,af,g⟩ fl i n K L σ nx:=gS (λ_ _=>C4 a b c) h
def ff:Nat->List (Nat×Operand)->Bool
 | _,[]=>true
 | k,(i,_)::r=>Nat.beq i k && ff (k+1) r
theorem XS:∀(l:List (Nat×Operand)) (k:Nat),ff k l=true->Dr k (l.map (·.2))=l
 | [],_,_=>rfl
 | (i,x)::r,k,h=>by
  unfold ff at h;rw [d4] at h;have a:=i8 h.1;subst a;have:=XS r (i+1) h.2;simp [Dr,this]
def fi(c:Nat):Option E->Bool
 | some (.o (.ptr id _ _ _))=>RL c || (Nat.beq c (10+id) && !Nat.ble 1000 c)
 | _=>RL c
theorem cZ{T:List (Nat×TI)}{σ σ':Ab}{f:Env}{t:TypeId}{x:Operand}{id k i j:Nat}(a:ev f x=some (.o (.ptr id k i j)))(h:look σ' id=look σ id):Nr T σ' f (.load t x)=Nr T σ f (.load t x):=by
 unfold Nr;simp only [a]
 cases (JR T t).ld with
 | none=>rfl
 | some p=>obtain⟨ag,n⟩:=p;simp only [h]
def Yu(T:List (Nat×TI))(sl:Bool)(c nx:Nat)(σ:Ab)(L:List (Nat×E)):Option Tmp->Op->Option (List (Nat×E)×Ab×Nat)
 | some d,.alloc t=>match Nat.beq c 1,(JR T t).ze with
  | true,some z=>match z.all PM with
   | true=>some ((d,.o (.ptr nx z.length 0 0))::L,(nx,.cells t z.length [z.map zC])::σ,nx+1)
   | false=>none
  | _,_=>none
 | none,.store t x y=>match Nat.beq c 1,Ro T σ (look L) t x y with
  | true,some σ'=>some (L,σ',nx)
  | _,_=>none
 | some d,.load t x=>match fi c (ev (look L) x),Nr T σ (look L) (.load t x) with
  | true,some e=>some ((d,e)::L,σ,nx)
  | _,_=>none
 | some d,.box _ x=>match sl,ev (look L) x with
  | true,some e=>match TC e,Qo (eC e) with
   | true,some ds=>some ((d,.o (.ip ds))::L,σ,nx)
   | _,_=>none
  | _,_=>none
 | some d,.buildSlice t m parts=>match sl,(JR T t).sl with
  | true,some (e,k,_)=>match (JR T e).ze,JP (look L) (parts.toList.map (·.2)) with
   | some z,some es=>match lW k m z es,ff 0 parts.toList,Nat.beq parts.toList.length m with
    | some rows,true,true=>some ((d,.o (.d (.l rows)))::L,σ,nx)
    | _,_,_=>none
   | _,_=>none
  | _,_=>none
 | _,_=>none
theorem yU[o:C7 P]{sl:Bool}{d:Option Tmp}{L':List (Nat×E)}{σ':Ab}{nx':Nat}(h:Yu o.T sl (fl i) nx σ L d op=some (L',σ',nx'))(hk:Lex P TB Z ops (Av fl (i+1) n) K (look L') σ' nx'):Gu P TB Z ops ⟨d,op,ty,pos,af,g⟩ fl i n K L σ nx:=by
 unfold Yu at h;split at h
 ·split at h
  ·rename_i a b
   split at h
   ·rename_i j
    injection h with h;injection h with f h;injection h with e c;subst f;subst e;subst c
    exact yO b j (i8 a) hk
   ·cases h
  ·cases h
 ·split at h
  ·rename_i a b
   injection h with h;injection h with f h;injection h with e c;subst f;subst e;subst c
   exact yW b (i8 a) hk
  ·cases h
 ·split at h
  ·rename_i a b
   injection h with h;injection h with f h;injection h with e c;subst f;subst e;subst c
   unfold fi at a;split at a
   ·rename_i l
    rw [nq] at a
    rcases a with a|a
    ·exact yS b a hk
    ·rw [d4] at a
     have j:=i8 a.1;refine λm=>kk (λσ' nx' k=>Pg (by rw [j,Nat.add_sub_cancel_left] at k;rw [cZ (σ:=σ) (σ':=σ') l k];exact b)) m ⟨pM (by omega),by simpa using a.2⟩ hk
   ·exact yS b a hk
  ·cases h
 ·split at h
  ·rename_i a
   split at h
   ·rename_i b j
    injection h with h;injection h with f h;injection h with e c;subst f;subst e;subst c
    exact yY a b j hk
   ·cases h
  ·cases h
 ·split at h
  ·rename_i a
   split at h
   ·rename_i b j
    split at h
    ·rename_i r q p
     injection h with h;injection h with f h;injection h with e c;subst f;subst e;subst c
     exact yZ a b (XS _ _ q) (i8 p) j r hk
    ·cases h
   ·cases h
  ·cases h
 ·cases h
theorem yP{x:Operand}{args:Array Operand}{tys:Array TypeId}{gg:FuncId}{cap:List C}{es:List E}{r:E}(b:ev (look L) x=some (.o (.fn gg cap)))(a:JP (look L) args.toList=some es)(f:(es.all E.Cj && C.Dg cap)=true)
 (c:Pure P TB gg (es++cap.map .o) r) (e:r.Cj=true) (h:Lex P TB Z ops (Av fl (i+1) n) K (look ((d,r)::L)) σ nx):Gu P TB Z ops ⟨some d,.call ⟨.value x,args,tys⟩,ty,pos,af,g⟩ fl i n K L σ nx:=gS (λ_ _=>Bt b a f c e) h
theorem yC{x:Operand}{args:Array Operand}{tys:Array TypeId}{gg:FuncId}{cap:List C}{es:List E}{c:Bool}(e:ev (look L) x=some (.o (.fn gg cap)))(a:JP (look L) args.toList=some es)(j:(es.all E.Cj && C.Dg cap)=true)
 (f:Pure P TB gg (es++cap.map .o) (eB c)) (h:∀b,c=b->Lex P TB Z ops (Av fl (i+1) n) K (look ((d,eB b)::L)) σ nx):Gu P TB Z ops ⟨some d,.call ⟨.value x,args,tys⟩,ty,pos,af,g⟩ fl i n K L σ nx:=gB (λ_ _=>Bt e a j f rfl) h
theorem yG{d:Option Tmp}{j t:Nat}{w b:Bool}(f:(ops[j]?).bind (·.dst)=some t)(e:look L t=some (eB b))
 (a:b=true->Lex P TB Z ops (Av fl i (n+1)) K (look L) σ nx) (c:b=false->Lex P TB Z ops (Av fl i (n+1)) K (look L) σ nx):Bh P TB Z ops ⟨d,op,ty,pos,af,some (j,w)⟩ fl i n K L σ nx:=by
 intro _;cases b
 ·exact c rfl
 ·exact a rfl
end
end Go.Am
namespace Go.Am
open Go Go.ChangeShapes Go.WideShapes Go.RowKit
def below(w:World)(b:Nat):Prop:=b < w.heap.size
def Rd{α:Type}(P:Program)(w:World)(t:TypeId)(k:Nat)(f:α->List D):Prop:=
 ∀ {H:Type} (enc:TypeId×Value->H) (fuel:Nat) (cs:List Value) (x:DataW H×List MemPlace),DataW.trod enc P w 0 (λ_=>true) true fuel t cs=some x->
  ∃y:α,cs.length=k/\(f y).length=k/\∀(j:Nat) c d,cs[j]? = some c->(f y)[j]? = some d->Dd (below w) w d c
section
variable {P:Program}{w:World}{t e:TypeId}{k:Nat}
theorem Lo{f:Value}{e:D}(h:Dd (below w) w e f):∀(j:Nat) c d,[f][j]? = some c->[e][j]? = some d->Dd (below w) w d c:=by
 intro j c d a b
 match j with
 | 0=>simp at a b;subst a;subst b;exact h
 | j+1=>simp at a
theorem mu(ht:P.underlying t=some (.int .u8)):Rd P w t 1 (λn:UInt8=>[.v (.int .u8 n.toNat)]):=λenc fuel cs x a=>by
 obtain⟨n,rfl,_,b⟩:=DataW.trod_int ht a;have hb:=bounds_u8 b;refine⟨UInt8.ofNat n.toNat,rfl,rfl,Lo ?_⟩
 have:((UInt8.ofNat n.toNat).toNat:Int)=n:=by
  simp;omega
 rw [this];exact .v rfl
theorem Qw{a:Addr}{n:Nat}{cs:List Value}(h:w.cells? 0 a n=some cs):cs.length=n/\∀(j:Nat) c,cs[j]? = some c->w.cell? (a.add j)=some c:=by
 unfold World.cells? at h;rw [if_pos (nR _)] at h;have b:=mapM_some_length h;simp at b;refine⟨b,λj c d=>?_⟩;have e:=(ce.1 d).1;have:=mapM_some_get h j j (by rw [pC (by omega)]);rw [this];exact d
theorem kN{α:Type}{f:α->List D}(ht:P.underlying t=some (.slice e))(hk:P.cellsOf e=k)(h0:0 < k)(hf:Rd P w e k f):Rd P w t 1 (λl:List α=>[.l (l.map f)]):=λenc fuel cs x hx=>by
 rcases DataW.trod_slice ht hx with ⟨rfl,_⟩|⟨a,len,cap,elems,rest,n,rfl,rfl,_,_,Q,I,hel,q,_,_⟩
 ·exact⟨[],rfl,rfl,Lo .nil⟩
 ·rw [hk] at q
  rcases nV len with A|A
  ·subst A
   exact⟨[],rfl,rfl,Lo (.e I)⟩
  have key:∀i,i < len->∃(y:α) (cs:List Value),w.cells? 0 (a.add (i*k)) k=some cs/\cs.length=k/\(f y).length=k/\∀(j:Nat) c d,cs[j]? = some c->(f y)[j]? = some d->Dd (below w) w d c:=by
   intro i hi;have F:=q i hi
   have R:i < elems.length:=by omega
   rw [d6 R] at F;simp only [nh] at F;obtain⟨cs,B,h3⟩:=F;obtain⟨y,L,K,U⟩:=hf enc n cs _ h3;exact⟨y,cs,B,L,K,U⟩
  obtain⟨b,o,rfl,hb⟩:∃b o,a=⟨b,o,none⟩/\b < w.heap.size:=by
   obtain⟨y,cs,B,L,_,_⟩:=key 0 A;have p:=(Qw B).2 0 (cs[0]'(by omega)) (by simp);rw [oN] at p
   have X:∀a:Addr,a.add 0=a:=λa=>by simp [Addr.add]
   rw [X,X] at p;unfold World.cell? at p;obtain⟨b,o,sp⟩:=a;split at p
   ·rename_i c _ _ hh
    split at p
    ·cases p
    ·rename_i hs
     cases sp with
     | none=>exact⟨b,o,rfl,(nu.1 hh).1⟩
     | some s=>simp at hs
   ·cases p
  have v:∀m,m<=len->∃l:List α,l.length=m/\∀(i:Nat) y,l[i]? = some y->(f y).length=k/\∀(j:Nat) d,(f y)[j]? = some d->∃c,w.cell? ⟨b,o+i*k+j,none⟩=some c/\Dd (below w) w d c:=by
   intro m
   induction m with
   | zero=>intro _;exact⟨[],rfl,λi y h=>by simp at h⟩
   | succ m Y=>
    intro hm;obtain⟨l,G,g⟩:=Y (by omega);obtain⟨y,cs,B,L,K,U⟩:=key m (by omega);refine⟨l++[y],by simp [G],λi z u=>?_⟩;by_cases hi:i < l.length
    ·rw [f7 hi] at u;exact g i z u
    ·rw [gc (by omega)] at u
     have S:i=m:=by
      have:=(ce.1 u).1;simp at this;omega
     subst S;rw [G,Nat.sub_self] at u;simp at u;subst u;refine⟨K,λj d V=>?_⟩
     have H:j < cs.length:=by rw [L,<-K];exact(ce.1 V).1
     have p:=(Qw B).2 j cs[j] (d6 H);rw [BF,BF] at p;exact⟨cs[j],p,U j _ d (d6 H) V⟩
  obtain⟨l,G,g⟩:=v len (jp _);refine⟨l,rfl,rfl,Lo ?_⟩
  have N:(l.map f).length=len:=by simp [G]
  rw [<-N];refine .l (b:=b) (o:=o) (k:=k) (vs:=λi j=>(w.cell? ⟨b,o+i*k+j,none⟩).getD undef) hb (by simpa [G] using Q) I (λi r J=>?_) (λi r j d J T=>?_) (λi r j d J T=>?_)
  all_goals
   rw [i9,d7] at J;obtain⟨y,M,rfl⟩:=J
  ·exact(g i y M).1
  ·obtain⟨c,F,_⟩:=(g i y M).2 j d T
   rw [F];rfl
  ·obtain⟨c,F,B⟩:=(g i y M).2 j d T
   rw [F];exact B
end
def Xw(w:World):View:=⟨below w,id,λ_=>0,λ_=>True,0,w⟩
section
variable {P:Program}{w:World}{t:TypeId}{k:Nat}{H:Type}{enc:TypeId×Value->H}
theorem jG{α:Type}{f:α->List D}{e:TypeId}(ht:P.underlying t=some (.slice e))(h:Rd P w t 1 (λl:List α=>[.l (l.map f)])){v:Value}{d:DataW H}{ps:List MemPlace}{base:Nat}(a:Value.okWide P w .any base t v)(g:DataW.Trod enc P w 0 (λ_=>true) true t v d ps) :
 ∃l:List α,Bl (Xw w) (.o (.d (.l (l.map f)))) v:=by
 obtain⟨m,c⟩:=g;obtain⟨l,j,i,b⟩:=h enc m _ _ c;refine⟨l,?_⟩
 have:v.cells.toList=[v]:=by
  unfold Value.okWide Cell.okWide Cell.ok at a;simp only [ht] at a;split at a<;>simp_all [Value.cells]
 rw [this] at b;exact .d (b 0 v _ rfl rfl)
structure HX (W W':World):Prop where
 os:W'.os=W.os
 output:W'.output=W.output
 size:W.heap.size<=W'.heap.size
 old:∀b,b < W.heap.size->W'.heap[b]? = W.heap[b]?
theorem HX.sameAt{W W':World}(h:HX W W'){p:MemPlace}(a:p.block < W.heap.size):W.sameAt W' p:=by
 cases p with
 | cell b off=>show W'.cell? _=W.cell? _;simp only [World.cell?,h.old b a]
 | map b=>exact h.old b a
theorem HX.kept{W W':World}(h:HX W W')(may:MemPlace->Prop):W.keptBut W' may:=by
 refine⟨h.os,h.output,λi hi=>?_⟩;rw [h.old i hi];split
 ·rename_i d a
  rw [d] at a
  injection a with a;injection a with b c e
  exact⟨c.symm,e.symm,by rw [b],λj _=>by rw [b]⟩
 ·rename_i d a
  rw [d] at a
  injection a with a;injection a with b c
  exact .inr ⟨b.symm,c.symm⟩
 ·rfl
theorem LN{W W':World}(c:laidOutB P=true)(h:HX W W'){sp:Nat->Bool}:∀ {ts:List TypeId} {vs:List Value} {ds:List (DataW H)} {ps:List MemPlace},(ts.all λt=>P.readableRec t && decide (t < P.types.size))=true->
 DataW.TrodAll enc P W 0 (λ_=>true) true ts vs ds ps->(∀p∈ps,p.block < W.heap.size)->(∀p∈ps,sp p.block=true)->DataW.TrodAll enc P W' 0 sp true ts vs ds ps
 | [],vs,ds,ps,_,b,_,_=>by obtain⟨rfl,rfl,rfl⟩:=trodAll_nil b;exact rfl
 | t::ts,vs,ds,ps,ha,b,f,e=>by
  obtain⟨v,vs',d,ds',p,q,rfl,rfl,rfl,i,g⟩:=trodAll_cons b;simp only [List.all_cons,d4,decide_eq_true_eq] at ha;refine⟨p,q,Go.WideElems.Trod_stays c ha.1.1 ha.1.2 i (λx a=>h.sameAt (f x (nw _ a))) (λx a=>e x (nw _ a)),LN c h (by simpa using ha.2) g (λx a=>f x (nC _ a)) (λx a=>e x (nC _ a)),rfl⟩
theorem ju{f:Func}{s:ChangeSpec}{again:Bool}{W W':World}{args:Array Value}{ds gs:List (DataW H)}{before:List MemPlace}{tb:TypeId}(F:laidOutB P=true)(l:(f.params.toList.all λt=>P.readableRec t && decide (t < P.types.size))=true)
 (u:DataW.Whole enc P f.params.toList s.vars false W args.toList ds gs before) (n:HX W W') (v:s.vars=[]) (w:f.resultTypes = #[tb]) (i:P.underlying tb=some .bool) (e:(Value.bool true).resultList 1=[.bool true])
 (h:s.fn H (ds++gs) = { results:=[.lit (.bool true)],args:=ds }):s.post enc P f false true false again W args (.bool true) W':=by
 have g:=u.lt;have r:=u;obtain⟨p,q,G,z,y,A,K⟩:=u;rw [v] at z;obtain⟨rfl,rfl⟩:=trodVars_none z;rw [nO] at y;subst y
 have d:∀(b:Nat) (sp:Nat->Bool) (o:Bool),DataW.TrodAll enc P W' b sp o f.resultTypes.toList ((Value.bool true).resultList f.resultTypes.size) (s.fn H (ds++[])).results []:=λb sp o=>by
  rw [w,h]
  show DataW.TrodAll enc P W' b sp o [tb] ((Value.bool true).resultList 1) [.lit (.bool true)] []
  rw [e];exact trodAll_mk1 (RowKit.shut_bool i true)
 have c:∀sp:Nat->Bool,(∀x∈before,sp x.block=true)->DataW.TrodAll enc P W' 0 sp true f.params.toList args.toList (s.fn H (ds++[])).args before:=λsp m=>by
  rw [h];exact LN F n l G g m
 have a:∀sp:Nat->Bool,DataW.TrodVars enc P W' sp s.vars (s.fn H (ds++[])).vars []:=λsp=>by
  rw [v,h];exact rfl
 refine⟨ds,[],before,[],before,[],r,d _ _ _,c _ λx k=>by simpa using g x k,a _,n.kept _,λ_=>?_⟩;refine⟨ok_one w e (okWide_bool_mk i true),_,_,([]++before)++[],⟨[]++before,[],trodAll_append (c _ (λ_ _=>rfl)) (d _ _ _),a _,rfl,?_,λha=>by cases ha⟩,λx k _=>by simpa using k⟩;intro b off B
 have j:MemPlace.cell b off∈before:=by simpa using B
 have J:=A b off j;have I:b < W.heap.size:=g _ j
 simpa [World.frozen?,n.old b I] using J
end
end Go.Am
namespace Go.Am
open Go
def AV(s:Int)(n:Nat):Bool:=decide (FW .i64 (s.fdiv (2 ^ min n 64)) 1=1)
def hasB(s n:Int):Bool:=decide (0<=n) && AV s n.toNat
def A7(n:Int):Bool:=decide (0<=n/\n<=63)
abbrev iD(n:Int):D:=.v (.int .i64 n)
abbrev bD(b:Bool):D:=.v (.bool b)
abbrev tD(s:List UInt8):D:=.v (.string ⟨s.toArray⟩)
abbrev Bq(n:Int):List D:=[iD n]
abbrev IQ(b:Bool):List D:=[bD b]
abbrev CN(s:List UInt8):List D:=[tD s]
abbrev E5(l:List Int):D:=.l (l.map Bq)
abbrev E4(l:List Bool):D:=.l (l.map IQ)
abbrev BW(l:List (List UInt8)):D:=.l (l.map CN)
abbrev AD(n:Int):List C:=[.d (iD n)]
abbrev AS(b:Bool):List C:=[.d (bD b)]
abbrev Ed(s:List UInt8):List C:=[.d (tD s)]
abbrev EL(l:List Int):List D:=[E5 l]
abbrev CW(l:List (List Int)):D:=.l (l.map EL)
abbrev VM(l:List Int):List C:=[.d (E5 l)]
abbrev Kh(l:List (List Int)):List D:=[CW l]
abbrev eK(l:List (List (List Int))):D:=.l (l.map Kh)
structure DW where
 f:Int
 l:Int
 t:Int
 deriving DecidableEq
structure Sys where
 al:Int
 st:Int
 es:List DW
structure AZ where
 al:Int
 nx:List (List Int)
 ac:List Bool
abbrev Df(e:DW):List D:=[iD e.f,iD e.l,iD e.t]
abbrev A9(e:DW):List C:=[.d (iD e.f),.d (iD e.l),.d (iD e.t)]
abbrev VG(e:DW):E:=.a [.d (iD e.f),.d (iD e.l),.d (iD e.t)]
abbrev Eo(l:List DW):D:=.l (l.map Df)
abbrev AI(s:Sys):List D:=[iD s.al,iD s.st,Eo s.es]
abbrev Bv(s:Sys):E:=.a [.d (iD s.al),.d (iD s.st),.d (Eo s.es)]
abbrev Jj(l:List Sys):D:=.l (l.map AI)
abbrev AL(a:AZ):List D:=[iD a.al,CW a.nx,E4 a.ac]
abbrev Bi(a:AZ):E:=.a [.d (iD a.al),.d (CW a.nx),.d (E4 a.ac)]
abbrev Vy(l:List AZ):D:=.l (l.map AL)
abbrev Ak(l:List Int):E:=.o (.d (E5 l))
abbrev OE(l:List Bool):E:=.o (.d (E4 l))
abbrev FU(l:List (List Int)):E:=.o (.d (CW l))
abbrev BO(l:List (List UInt8)):E:=.o (.d (BW l))
abbrev gj(l:List DW):E:=.o (.d (Eo l))
abbrev GC(l:List Sys):E:=.o (.d (Jj l))
def AM(s:Int)(k:Nat):List Int:=((List.range k).filter (AV s)).map Int.ofNat
theorem AK(s:Int)(k:Nat):(AM s k).length<=k:=by
 unfold AM;rw [gt];exact li (oP _ _) (by simp)
theorem C1(s:Int)(k:Nat):AM s (k+1)=AM s k++if AV s k then [(k:Int)] else []:=by
 unfold AM;rw [oU,oq,nY];cases h:AV s k<;>simp [h]
abbrev Ac(s:Int):List Int:=AM s 6
def Dy(al st:Int)(e:DW):Bool:=decide (0<=e.f/\e.f < st/\0<=e.t/\e.t < st/\0<=e.l/\e.l < 6) && AV al e.l.toNat
def JO(e f:DW):Bool:=if e.f≠f.f then decide (e.f < f.f) else if e.l≠f.l then decide (e.l < f.l) else decide (e.t < f.t)
def Jk(s:Sys)(i:Nat):Bool:=match s.es[i]? with
 | none=>true
 | some e=>Dy s.al s.st e && match i with
  | 0=>true
  | j+1=>match s.es[j]? with
   | none=>true
   | some p=>JO p e
def AU(s:Sys):Bool:=A7 s.al && decide (1<=s.st/\s.st<=16) && (List.range s.es.length).all (Jk s)
theorem GA{α:Type}{l:List α}{f:α->Bool}{k:Nat}{x:α}(h:l[k]? = some x)(b:(l.take k).all f=true)(a:f x=true):(l.take (k+1)).all f=true:=by
 rw [d8,h];simp [List.all_append,b,a]
theorem HY{α:Type}{l:List α}{f:α->Bool}{k:Nat}{x:α}(h:l[k]? = some x)(a:f x=false):l.all f=false:=by
 rw [qK];exact⟨x,co h,by simp [a]⟩
theorem Gz{α:Type}{l:List α}{f:α->Bool}{k:Nat}(h:(l.take k).all f=true)(hk:l.length<=k):l.all f=true:=by
 rwa [ge hk] at h
theorem get_map{α β:Type}{l:List α}{g:α->β}{k:Nat}{x:α}(h:l[k]? = some x):(l.map g)[((k:Nat):Int).toNat]? = some (g x):=by simp [h]
theorem get_some{α:Type}{l:List α}{k:Nat}(h:k < l.length):∃x,l[k]? = some x:=⟨_,d6 h⟩
def SM(n:Int)(q:Int):Bool:=decide (0<=q/\q < n)
def Gb(ls n:Int)(row:List Int):Bool:=decide ((row.length:Int)=ls) && row.all (SM n)
def AP(a:AZ):Bool:=A7 a.al && decide (1<=a.nx.length/\a.nx.length<=12) && decide (a.ac.length=a.nx.length) && a.nx.all (Gb (Ac a.al).length a.nx.length)
end Go.Am
