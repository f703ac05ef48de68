/-
  The steps of a walk, few and short: what an operation gives is reckoned.
-/
import Derived.Test.YtdipaikojjjebaaGreatDoorPart10
set_option linter.all false
namespace Go.Am
open Go
class SE (P:Program) (t:TypeId):Prop where
 out:P.underlying t=some .bool
theorem oA{p:Prop}[Decidable p]:(decide p=true)=p:=decide_eq_true_eq
theorem oB{p:Prop}[Decidable p]:decide p=false↔¬p:=decide_eq_false_iff_not
theorem oC{α β:Type}{l:List α}{f:α->β}:(l.map f).length=l.length:=gt f
theorem oD{α:Type}{l m:List α}:(l++m).length=l.length+m.length:=rW
theorem oE{α:Type}{n:Nat}{x:α}:(List.replicate n x).length=n:=uB
theorem oF{α:Type}{x:α}{l:List α}:(x::l).length=l.length+1:=rO
theorem oG{α:Type}:([]:List α).length=0:=uI
theorem oZ:(∀(p:Prop) [Decidable p],(decide p=true)=p)/\(∀(p:Prop) [Decidable p],decide p=false↔¬p)/\(∀(α β:Type) (l:List α) (f:α->β),(l.map f).length=l.length)/\(∀(α:Type) (l m:List α),(l++m).length=l.length+m.length)/\(∀(α:Type) (n:Nat) (x:α),(List.replicate n x).length=n)/\(∀(α:Type) (x:α) (l:List α),(x::l).length=l.length+1)/\∀(α:Type),([]:List α).length=0:=
 ⟨λ_ _=>oA,λ_ _=>oB,λ_ _ _ _=>oC,λ_ _ _=>oD,λ_ _ _=>oE,λ_ _ _=>oF,λ_=>oG⟩
structure TI where
 ld:Option (Bool×Nat):=none
 ik:Option IntKind:=none
 st:Bool:=false
 sl:Option (Nat×Nat×Nat):=none
 ar:Option (Nat×Nat):=none
 fl:List (Option (Nat×Bool×Nat)):=[]
 pt:Bool:=false
 bo:Bool:=false
 ze:Option (List Value):=none
def Un(P:Program)(t:Nat):Nat->List (Option (Nat×Bool×Nat))->Prop
 | _,[]=>True
 | k,none::r=>Un P t (k+1) r
 | k,some x::r=>(bH P t k=some x.1/\bI P t k=some x)/\Un P t (k+1) r
structure E5 (P:Program) (t:Nat) (i:TI):Prop where
 ld:i.ld=none\/lO P t=i.ld
 ik:i.ik=none\/P.underlying t=i.ik.map .int
 st:i.st=false\/P.underlying t=some .string
 sl:i.sl=none\/kK P t=i.sl
 ar:i.ar=none\/nj P t=i.ar
 fl:Un P t 0 i.fl
 pt:i.pt=false\/∃e,P.underlying t=some (.pointer e)
 bo:i.bo=false\/P.underlying t=some .bool
 ze:i.ze=none\/dn P t=i.ze
def YY(P:Program):List (Nat×TI)->Prop
 | []=>True
 | (t,i)::r=>E5 P t i/\YY P r
def pZ:Value->Value->Bool
 | .int k n,.int k' n'=>decide (k=k') && decide (n=n')
 | .bool a,.bool b=>decide (a=b)
 | .string ⟨⟨a⟩⟩,.string ⟨⟨b⟩⟩=>a.isEmpty && b.isEmpty
 | .slice none 0 0,.slice none 0 0=>true
 | .pointer none,.pointer none=>true
 | .map none,.map none=>true
 | .nilFunc,.nilFunc=>true
 | .nilIface,.nilIface=>true
 | _,_=>false
theorem mO:∀ {a b:Value},pZ a b=true->a=b:=by
 intro a b h;unfold pZ at h;split at h<;>simp_all
def ph:List Value->List Value->Bool
 | [],[]=>true
 | a::l,b::m=>pZ a b && ph l m
 | _,_=>false
theorem iu:∀ {l m:List Value},ph l m=true->l=m
 | [],[],_=>rfl
 | a::l,b::m,h=>by
  unfold ph at h;rw[d4]at h;rw[mO h.1,iu h.2]
 | [],_::_,h=>by cases h
 | _::_,[],h=>by cases h
def nB(P:Program)(t:Nat):Nat->List (Option (Nat×Bool×Nat))->Bool
 | _,[]=>true
 | k,none::r=>nB P t (k+1) r
 | k,some x::r=>decide (bH P t k=some x.1) && decide (bI P t k=some x) && nB P t (k+1) r
theorem Xu{P:Program}{t:Nat}:∀ {l:List (Option (Nat×Bool×Nat))} {k:Nat},nB P t k l=true->Un P t k l
 | [],_,_=>trivial
 | none::r,k,h=>Xu (l:=r) (k:=k+1) h
 | some x::r,k,h=>by
  unfold nB at h;simp only[d4,decide_eq_true_eq]at h;exact⟨h.1,Xu h.2⟩
def qq(d:Option TypeDesc)(i:TI):Bool:=match d with
 | some (.int k)=>(match i.ik with|none=>true|some k'=>decide (k=k')) && !i.st && !i.pt && !i.bo
 | some .string=>i.ik.isNone && !i.pt && !i.bo
 | some (.pointer _)=>i.ik.isNone && !i.st && !i.bo
 | some .bool=>i.ik.isNone && !i.st && !i.pt
 | _=>i.ik.isNone && !i.st && !i.pt && !i.bo
def pS(P:Program)(t:Nat)(i:TI):Bool:=
 (i.ld.isNone || decide (lO P t=i.ld)) && (qq (P.underlying t) i && ((i.sl.isNone || decide (kK P t=i.sl)) && ((i.ar.isNone || decide (nj P t=i.ar)) && (nB P t 0 i.fl && match i.ze with
  | none=>true
  | some l=>match dn P t with
   | some l'=>ph l' l
   | none=>false))))
theorem or_none{α:Type}[DecidableEq α]{a b:Option α}(h:(b.isNone || decide (a=b))=true):b=none\/a=b:=by
 rw[qW]at h
 rcases h with h|h
 ·left;cases b<;>simp_all
 ·right;exact of_decide_eq_true h
theorem mH{P:Program}{t:Nat}{i:TI}(h:pS P t i=true):E5 P t i:=by
 unfold pS at h;simp only[d4]at h;obtain⟨o,f,n,m,j,b⟩:=h
 have a:(i.ik=none\/P.underlying t=i.ik.map .int)/\(i.st=false\/P.underlying t=some .string)/\(i.pt=false\/∃e,P.underlying t=some (.pointer e))/\(i.bo=false\/P.underlying t=some .bool):=by
  unfold qq at f;split at f
  ·rename_i k hk
   cases g:i.ik<;>simp_all
  all_goals simp_all
 refine⟨or_none o,a.1,a.2.1,or_none n,or_none m,Xu j,a.2.2.1,a.2.2.2,?_⟩;split at b
 ·rename_i d;exact .inl d
 ·rename_i l d
  split at b
  ·rename_i l' c
   right;rw[c,d,iu b]
  ·cases b
def kW(P:Program):List (Nat×TI)->Bool
 | []=>true
 | (t,i)::r=>pS P t i && kW P r
theorem Zb{P:Program}:∀ {l:List (Nat×TI)},kW P l=true->YY P l
 | [],_=>trivial
 | (t,i)::r,h=>by
  unfold kW at h;rw[d4]at h;exact⟨mH h.1,Zb h.2⟩
class C1 (P:Program) where
 T:List (Nat×TI)
 ok:YY P T
def KB:List (Nat×TI)->Nat->TI
 | [],_=>{}
 | (k,x)::r,t=>bif Nat.beq k t then x else KB r t
def nth{α:Type}:List α->Nat->Option α
 | [],_=>none
 | x::_,0=>some x
 | _::r,n+1=>nth r n
theorem OS{α:Type}:∀(l:List α) (i:Nat),nth l i=l[i]?
 | [],_=>by simp[nth]
 | o::_,0=>by simp[nth]
 | _::r,n+1=>by simp[nth,OS r n]
theorem D0{P:Program}(t:Nat):∀ {T:List (Nat×TI)},YY P T->E5 P t (KB T t)
 | [],_=>⟨.inl rfl,.inl rfl,.inl rfl,.inl rfl,.inl rfl,trivial,.inl rfl,.inl rfl,.inl rfl⟩
 | (k,x)::r,h=>by
  unfold KB;cases hb:Nat.beq k t
  ·exact D0 t h.2
  ·have:=i9 hb
   subst this;exact h.1
section
variable {P:Program}{t:Nat}{i:TI}
theorem E5.NT(h:E5 P t i){ag:Bool}{n:Nat}(e:i.ld=some (ag,n)):Fa P t ag n:=⟨by rcases h.ld with h|h<;>simp_all⟩
theorem E5.er(h:E5 P t i){k:IntKind}(e:i.ik=some k):Iv P t k:=⟨by rcases h.ik with h|h<;>simp_all⟩
theorem E5.ew(h:E5 P t i)(e:i.st=true):Dx P t:=⟨by rcases h.st with h|h<;>simp_all⟩
theorem E5.UW(h:E5 P t i){e k b:Nat}(a:i.sl=some (e,k,b)):CE P t e k b:=⟨by rcases h.sl with h|h<;>simp_all⟩
theorem E5.nI(h:E5 P t i){n k:Nat}(a:i.ar=some (n,k)):RJ P t n k:=⟨by rcases h.ar with h|h<;>simp_all⟩
theorem E5.eu(h:E5 P t i)(e:i.pt=true):WX P t:=⟨h.pt.resolve_left (by simp[e])⟩
theorem E5.iU(h:E5 P t i)(e:i.bo=true):SE P t:=⟨by rcases h.bo with h|h<;>simp_all⟩
theorem E5.ez(h:E5 P t i){z:List Value}(e:i.ze=some z):BN P t z:=⟨by rcases h.ze with h|h<;>simp_all⟩
theorem Un.get:∀ {l:List (Option (Nat×Bool×Nat))} {k j:Nat} {x:Nat×Bool×Nat},Un P t k l->nth l j=some (some x)->bH P t (k+j)=some x.1/\bI P t (k+j)=some x
 | [],_,_,_,_,h=>by simp[nth]at h
 | none::r,k,0,x,_,h=>by simp[nth]at h
 | some y::r,k,0,x,a,h=>by simp[nth]at h;subst h;exact a.1
 | none::r,k,j+1,x,a,h=>by
  have:=Un.get (l:=r) (k:=k+1) (j:=j) (x:=x) a h;rwa[show k+(j+1)=k+1+j by omega]
 | some y::r,k,j+1,x,a,h=>by
  have:=Un.get (l:=r) (k:=k+1) (j:=j) (x:=x) a.2 h;rwa[show k+(j+1)=k+1+j by omega]
theorem E5.lH(h:E5 P t i){j off n:Nat}{ag:Bool}(e:nth i.fl j=some (some (off,ag,n))):SF P t j off:=⟨by have:=(h.fl.get e).1;rwa[ms]at this⟩
theorem E5.iV(h:E5 P t i){j off n:Nat}{ag:Bool}(e:nth i.fl j=some (some (off,ag,n))):OD P t j off ag n:=⟨by have:=(h.fl.get e).2;rwa[ms]at this⟩
end
def GL(P:Program)(TB:BJ)(U:Ctx)(ops:Array Oper)(o:Oper)(fl:Fl)(i n:Nat)(K:Env->Ac->Nat->Prop)(L:List (Nat×E))(σ:Ac)(nx:Nat):Prop:=
 BB ops o (look L)=some true->Br P TB U ops o fl i n K L σ nx
def xE:Bool×List C->Option E
 | (false,[c])=>some (.o c)
 | (true,cs)=>some (.a cs)
 | _=>none
def pB(f:Env):Op->Option E
 | .move x=>ev f x
 | .pick c x y=>match ev f c with
  | some (.o (.d (.v (.bool true))))=>ev f x
  | some (.o (.d (.v (.bool false))))=>ev f y
  | _=>none
 | .extract x k=>match ev f x with
  | some (.t xs)=>(xs[k]?).bind xE
  | _=>none
 | .nilCheck x=>match ev f x with
  | some (.o (.d (.p cs)))=>some (.o (.ip cs))
  | some (.o (.ptr id k i j))=>some (.o (.ptr id k i j))
  | some (.o (.fn gg cs))=>some (.o (.fn gg cs))
  | _=>none
 | _=>none
def mR:IntKind->IntKind->Bool
 | .i64,.i64|.u8,.u8|.u64,.u64|.i32,.i32|.u16,.u16|.u32,.u32=>true
 | _,_=>false
theorem PF{a b:IntKind}(h:mR a b=true):a=b:=by cases a<;>cases b<;>first|rfl|cases h
def nu(o:BinOp)(m n:Int):Option Bool:=match o with
 | .lss=>some (decide (m<n))
 | .leq=>some (decide (m<=n))
 | .gtr=>some (decide (m > n))
 | .geq=>some (decide (m>=n))
 | .eql=>some (decide (m=n))
 | .neq=>some (decide (m≠n))
 | _=>none
def nt(o:BinOp)(a b:List UInt8):Option Bool:=match o with
 | .eql=>some (decide (a=b))
 | .neq=>some (decide (a≠b))
 | _=>none
def lg(o:BinOp):E->E->Option Bool
 | .o (.d (.v (.int k m))),.o (.d (.v (.int k' n)))=>match mR k k' with
  | true=>nu o m n
  | false=>none
 | .o (.d (.v (.string ⟨⟨a⟩⟩))),.o (.d (.v (.string ⟨⟨b⟩⟩)))=>nt o a b
 | _,_=>none
def cM:IntKind->Int->Option Prop
 | .i64,m=>some (-9223372036854775808<=m/\m<=9223372036854775807)
 | .u64,m=>some (0<=m/\m<=18446744073709551615)
 | .u8,m=>some (0<=m/\m<=255)
 | .i32,m=>some (-2147483648<=m/\m<=2147483647)
 | _,_=>none
def qe(o:BinOp)(k:IntKind)(m n:Int):Option (Prop×E):=match o with
 | .add=>(cM k (m+n)).map λq=>(q,eI k (m+n))
 | .sub=>(cM k (m-n)).map λq=>(q,eI k (m-n))
 | .mul=>(cM k (m*n)).map λq=>(q,eI k (m*n))
 | .rem=>some (0<=m/\0<n,eI k (m%n))
 | .and=>some (True,eI k (Gk k m n))
 | .or=>some (True,eI k (Gu k m n))
 | _=>none
def px(o:BinOp):E->E->Option (Prop×E)
 | .o (.d (.v (.int k m))),.o (.d (.v (.int k' n)))=>match o with
  | .shr=>some (0<=n,eI k (m.fdiv (2 ^ (min n.toNat k.bits))))
  | .quo=>match mR k .i64,mR k' .i64 with
   | true,true=>some ((0<=m/\m<=9223372036854775807)/\0<n,eI .i64 (m / n))
   | _,_=>none
  | o=>match mR k k' with
   | true=>qe o k m n
   | false=>none
 | .o (.d (.v (.string ⟨⟨a⟩⟩))),.o (.d (.v (.string ⟨⟨b⟩⟩)))=>match o with
  | .add=>some (a.length+b.length<=9223372036854775807,eT (a++b))
  | _=>none
 | _,_=>none
def lE(off:Nat):E->Option E
 | .o (.d (.p cs))=>some (.o (.ip (cs.drop off)))
 | .o (.ptr id k i j)=>some (.o (.ptr id k i (j+off)))
 | _=>none
def pG(ag:Bool)(n:Nat):E->Option E
 | .o (.d (.p cs))=>match ag,cs with
  | false,c::_=>some (.o (.d c))
  | true,cs=>match Nat.ble n cs.length with
   | true=>some (.a ((cs.take n).map .d))
   | false=>none
  | _,_=>none
 | _=>none
def lP(ag:Bool)(n j:Nat)(r:List C):Option E:=match ag with
 | false=>(r[j]?).map .o
 | true=>match Nat.ble (j+n) r.length with
  | true=>some (.a ((r.drop j).take n))
  | false=>none
def pC(ag:Bool)(off n:Nat)(cs:List C):Option E:=match ag with
 | false=>(cs[off]?).map .o
 | true=>match Nat.ble (off+n) cs.length with
  | true=>some (.a ((cs.drop off).take n))
  | false=>none
def pF(k:Nat)(n:Int):E->Option E
 | .o (.d (.p cs))=>some (.o (.ip (cs.drop (n.toNat*k))))
 | .o (.ptr id k' i j)=>some (.o (.ptr id k' i (j+n.toNat*k)))
 | _=>none
def pH(k:Nat):E->Option E
 | .o (.d (.l rows))=>some (eI .i64 rows.length)
 | .o (.arr _ k' _ len)=>match Nat.beq k' k with
  | true=>some (eI .i64 len)
  | false=>none
 | _=>none
def tr:Option E->Option (Prop×E)
 | some e=>some (True,e)
 | none=>none
def lX:Bool->E->E->Option (Prop×E)
 | true,.o (.d (.p _)),.o (.d (.v (.pointer none)))=>some (True,eB false)
 | true,.o (.d (.v (.pointer none))),.o (.d (.v (.pointer none)))=>some (True,eB true)
 | _,_,_=>none
def nq(pt:Bool)(o:BinOp)(a b:E):Option (Prop×E):=match o with
 | .eql=>lX pt a b
 | o=>px o a b
def lL(i:TI):E->E->Option (Prop×E)
 | .o (.arr id k off len),.o (.d (.v (.int _ m)))=>match i.sl with
  | some (_,k',_)=>match Nat.beq k k' with
   | true=>some (0<=m/\m<len,.o (.ptr id k (off+m.toNat) 0))
   | false=>none
  | none=>none
 | a, .o (.d (.v (.int _ m)))=>match i.ar with
  | some (len,k)=>match pF k m a with
   | some e=>some (0<=m/\m<len,e)
   | none=>none
  | none=>none
 | _,_=>none
def lR(i:TI):E->Option E
 | .o (.d (.v (.string ⟨⟨s⟩⟩)))=>match i.st with
  | true=>some (eI .i64 s.length)
  | false=>none
 | e=>match i.sl with
  | some (_,k,_)=>pH k e
  | none=>none
def lh(k k':IntKind):E->Option (Prop×E)
 | .o (.d (.v (.int a m)))=>match mR a k,cM k' m with
  | true,some q=>some (q,eI k' m)
  | _,_=>none
 | _=>none
def gn(T:List (Nat×TI))(md:Bool)(f:Env):Op->Option (Prop×E)
 | .assign x=>match md,notNil x with
  | true,false=>none
  | _,_=>tr (ev f x)
 | .binOp o t x y _=>match ev f x,ev f y with
  | some a,some b=>nq (KB T t).pt o a b
  | _,_=>none
 | .fieldAddr s x k=>match nth (KB T s).fl k,ev f x with
  | some (some (off,_,_)),some a=>tr (lE off a)
  | _,_=>none
 | .field t x k=>match nth (KB T t).fl k,ev f x with
  | some (some (off,ag,n)),some (.a cs)=>tr (pC ag off n cs)
  | _,_=>none
 | .load t x=>match (KB T t).ld,ev f x with
  | some (ag,n),some a=>tr (pG ag n a)
  | _,_=>none
 | .indexAddr t x y=>match ev f x,ev f y with
  | some a,some b=>lL (KB T t) a b
  | _,_=>none
 | .call ⟨.builtin .len,⟨[x]⟩,⟨[t]⟩⟩=>match ev f x with
  | some a=>tr (lR (KB T t) a)
  | none=>none
 | .convert s t x=>match (KB T s).ik,(KB T t).ik,ev f x with
  | some k,some k',some a=>lh k k' a
  | _,_,_=>none
 | .makeFunc (.func gg) ⟨[]⟩ caps=>match KS f caps.toList with
  | some es=>match ic es with
   | some cs=>some (True,.o (.fn gg cs))
   | none=>none
  | none=>none
 | op=>tr (pB f op)
def qf:BinOp->E->E->Option Bool
 | .eql,.o (.d (.v (.bool a))),.o (.d (.v (.bool b)))=>some (a == b)
 | .neq,.o (.d (.v (.bool a))),.o (.d (.v (.bool b)))=>some (a != b)
 | _,_,_=>none
def VQ(T:List (Nat×TI))(f:Env):Op->Option Bool
 | .binOp o t x y _=>match ev f x,ev f y with
  | some a,some b=>match (KB T t).bo with
   | true=>qf o a b
   | false=>lg o a b
  | _,_=>none
 | .unOp .not _ x=>match ev f x with
  | some (.o (.d (.v (.bool b))))=>some (!b)
  | _=>none
 | _=>none
def Oa(T:List (Nat×TI))(σ:Ac)(f:Env):Op->Option E
 | .load t x=>match (KB T t).ld,ev f x with
  | some (ag,n),some (.o (.ptr id k i j))=>match look σ id with
   | some (.cells _ k' rows)=>match Nat.beq k k',nth rows i with
    | true,some r=>lP ag n j r
    | _,_=>none
   | _=>none
  | _,_=>none
 | _=>none
def Sn(T:List (Nat×TI))(σ:Ac)(f:Env)(t:Nat)(x y:Operand):Option Ac:=
 match (KB T t).ld,ev f x,ev f y with
 | some (_,n),some (.o (.ptr id k i j)),some e=>match look σ id with
  | some (.cells ct k' rows)=>match Nat.beq k k',nth rows i with
   | true,some r=>match UI e,Nat.beq (eC e).length n,Nat.ble (j+n) k with
    | true,true,true=>some ((id,.cells ct k (rows.set i (Ae r j (eC e))))::σ)
    | _,_,_=>none
   | _,_=>none
  | _=>none
 | _,_,_=>none
section
variable {P:Program}{TB:BJ}{U:Ctx}{d:Option Tmp}{ty:TypeId}{pos:String}{af:Array Edge}{g:Option (Nat×Bool)}{f:Env}{σ:Ac}{nx:Nat}
theorem ao{t:TypeId}{a b:Bool}(c:P.underlying t=some .bool)(w:World):(Op.equal t (.bool a) (.bool b)).run P w=.ok (a == b) w:=by
 unfold Op.equal Op.maxDepth;rw[show 10000=9999+1 from rfl,Op.equalIn];simp[run_underlying c,go_sem]
theorem nZ{t yt:TypeId}{x y:Operand}{a b:Bool}[hp:SE P t](e:ev f x=some (eB a))(c:ev f y=some (eB b)):A5 P TB U ⟨d,.binOp .eql t x y yt,ty,pos,af,g⟩ f σ nx (eB (a == b)):=
 BP e c rfl λw=>by
  have i:binOp .eql t (.bool a) (.bool b)=(do pure (.bool (<-Op.equal t (.bool a) (.bool b)))):=rfl;have h:eqGuard .eql t x y (.bool a) (.bool b)=pure ():=rfl;rw[i,h];simp[ao hp.out w,go_sem]
theorem oq{t yt:TypeId}{x y:Operand}{a b:Bool}[hp:SE P t](e:ev f x=some (eB a))(c:ev f y=some (eB b)):A5 P TB U ⟨d,.binOp .neq t x y yt,ty,pos,af,g⟩ f σ nx (eB (a != b)):=
 BP e c rfl λw=>by
  have i:binOp .neq t (.bool a) (.bool b)=(do pure (.bool (!(<-Op.equal t (.bool a) (.bool b))))):=rfl;have h:eqGuard .neq t x y (.bool a) (.bool b)=pure ():=rfl;rw[i,h];simp[ao hp.out w,go_sem,bne]
theorem qM{op:Op}{e:E}(h:pB f op=some e):A5 P TB U ⟨d,op,ty,pos,af,g⟩ f σ nx e:=by
 unfold pB at h;split at h
 ·exact mj h
 ·split at h
  ·rename_i a;exact jL a h
  ·rename_i a;exact jK a h
  ·cases h
 ·split at h
  ·rename_i a
   refine cD a ?_;rw[<-h];congr 1
  ·cases h
 ·split at h
  ·rename_i a;injection h with h;subst h;exact jI a
  ·rename_i a;injection h with h;subst h;exact ml a
  ·rename_i a;injection h with h;subst h;exact jH a
  ·cases h
 ·cases h
theorem nY{o:BinOp}{t yt:TypeId}{x y:Operand}{ex ey:E}{c:Bool}(e:ev f x=some ex)(b:ev f y=some ey)(a:lg o ex ey=some c) :
 A5 P TB U ⟨d,.binOp o t x y yt,ty,pos,af,g⟩ f σ nx (eB c):=by
 unfold lg at a;split at a
 ·split at a
  ·rename_i hk
   have hk:=PF hk;subst hk;unfold nu at a
   split at a<;>first|(injection a with a;subst a)|cases a
   ·exact oo e b
   ·exact oh e b
   ·exact oe e b
   ·exact oc e b
   ·exact n9 e b
   ·exact ou e b
  ·cases a
 ·unfold nt at a
  split at a<;>first|(injection a with a;subst a)|cases a
  ·exact n7 e b
  ·exact ot e b
 ·cases a
theorem TW{k:IntKind}{m:Int}{q:Prop}(h:cM k m=some q)(a:q):k.wrap m=m:=by
 unfold cM at h
 split at h<;>first|(injection h with h;subst h)|cases h
 ·exact IntWalk.i64_in _ a
 ·exact IntWalk.u64_in _ a
 ·exact IntWalk.u8_in _ a
 ·exact IntWalk.i32_in _ a
theorem pL{o:BinOp}{t yt:TypeId}{x y:Operand}{ex ey e:E}{q:Prop}(j:ev f x=some ex)(i:ev f y=some ey)(a:px o ex ey=some (q,e))(h:q) :
 A5 P TB U ⟨d,.binOp o t x y yt,ty,pos,af,g⟩ f σ nx e:=by
 unfold px at a;split at a
 ·split at a
  ·injection a with a;injection a with c b;subst c;subst b;exact oz j i h rfl
  ·split at a
   ·rename_i hk k
    have hk:=PF hk;have k:=PF k;subst hk;subst k
    injection a with a;injection a with c b;subst c;subst b;exact mq j i h.1.1 h.1.2 h.2
   ·cases a
  ·split at a
   ·rename_i hk
    have hk:=PF hk;subst hk;unfold qe at a;split at a
    ·obtain⟨q',l,m⟩:=d7.1 a
     injection m with c b;subst c;subst b;exact nX j i (TW l h)
    ·obtain⟨q',l,m⟩:=d7.1 a
     injection m with c b;subst c;subst b;exact oH j i (TW l h)
    ·obtain⟨q',l,m⟩:=d7.1 a
     injection m with c b;subst c;subst b;exact kJ j i (TW l h)
    ·injection a with a;injection a with c b;subst c;subst b;exact mr j i h.1 h.2
    ·injection a with a;injection a with c b;subst b;exact kH j i rfl
    ·injection a with a;injection a with c b;subst b;exact mn j i rfl
    ·cases a
   ·cases a
 ·split at a
  ·injection a with a;injection a with c b;subst c;subst b;exact kI j i h
  ·cases a
 ·cases a
theorem oa{s k off:Nat}{x:Operand}{ex e:E}[b:SF P s k off](a:ev f x=some ex)(h:lE off ex=some e):A5 P TB U ⟨d,.fieldAddr s x k,ty,pos,af,g⟩ f σ nx e:=by
 unfold lE at h
 split at h<;>first|(injection h with h;subst h)|cases h
 ·exact cF a
 ·exact fR a
theorem pP{t:TypeId}{x:Operand}{ex e:E}{ag:Bool}{n:Nat}[b:Fa P t ag n](a:ev f x=some ex)(h:pG ag n ex=some e):A5 P TB U ⟨d,.load t x,ty,pos,af,g⟩ f σ nx e:=by
 unfold pG at h;split at h
 ·split at h
  ·injection h with h;subst h;exact VK a
  ·split at h
   ·rename_i hb;injection h with h;subst h;exact cH a (ce hb)
   ·cases h
  ·cases h
 ·cases h
theorem ZR{t:TypeId}{x:Operand}{id k i j:Nat}{T:TypeId}{rows:List (List C)}{r:List C}{e:E}{ag:Bool}{n:Nat}[q:Fa P t ag n](a:ev f x=some (.o (.ptr id k i j)))(l:look σ id=some (.cells T k rows))(b:rows[i]?=some r)
 (h:lP ag n j r=some e):A5 P TB U ⟨d,.load t x,ty,pos,af,g⟩ f σ nx e:=by
 unfold lP at h;split at h
 ·obtain⟨c,p,m⟩:=d7.1 h
  subst m;exact TS a l b p
 ·split at h
  ·rename_i hb;injection h with h;subst h;exact fZ a l b (ce hb)
  ·cases h
theorem pN{t:TypeId}{x:Operand}{k off n:Nat}{ag:Bool}{cs:List C}{e:E}[l:OD P t k off ag n](b:ev f x=some (.a cs))(h:pC ag off n cs=some e):A5 P TB U ⟨d,.field t x k,ty,pos,af,g⟩ f σ nx e:=by
 unfold pC at h;split at h
 ·obtain⟨c,j,i⟩:=d7.1 h
  subst i;exact jF b j
 ·split at h
  ·rename_i hb;injection h with h;subst h;exact fQ b (ce hb)
  ·cases h
theorem pO{t:TypeId}{x y:Operand}{ex e:E}{n:Int}{len k:Nat}{ik:IntKind}[i:RJ P t len k](c:ev f x=some ex)(b:ev f y=some (eI ik n))(h:pF k n ex=some e)(a:0<=n/\n<len) :
 A5 P TB U ⟨d,.indexAddr t x y,ty,pos,af,g⟩ f σ nx e:=by
 unfold pF at h
 split at h<;>first|(injection h with h;subst h)|cases h
 ·exact cG c b a.1 a.2
 ·exact fV c b a.1 a.2
theorem og{t e:TypeId}{x:Operand}{ex r:E}{k b:Nat}[c:CE P t e k b](a:ev f x=some ex)(h:pH k ex=some r):A5 P TB U ⟨d,.call ⟨.builtin .len,#[x],#[t]⟩,ty,pos,af,g⟩ f σ nx r:=by
 unfold pH at h;split at h
 ·injection h with h;subst h;exact fY a
 ·split at h
  ·injection h with h;subst h;exact me a
  ·cases h
 ·cases h
theorem NG{x:Option E}{q:Prop}{e:E}(h:tr x=some (q,e)):x=some e:=by
 cases x with
 | none=>cases h
 | some y=>injection h with h;injection h with _ h;rw[h]
theorem lS{i:TI}{t:TypeId}{x:Operand}{a e:E}(hi:E5 P t i)(c:ev f x=some a)(h:lR i a=some e):A5 P TB U ⟨d,.call ⟨.builtin .len,#[x],#[t]⟩,ty,pos,af,g⟩ f σ nx e:=by
 unfold lR at h;split at h
 ·split at h
  ·rename_i b
   injection h with h;subst h
   haveI:=hi.ew b;exact mh c
  ·cases h
 ·split at h
  ·rename_i b
   haveI:=hi.UW b;exact og c h
  ·cases h
theorem lN{i:TI}{t:TypeId}{x y:Operand}{a b e:E}{q:Prop}(hi:E5 P t i)(n:ev f x=some a)(m:ev f y=some b)(h:lL i a b=some (q,e))(j:q):A5 P TB U ⟨d,.indexAddr t x y,ty,pos,af,g⟩ f σ nx e:=by
 unfold lL at h;split at h
 ·split at h
  ·rename_i c
   split at h
   ·rename_i hk
    injection h with h;injection h with l k;subst l;subst k
    have:=i9 hk;subst this;haveI:=hi.UW c;exact fS n m j.1 j.2
   ·cases h
  ·cases h
 ·split at h
  ·rename_i c
   split at h
   ·rename_i o
    injection h with h;injection h with l k;subst l;subst k
    haveI:=hi.nI c;exact pO n m o j
   ·cases h
  ·cases h
 ·cases h
theorem lY{i:TI}{t yt:TypeId}{x y:Operand}{a b e:E}{q:Prop}(hi:E5 P t i)(k:ev f x=some a)(j:ev f y=some b)(h:lX i.pt a b=some (q,e)):A5 P TB U ⟨d,.binOp .eql t x y yt,ty,pos,af,g⟩ f σ nx e:=by
 unfold lX at h;split at h
 ·rename_i hp
  injection h with h;injection h with l c;subst c
  haveI:=hi.eu hp;exact cC k j
 ·rename_i hp
  injection h with h;injection h with l c;subst c
  haveI:=hi.eu hp;exact Yt k j
 ·cases h
theorem lk{i i':TI}{s t:TypeId}{k k':IntKind}{x:Operand}{a e:E}{q:Prop}(hi:E5 P s i)(c:E5 P t i')(hk:i.ik=some k)(b:i'.ik=some k')(l:ev f x=some a)(h:lh k k' a=some (q,e))(n:q):A5 P TB U ⟨d,.convert s t x,ty,pos,af,g⟩ f σ nx e:=by
 unfold lh at h;split at h
 ·split at h
  ·rename_i j m
   injection h with h;injection h with p o;subst p;subst o
   have j:=PF j;subst j;haveI:=hi.er hk;haveI:=c.er b;exact TP l (TW m n)
  ·cases h
 ·cases h
theorem aa[n:C1 P]{md:Bool}{op:Op}{q:Prop}{e:E}(h:gn n.T md f op=some (q,e))(i:q):A5 P TB U ⟨d,op,ty,pos,af,g⟩ f σ nx e:=by
 have a:=λt=>D0 (P:=P) t n.ok;unfold gn at h;split at h
 ·split at h
  ·cases h
  ·exact CK (NG h)
 ·rename_i o t x y yt
  split at h
  ·rename_i b c
   unfold nq at h;split at h
   ·exact lY (a t) b c h
   ·exact pL b c h i
  ·cases h
 ·rename_i s x k
  split at h
  ·rename_i j b
   haveI:=(a s).lH j;exact oa b (NG h)
  ·cases h
 ·rename_i t x k
  split at h
  ·rename_i j b
   haveI:=(a t).iV j;exact pN b (NG h)
  ·cases h
 ·rename_i t x
  split at h
  ·rename_i p b
   haveI:=(a t).NT p;exact pP b (NG h)
  ·cases h
 ·rename_i t x y
  split at h
  ·rename_i b c
   exact lN (a t) b c h i
  ·cases h
 ·rename_i x t
  split at h
  ·rename_i b
   exact lS (a t) b (NG h)
  ·cases h
 ·rename_i s t x
  split at h
  ·rename_i m l b
   exact lk (a s) (a t) m l b h i
  ·cases h
 ·split at h
  ·rename_i m
   split at h
   ·rename_i l
    injection h with h;injection h with _ h;subst h
    exact pM m l
   ·cases h
  ·cases h
 ·exact qM (NG h)
theorem VR[i:C1 P]{op:Op}{c:Bool}(h:VQ i.T f op=some c):A5 P TB U ⟨d,op,ty,pos,af,g⟩ f σ nx (eB c):=by
 have e:=λt=>D0 (P:=P) t i.ok;unfold VQ at h;split at h
 ·rename_i o t x y yt
  split at h
  ·rename_i a b
   split at h
   ·rename_i hb
    haveI:=(e t).iU hb;unfold qf at h;split at h
    ·injection h with h;subst h;exact nZ a b
    ·injection h with h;subst h;exact oq a b
    ·cases h
   ·exact nY a b h
  ·cases h
 ·split at h
  ·rename_i a
   injection h with h;subst h
   exact ow a
  ·cases h
 ·cases h
theorem Qe[c:C1 P]{op:Op}{e:E}(h:Oa c.T σ f op=some e):A5 P TB U ⟨d,op,ty,pos,af,g⟩ f σ nx e:=by
 have a:=λt=>D0 (P:=P) t c.ok;unfold Oa at h;split at h
 ·rename_i t x
  split at h
  ·rename_i k i
   split at h
   ·rename_i j
    split at h
    ·rename_i hk b
     have hk:=i9 hk;subst hk;haveI:=(a t).NT k;rw[OS]at b;exact ZR i j b h
    ·cases h
   ·cases h
  ·cases h
 ·cases h
theorem Qf[c:C1 P]{t:TypeId}{x y:Operand}{σ':Ac}{K:E->Ac->Nat->Prop}(h:Sn c.T σ f t x y=some σ')(l:K (.t []) σ' nx):Ck P TB U ⟨d,.store t x y,ty,pos,af,g⟩ f σ nx K:=by
 have a:=λt=>D0 (P:=P) t c.ok;unfold Sn at h;split at h
 ·rename_i k i e
  split at h
  ·rename_i j
   split at h
   ·rename_i hk b
    split at h
    ·rename_i o n m
     have hk:=i9 hk;subst hk;haveI:=(a t).NT k;rw[OS]at b
     injection h with h
     subst h;exact Ek i e o j b (i9 n) (ce m) l
    ·cases h
   ·cases h
  ·cases h
 ·cases h
end
section
variable {P:Program}{TB:BJ}{U:Ctx}{ops:Array Oper}{fl:Fl}{i n:Nat}{L:List (Nat×E)}{σ:Ac}{nx:Nat}{K:Env->Ac->Nat->Prop}{d:Tmp}{ty:TypeId}{pos:String}{af:Array Edge}{g:Option (Nat×Bool)}{op:Op}
theorem gA{d:Option Tmp}(a:BB ops ⟨d,op,ty,pos,af,g⟩ (look L)=some true)(h:GL P TB U ops ⟨d,op,ty,pos,af,g⟩ fl i n K L σ nx):Br P TB U ops ⟨d,op,ty,pos,af,g⟩ fl i n K L σ nx:=h a
theorem gS{x:E}(a:∀σ nx,A5 P TB U ⟨some d,op,ty,pos,af,g⟩ (look L) σ nx x)(h:Lex P TB U ops (Aw fl (i+1) n) K (look ((d,x)::L)) σ nx):GL P TB U ops ⟨some d,op,ty,pos,af,g⟩ fl i n K L σ nx:=λb=>CX a b h
theorem gQ{x:E}(a:A5 P TB U ⟨some d,op,ty,pos,af,g⟩ (look L) σ nx x)(c:SM (fl i)=true)(h:Lex P TB U ops (Aw fl (i+1) n) K (look ((d,x)::L)) σ nx):GL P TB U ops ⟨some d,op,ty,pos,af,g⟩ fl i n K L σ nx:=λb=>jD a b c h
theorem gB{c:Bool}(a:∀σ nx,A5 P TB U ⟨some d,op,ty,pos,af,g⟩ (look L) σ nx (eB c))(h:∀b,c=b->Lex P TB U ops (Aw fl (i+1) n) K (look ((d,eB b)::L)) σ nx):GL P TB U ops ⟨some d,op,ty,pos,af,g⟩ fl i n K L σ nx:=λe=>cy a e h
theorem qj{c:Bool}(a:A5 P TB U ⟨some d,op,ty,pos,af,g⟩ (look L) σ nx (eB c))(f:SM (fl i)=true)(h:∀b,c=b->Lex P TB U ops (Aw fl (i+1) n) K (look ((d,eB b)::L)) σ nx):GL P TB U ops ⟨some d,op,ty,pos,af,g⟩ fl i n K L σ nx:=λe=>jD a e f (h c rfl)
theorem gW(h:Ck P TB U ⟨some d,op,ty,pos,af,g⟩ (look L) σ nx (λx σ' nx'=>Lex P TB U ops (Aw fl (i+1) n) K (look ((d,x)::L)) σ' nx'))(b:fl i=1):GL P TB U ops ⟨some d,op,ty,pos,af,g⟩ fl i n K L σ nx:=λa=>Mi h a b
theorem qk(h:Ck P TB U ⟨none,op,ty,pos,af,g⟩ (look L) σ nx (λ_ σ' nx'=>Lex P TB U ops (Aw fl (i+1) n) K (look L) σ' nx'))(b:fl i=1):GL P TB U ops ⟨none,op,ty,pos,af,g⟩ fl i n K L σ nx:=λa=>Gf h a b
theorem yQ{md:Bool}[b:C1 P]{q:Prop}{x:E}(h:gn b.T md (look L) op=some (q,x))(a:q)(hk:Lex P TB U ops (Aw fl (i+1) n) K (look ((d,x)::L)) σ nx):GL P TB U ops ⟨some d,op,ty,pos,af,g⟩ fl i n K L σ nx:=gS (λ_ _=>aa h a) hk
theorem yB[a:C1 P]{c:Bool}(h:VQ a.T (look L) op=some c)(hk:∀b,c=b->Lex P TB U ops (Aw fl (i+1) n) K (look ((d,eB b)::L)) σ nx):GL P TB U ops ⟨some d,op,ty,pos,af,g⟩ fl i n K L σ nx:=gB (λ_ _=>VR h) hk
theorem yS[b:C1 P]{x:E}(h:Oa b.T σ (look L) op=some x)(a:SM (fl i)=true)(hk:Lex P TB U ops (Aw fl (i+1) n) K (look ((d,x)::L)) σ nx):GL P TB U ops ⟨some d,op,ty,pos,af,g⟩ fl i n K L σ nx:=gQ (Qe h) a hk
theorem yW[b:C1 P]{t:TypeId}{x y:Operand}{σ':Ac}(h:Sn b.T σ (look L) t x y=some σ')(a:fl i=1)(hk:Lex P TB U ops (Aw fl (i+1) n) K (look L) σ' nx):GL P TB U ops ⟨none,.store t x y,ty,pos,af,g⟩ fl i n K L σ nx:=qk (Qf h hk) a
theorem yO[b:C1 P]{T:TypeId}{z:List Value}(h:(KB b.T T).ze=some z)(a:z.all QN=true)(c:fl i=1)(e:Lex P TB U ops (Aw fl (i+1) n) K (look ((d,.o (.ptr nx z.length 0 0))::L)) ((nx,.cells T z.length [z.map zC])::σ) (nx+1)):GL P TB U ops ⟨some d,.alloc T,ty,pos,af,g⟩ fl i n K L σ nx:=
 haveI:=(D0 (P:=P) T b.ok).ez h
 gW (jn a e) c
theorem yM[a:C1 P]{t:TypeId}{x:Operand}{id k i' j:Nat}{T:TypeId}{rows:List (List C)}{r:List C}{e:E}{ag:Bool}{m:Nat}(b:ev (look L) x=some (.o (.ptr id k i' j)))(f:look σ id=some (.cells T k rows))(c:rows[i']?=some r)(l:(KB a.T t).ld=some (ag,m))
 (h:lP ag m j r=some e) (p:SM (fl i)=true) (hk:Lex P TB U ops (Aw fl (i+1) n) K (look ((d,e)::L)) σ nx):GL P TB U ops ⟨some d,.load t x,ty,pos,af,g⟩ fl i n K L σ nx:=
 haveI:=(D0 (P:=P) t a.ok).NT l
 gQ (ZR b f c h) p hk
theorem yV[b:C1 P]{t:TypeId}{x y:Operand}{id k i' j m:Nat}{T:TypeId}{rows:List (List C)}{r:List C}{e:E}{ag:Bool}(d:ev (look L) x=some (.o (.ptr id k i' j)))(c:ev (look L) y=some e)(h:UI e=true)(a:look σ id=some (.cells T k rows))(f:rows[i']?=some r)
 (p:(KB b.T t).ld=some (ag,m)) (l:(eC e).length=m) (q:Nat.ble (j+m) k=true) (s:fl i=1) (hk:Lex P TB U ops (Aw fl (i+1) n) K (look L) ((id,.cells T k (rows.set i' (Ae r j (eC e))))::σ) nx):GL P TB U ops ⟨none,.store t x y,ty,pos,af,g⟩ fl i n K L σ nx:=
 haveI:=(D0 (P:=P) t b.ok).NT p
 qk (Ek d c h a f l (ce q) hk) s
theorem qR[a:C1 P]{α:Type}{t e:TypeId}{x:Operand}{l:List α}{h:α->List D}{k b:Nat}(c:ev (look L) x=some (.o (.d (.l (l.map h)))))(f:(KB a.T t).sl=some (e,k,b))(hk:Lex P TB U ops (Aw fl (i+1) n) K (look ((d,eI .i64 l.length)::L)) σ nx):GL P TB U ops ⟨some d,.call ⟨.builtin .len,#[x],#[t]⟩,ty,pos,af,g⟩ fl i n K L σ nx:=
 haveI:=(D0 (P:=P) t a.ok).UW f
 gS (λ_ _=>mf c) hk
theorem yL[a:C1 P]{t e:TypeId}{x y:Operand}{rows:List (List D)}{row:List D}{m:Int}{k b:Nat}{ik:IntKind}(f:ev (look L) x=some (.o (.d (.l rows))))(c:ev (look L) y=some (eI ik m))(h:rows[m.toNat]?=some row)(p:(KB a.T t).sl=some (e,k,b))(j:row.length=k)(q:0<=m)
 (hk:Lex P TB U ops (Aw fl (i+1) n) K (look ((d,.o (.ip row))::L)) σ nx):GL P TB U ops ⟨some d,.indexAddr t x y,ty,pos,af,g⟩ fl i n K L σ nx:=
 haveI:=(D0 (P:=P) t a.ok).UW p
 gS (λ_ _=>fU f c q h j) hk
theorem yT[a:C1 P]{t:TypeId}{x y:Operand}{s:List UInt8}{m:Int}{c:UInt8}{ik:IntKind}(e:ev (look L) x=some (eT s))(b:ev (look L) y=some (eI ik m))(h:s[m.toNat]?=some c)(f:(KB a.T t).st=true)(j:0<=m)
 (hk:Lex P TB U ops (Aw fl (i+1) n) K (look ((d,eI .u8 (c.toNat:Int))::L)) σ nx):GL P TB U ops ⟨some d,.index t x y,ty,pos,af,g⟩ fl i n K L σ nx:=
 haveI:=(D0 (P:=P) t a.ok).ew f
 gS (λ_ _=>fX e b j h) hk
def pR(k m:Nat)(z:List Value)(es:List E):Option (List (List D)):=match es.all UI,Qz es with
 | true,some rows=>match rows.all λr=>Nat.beq r.length k,Nat.beq z.length k,z.all QN,Nat.ble 1 k,Nat.ble (m*k) 16777216 with
  | true,true,true,true,true=>some rows
  | _,_,_,_,_=>none
 | _,_=>none
theorem yZ[c:C1 P]{t e:TypeId}{k b m:Nat}{z:List Value}{parts:Array (Nat×Operand)}{es:List E}{rows:List (List D)}(q:(KB c.T t).sl=some (e,k,b))(j:(KB c.T e).ze=some z)(hp:Dt 0 (parts.toList.map (·.2))=parts.toList)(p:parts.toList.length=m)
 (f:KS (look L) (parts.toList.map (·.2))=some es) (a:pR k m z es=some rows)
 (h:Lex P TB U ops (Aw fl (i+1) n) K (look ((d,.o (.d (.l rows)))::L)) σ nx):GL P TB U ops ⟨some d,.buildSlice t m parts,ty,pos,af,g⟩ fl i n K L σ nx:=by
 haveI:=(D0 (P:=P) t c.ok).UW q;haveI:=(D0 (P:=P) e c.ok).ez j;unfold pR at a;split at a
 ·rename_i y x
  split at a
  ·rename_i w v u s r
   injection a with a
   subst a;exact gS (λ_ _=>Qb hp p f y x w (i9 v) u s r) h
  ·cases a
 ·cases a
theorem yY{T:TypeId}{x:Operand}{e:E}{ds:List D}(a:ev (look L) x=some e)(b:UI e=true)(c:RI (eC e)=some ds)(h:Lex P TB U ops (Aw fl (i+1) n) K (look ((d,.o (.ip ds))::L)) σ nx):GL P TB U ops ⟨some d,.box T x,ty,pos,af,g⟩ fl i n K L σ nx:=gS (λ_ _=>Gm a b c) h
def js:Nat->List (Nat×Operand)->Bool
 | _,[]=>true
 | k,(i,_)::r=>Nat.beq i k && js (k+1) r
theorem ZH:∀(l:List (Nat×Operand)) (k:Nat),js k l=true->Dt k (l.map (·.2))=l
 | [],_,_=>rfl
 | (i,x)::r,k,h=>by
  unfold js at h;rw[d4]at h;have a:=i9 h.1;subst a;have:=ZH r (i+1) h.2;simp[Dt,this]
def jv(c:Nat):Option E->Bool
 | some (.o (.ptr id _ _ _))=>SM c || (Nat.beq c (10+id) && !Nat.ble 1000 c)
 | _=>SM c
theorem gp{T:List (Nat×TI)}{σ σ':Ac}{f:Env}{t:TypeId}{x:Operand}{id k i j:Nat}(a:ev f x=some (.o (.ptr id k i j)))(h:look σ' id=look σ id):Oa T σ' f (.load t x)=Oa T σ f (.load t x):=by
 unfold Oa;simp only[a]
 cases (KB T t).ld with
 | none=>rfl
 | some p=>obtain⟨ag,n⟩:=p;simp only[h]
def Z0(T:List (Nat×TI))(sl:Bool)(c nx:Nat)(σ:Ac)(L:List (Nat×E)):Option Tmp->Op->Option (List (Nat×E)×Ac×Nat)
 | some d,.alloc t=>match Nat.beq c 1,(KB T t).ze with
  | true,some z=>match z.all QN with
   | true=>some ((d,.o (.ptr nx z.length 0 0))::L,(nx,.cells t z.length [z.map zC])::σ,nx+1)
   | false=>none
  | _,_=>none
 | none,.store t x y=>match Nat.beq c 1,Sn T σ (look L) t x y with
  | true,some σ'=>some (L,σ',nx)
  | _,_=>none
 | some d,.load t x=>match jv c (ev (look L) x),Oa T σ (look L) (.load t x) with
  | true,some e=>some ((d,e)::L,σ,nx)
  | _,_=>none
 | some d,.box _ x=>match sl,ev (look L) x with
  | true,some e=>match UI e,RI (eC e) with
   | true,some ds=>some ((d,.o (.ip ds))::L,σ,nx)
   | _,_=>none
  | _,_=>none
 | some d,.buildSlice t m parts=>match sl,(KB T t).sl with
  | true,some (e,k,_)=>match (KB T e).ze,KS (look L) (parts.toList.map (·.2)) with
   | some z,some es=>match pR k m z es,js 0 parts.toList,Nat.beq parts.toList.length m with
    | some rows,true,true=>some ((d,.o (.d (.l rows)))::L,σ,nx)
    | _,_,_=>none
   | _,_=>none
  | _,_=>none
 | _,_=>none
theorem yU[o:C1 P]{sl:Bool}{d:Option Tmp}{L':List (Nat×E)}{σ':Ac}{nx':Nat}(h:Z0 o.T sl (fl i) nx σ L d op=some (L',σ',nx'))(hk:Lex P TB U ops (Aw fl (i+1) n) K (look L') σ' nx'):GL P TB U ops ⟨d,op,ty,pos,af,g⟩ fl i n K L σ nx:=by
 unfold Z0 at h;split at h
 ·split at h
  ·rename_i a b
   split at h
   ·rename_i j
    injection h with h;injection h with f h;injection h with e c;subst f;subst e;subst c
    exact yO b j (i9 a) hk
   ·cases h
  ·cases h
 ·split at h
  ·rename_i a b
   injection h with h;injection h with f h;injection h with e c;subst f;subst e;subst c
   exact yW b (i9 a) hk
  ·cases h
 ·split at h
  ·rename_i a b
   injection h with h;injection h with f h;injection h with e c;subst f;subst e;subst c
   unfold jv at a;split at a
   ·rename_i l
    rw[qW]at a
    rcases a with a|a
    ·exact yS b a hk
    ·rw[d4]at a
     have j:=i9 a.1;refine λm=>nV (λσ' nx' k=>Qe (by rw[j,Nat.add_sub_cancel_left]at k;rw[gp (σ:=σ) (σ':=σ') l k];exact b)) m ⟨tW (by omega),by simpa using a.2⟩ hk
   ·exact yS b a hk
  ·cases h
 ·split at h
  ·rename_i a
   split at h
   ·rename_i b j
    injection h with h;injection h with f h;injection h with e c;subst f;subst e;subst c
    exact yY a b j hk
   ·cases h
  ·cases h
 ·split at h
  ·rename_i a
   split at h
   ·rename_i b j
    split at h
    ·rename_i r q p
     injection h with h;injection h with f h;injection h with e c;subst f;subst e;subst c
     exact yZ a b (ZH _ _ q) (i9 p) j r hk
    ·cases h
   ·cases h
  ·cases h
 ·cases h
theorem yP{x:Operand}{args:Array Operand}{tys:Array TypeId}{gg:FuncId}{cap:List C}{es:List E}{r:E}(b:ev (look L) x=some (.o (.fn gg cap)))(a:KS (look L) args.toList=some es)(hp:(es.all E.Gz && C.Ie cap)=true)
 (c:Pure P TB gg (es++cap.map .o) r) (e:r.Gz=true) (h:Lex P TB U ops (Aw fl (i+1) n) K (look ((d,r)::L)) σ nx):GL P TB U ops ⟨some d,.call ⟨.value x,args,tys⟩,ty,pos,af,g⟩ fl i n K L σ nx:=gS (λ_ _=>Fu b a hp c e) h
theorem yC{x:Operand}{args:Array Operand}{tys:Array TypeId}{gg:FuncId}{cap:List C}{es:List E}{c:Bool}(e:ev (look L) x=some (.o (.fn gg cap)))(a:KS (look L) args.toList=some es)(hp:(es.all E.Gz && C.Ie cap)=true)
 (f:Pure P TB gg (es++cap.map .o) (eB c)) (h:∀b,c=b->Lex P TB U ops (Aw fl (i+1) n) K (look ((d,eB b)::L)) σ nx):GL P TB U ops ⟨some d,.call ⟨.value x,args,tys⟩,ty,pos,af,g⟩ fl i n K L σ nx:=gB (λ_ _=>Fu e a hp f rfl) h
end
abbrev Gv:=Prop×List (Nat×E)×Ac×Nat
def kL(T : List (Nat×TI))(md sl:Bool)(ops:Array Oper)(fl:Fl)(i:Nat)(L:List (Nat×E))(σ:Ac)(nx:Nat):Option Gv:=
 match P4 ops.toList (fl.p i) with
 | some ⟨ds,op,ty,pos,af,g⟩=>match BB ops ⟨ds,op,ty,pos,af,g⟩ (look L) with
  | some true=>match ds with
   | some d=>match gn T md (look L) op with
    | some (q,e)=>some (q,(d,e)::L,σ,nx)
    | none=>match Z0 T sl (fl i) nx σ L (some d) op with
     | some (L',σ',nx')=>some (True,L',σ',nx')
     | none=>none
   | none=>match Z0 T sl (fl i) nx σ L none op with
    | some (L',σ',nx')=>some (True,L',σ',nx')
    | none=>none
  | some false=>match ds with
   | some d=>some (True,(d,.t [])::L,σ,nx)
   | none=>some (True,L,σ,nx)
  | none=>none
 | none=>none
def l5(ops:Array Oper)(fl:Fl)(i:Nat)(L:List (Nat×E)):Option (Option Tmp×Op):=match P4 ops.toList (fl.p i) with
 | some ⟨ds,op,ty,pos,af,g⟩=>match BB ops ⟨ds,op,ty,pos,af,g⟩ (look L) with
  | some true=>some (ds,op)
  | _=>none
 | none=>none
def qm(T:List (Nat×TI))(ops:Array Oper)(fl:Fl)(i:Nat)(L:List (Nat×E)):Option (Nat×List (List D)):=match l5 ops fl i L with
 | some (some d,.call ⟨.builtin .len,⟨[x]⟩,⟨[t]⟩⟩)=>match (KB T t).sl,ev (look L) x with
  | some _,some (.o (.d (.l rows)))=>some (d,rows)
  | _,_=>none
 | _=>none
structure As where
 β:Type
 l:List β
 m:Nat
 k:β->Option Gv
def pz(T : List (Nat×TI))(ops:Array Oper)(fl:Fl)(i:Nat)(L:List (Nat×E))(σ:Ac)(nx:Nat):Option As:=match l5 ops fl i L with
 | some (some d,.indexAddr t x y)=>match (KB T t).sl,ev (look L) x,ev (look L) y with
  | some (_,k,_),some (.o (.d (.l rows))),some (.o (.d (.v (.int _ m))))=>some ⟨List D,rows,m.toNat,λr=>match Nat.beq r.length k with
   | true=>some (0<=m,(d,.o (.ip r))::L,σ,nx)
   | false=>none⟩
  | _,_,_=>none
 | some (some d,.index t x y)=>match (KB T t).st,ev (look L) x,ev (look L) y with
  | true,some (.o (.d (.v (.string ⟨⟨s⟩⟩)))),some (.o (.d (.v (.int _ m))))=>some ⟨UInt8,s,m.toNat,λc=>some (0<=m,(d,eI .u8 (c.toNat:Int))::L,σ,nx)⟩
  | _,_,_=>none
 | some (some d,.load t x)=>match (KB T t).ld,ev (look L) x with
  | some (ag,m),some (.o (.ptr id k i' j))=>match look σ id with
   | some (.cells _ k' rows)=>match Nat.beq k k',jv (fl i) (some (.o (.ptr id k i' j))) with
    | true,true=>some ⟨List C,rows,i',λr=>match lP ag m j r with
     | some e=>some (True,(d,e)::L,σ,nx)
     | none=>none⟩
    | _,_=>none
   | _=>none
  | _,_=>none
 | some (none,.store t x y)=>match (KB T t).ld,ev (look L) x,ev (look L) y with
  | some (_,m),some (.o (.ptr id k i' j)),some e=>match look σ id with
   | some (.cells ct k' rows)=>match Nat.beq k k',Nat.beq (fl i) 1,UI e,Nat.beq (eC e).length m,Nat.ble (j+m) k with
    | true,true,true,true,true=>some ⟨List C,rows,i',λr=>some (True,L,(id,.cells ct k (rows.set i' (Ae r j (eC e))))::σ,nx)⟩
    | _,_,_,_,_=>none
   | _=>none
  | _,_,_=>none
 | _=>none
def qy(T:List (Nat×TI))(ops:Array Oper)(fl:Fl)(i:Nat)(L:List (Nat×E)):Option (Nat×Bool):=match l5 ops fl i L with
 | some (some d,op)=>match VQ T (look L) op with
  | some c=>some (d,c)
  | none=>none
 | _=>none
def qG(ops:Array Oper)(fl:Fl)(i:Nat)(L:List (Nat×E)):Option Bool:=match P4 ops.toList (fl.p i) with
 | some ⟨_,_,_,_,_,some (j,_)⟩=>match (ops[j]?).bind (·.dst) with
  | some t=>match look L t with
   | some (.o (.d (.v (.bool b))))=>some b
   | _=>none
  | none=>none
 | _=>none
def o6(ops:Array Oper)(fl:Fl)(i:Nat)(L:List (Nat×E)):Option (Nat×FuncId×List E):=match l5 ops fl i L with
 | some (some d,.call ⟨.value x,args,_⟩)=>match ev (look L) x,KS (look L) args.toList with
  | some (.o (.fn gg cap)),some es=>match es.all E.Gz && C.Ie cap with
   | true=>some (d,gg,es++cap.map .o)
   | false=>none
  | _,_=>none
 | _=>none
section
variable {P:Program}{TB:BJ}{U:Ctx}{ops:Array Oper}{fl:Fl}{i n:Nat}{L L':List (Nat×E)}{σ σ':Ac}{nx nx' d:Nat}{K:Env->Ac->Nat->Prop}
theorem IN{ds:Option Tmp}{op:Op}(h:l5 ops fl i L=some (ds,op))(k:∀ty pos af g,GL P TB U ops ⟨ds,op,ty,pos,af,g⟩ fl i n K L σ nx):Lex P TB U ops (Aw fl i (n+1)) K (look L) σ nx:=by
 unfold l5 at h;split at h
 ·rename_i a
  split at h
  ·rename_i b
   injection h with h;injection h with d c;subst d;subst c
   exact Al a (k _ _ _ _ b)
  ·cases h
 ·cases h
theorem s1{md sl:Bool}[k:C1 P]{q:Prop}(h:kL k.T md sl ops fl i L σ nx=some (q,L',σ',nx'))(j:q)(hk:Lex P TB U ops (Aw fl (i+1) n) K (look L') σ' nx'):Lex P TB U ops (Aw fl i (n+1)) K (look L) σ nx:=by
 unfold kL at h;split at h
 ·rename_i a
  split at h
  ·rename_i f
   split at h
   ·split at h
    ·rename_i g
     injection h with h;injection h with e h;injection h with d h;injection h with c b;subst e;subst d;subst c;subst b
     exact Al a (yQ g j hk f)
    ·split at h
     ·rename_i g
      injection h with h;injection h with e h;injection h with d h;injection h with c b;subst e;subst d;subst c;subst b
      exact Al a (yU g hk f)
     ·cases h
   ·split at h
    ·rename_i g
     injection h with h;injection h with e h;injection h with d h;injection h with c b;subst e;subst d;subst c;subst b
     exact Al a (yU g hk f)
    ·cases h
  ·rename_i f
   split at h
   ·injection h with h;injection h with e h;injection h with d h;injection h with c b;subst e;subst d;subst c;subst b
    exact Al a (λa=>fM a f (by rw[Ez];exact hk))
   ·injection h with h;injection h with e h;injection h with d h;injection h with c b;subst e;subst d;subst c;subst b
    exact Al a (λa=>fM a f hk)
  ·cases h
 ·cases h
theorem sA[b:C1 P]{q:Prop}(h:kL b.T false true ops fl i L σ nx=some (q,L',σ',nx'))(a:q)(hk:Lex P TB U ops (Aw fl (i+1) n) K (look L') σ' nx'):Lex P TB U ops (Aw fl i (n+1)) K (look L) σ nx:=s1 h a hk
theorem sM[b:C1 P]{q:Prop}(h:kL b.T true false ops fl i L σ nx=some (q,L',σ',nx'))(a:q)(hk:Lex P TB U ops (Aw fl (i+1) n) K (look L') σ' nx'):Lex P TB U ops (Aw fl i (n+1)) K (look L) σ nx:=s1 h a hk
theorem sX[b:C1 P]{q:Prop}(h:kL b.T false false ops fl i L σ nx=some (q,L',σ',nx'))(a:q)(hk:Lex P TB U ops (Aw fl (i+1) n) K (look L') σ' nx'):Lex P TB U ops (Aw fl i (n+1)) K (look L) σ nx:=s1 h a hk
theorem sN[e:C1 P]{α:Type}{l:List α}{f:α->List D}(h:qm e.T ops fl i L=some (d,l.map f))(hk:Lex P TB U ops (Aw fl (i+1) n) K (look ((d,eI .i64 l.length)::L)) σ nx):Lex P TB U ops (Aw fl i (n+1)) K (look L) σ nx:=by
 unfold qm at h;split at h
 ·rename_i b
  split at h
  ·rename_i c a
   injection h with h;injection h with j g;subst j;subst g
   exact IN b λ_ _ _ _=>qR a c hk
  ·cases h
 ·cases h
theorem s4[x : C1 P]{β:Type}{l:List β}{m:Nat}{k:β->Option Gv}{r:β}{q:Prop}(h:pz x.T ops fl i L σ nx=some ⟨β,l,m,k⟩)(s:l[m]?=some r)(e:k r=some (q,L',σ',nx'))(v:q)
 (hk:Lex P TB U ops (Aw fl (i+1) n) K (look L') σ' nx'):Lex P TB U ops (Aw fl i (n+1)) K (look L) σ nx:=by
 unfold pz at h;split at h
 ·rename_i j
  split at h
  ·rename_i o g p
   injection h with h;injection h with d c b a;subst d;subst c;subst b
   have a:=eq_of_heq a;subst a;dsimp only at e;split at e
   ·rename_i hb
    injection e with h;injection h with d h;injection h with c h;injection h with b a;subst d;subst c;subst b;subst a
    exact IN j λ_ _ _ _=>yL g p s o (i9 hb) v hk
   ·cases e
  ·cases h
 ·rename_i j
  split at h
  ·rename_i o g p
   injection h with h;injection h with d c b a;subst d;subst c;subst b
   have a:=eq_of_heq a;subst a;dsimp only at e
   injection e with h;injection h with d h;injection h with c h;injection h with b a;subst d;subst c;subst b;subst a
   exact IN j λ_ _ _ _=>yT g p s o v hk
  ·cases h
 ·rename_i j
  split at h
  ·rename_i o g
   split at h
   ·rename_i t
    split at h
    ·rename_i hb f
     injection h with h;injection h with d c b a;subst d;subst c;subst b
     have a:=eq_of_heq a;subst a;dsimp only at e;split at e
     ·rename_i w
      injection e with h;injection h with d h;injection h with c h;injection h with b a;subst d;subst c;subst b;subst a
      have hb:=i9 hb;subst hb;unfold jv at f;rw[qW]at f
      rcases f with f|f
      ·exact IN j λ_ _ _ _=>yM g t s o w f hk
      ·rw[d4]at f
       have F:=i9 f.1;haveI:=(D0 (P:=P) _ x.ok).NT o;exact IN j λ_ _ _ _ y=>nV (λσ' nx' u=>ZR g (by rw[F,Nat.add_sub_cancel_left]at u;rw[u];exact t) s w) y ⟨tW (by omega),by simpa using f.2⟩ hk
     ·cases e
    ·cases h
   ·cases h
  ·cases h
 ·rename_i j
  split at h
  ·rename_i o g p
   split at h
   ·rename_i t
    split at h
    ·rename_i hb f B A z
     injection h with h;injection h with d c b a;subst d;subst c;subst b
     have a:=eq_of_heq a;subst a;dsimp only at e
     injection e with h;injection h with d h;injection h with c h;injection h with b a;subst d;subst c;subst b;subst a
     have hb:=i9 hb;subst hb;exact IN j λ_ _ _ _=>yV g p B t s o (i9 A) z (i9 f) hk
    ·cases h
   ·cases h
  ·cases h
 ·cases h
theorem tA[a:C1 P](h:kL a.T false true ops fl i L σ nx=some (True,L',σ',nx'))(hk:Lex P TB U ops (Aw fl (i+1) n) K (look L') σ' nx'):Lex P TB U ops (Aw fl i (n+1)) K (look L) σ nx:=s1 h True.intro hk
theorem tM[a:C1 P](h:kL a.T true false ops fl i L σ nx=some (True,L',σ',nx'))(hk:Lex P TB U ops (Aw fl (i+1) n) K (look L') σ' nx'):Lex P TB U ops (Aw fl i (n+1)) K (look L) σ nx:=s1 h True.intro hk
theorem tX[a:C1 P](h:kL a.T false false ops fl i L σ nx=some (True,L',σ',nx'))(hk:Lex P TB U ops (Aw fl (i+1) n) K (look L') σ' nx'):Lex P TB U ops (Aw fl i (n+1)) K (look L) σ nx:=s1 h True.intro hk
theorem t4[b:C1 P]{β:Type}{l:List β}{m:Nat}{k:β->Option Gv}{r:β}(h:pz b.T ops fl i L σ nx=some ⟨β,l,m,k⟩)(a:l[m]?=some r)(c:k r=some (True,L',σ',nx'))
 (hk:Lex P TB U ops (Aw fl (i+1) n) K (look L') σ' nx'):Lex P TB U ops (Aw fl i (n+1)) K (look L) σ nx:=s4 h a c True.intro hk
theorem s2[f:C1 P]{c:Bool}(h:qy f.T ops fl i L=some (d,c))(hk:∀b,c=b->Lex P TB U ops (Aw fl (i+1) n) K (look ((d,eB b)::L)) σ nx):Lex P TB U ops (Aw fl i (n+1)) K (look L) σ nx:=by
 unfold qy at h;split at h
 ·rename_i e
  split at h
  ·rename_i a
   injection h with h;injection h with j g;subst j;subst g
   exact IN e λ_ _ _ _=>yB a hk
  ·cases h
 ·cases h
theorem s3{b:Bool}(_h:qG ops fl i L=some b)(a:b=true->Lex P TB U ops (Aw fl i (n+1)) K (look L) σ nx)(c:b=false->Lex P TB U ops (Aw fl i (n+1)) K (look L) σ nx):Lex P TB U ops (Aw fl i (n+1)) K (look L) σ nx:=by
 cases b
 ·exact c rfl
 ·exact a rfl
theorem Zn{gg:FuncId}{es:List E}(h:o6 ops fl i L=some (d,gg,es)):∃x args tys cap a,l5 ops fl i L=some (some d,.call ⟨.value x,args,tys⟩)/\ev (look L) x=some (.o (.fn gg cap))/\KS (look L) args.toList=some a/\(a.all E.Gz && C.Ie cap)=true/\es=a++cap.map .o:=by
 unfold o6 at h;split at h
 ·rename_i c
  split at h
  ·rename_i b e
   split at h
   ·rename_i hp
    injection h with h;injection h with j h;injection h with g f;subst j;subst g;subst f
    exact⟨_,_,_,_,_,c,b,e,hp,rfl⟩
   ·cases h
  ·cases h
 ·cases h
theorem sP{gg:FuncId}{es:List E}{r:E}(h:o6 ops fl i L=some (d,gg,es))(b:Pure P TB gg es r)(c:r.Gz=true)(hk:Lex P TB U ops (Aw fl (i+1) n) K (look ((d,r)::L)) σ nx):Lex P TB U ops (Aw fl i (n+1)) K (look L) σ nx:=by
 obtain⟨x,args,tys,cap,g,e,a,f,hp,rfl⟩:=Zn h;exact IN e λ_ _ _ _=>yP a f hp b c hk
theorem sC{gg:FuncId}{es:List E}{c:Bool}(h:o6 ops fl i L=some (d,gg,es))(e:Pure P TB gg es (eB c))(hk:∀b,c=b->Lex P TB U ops (Aw fl (i+1) n) K (look ((d,eB b)::L)) σ nx):Lex P TB U ops (Aw fl i (n+1)) K (look L) σ nx:=by
 obtain⟨x,args,tys,cap,j,f,a,g,hp,rfl⟩:=Zn h;exact IN f λ_ _ _ _=>yC a g hp e hk
theorem tI:True:=True.intro
end
section
variable {P:Program}{TB:BJ}{U:Ctx}{N:Nat}{ops:Array Oper}{fl:Fl}{i:Nat}{K:Env->Ac->Nat->Prop}{Q:Exit->Env->Ac->Nat->Prop}{f:Env}{σ:Ac}{nx:Nat}
theorem aS{x y:Code}(h:Aj P TB U N x (MB (Aj P TB U N y Q) Q) f σ nx):Aj P TB U N (.seq x y) Q f σ nx:=.seq h
def Xn(N:Nat):List Oper->Bool
 | []=>true
 | o::r=>match o.dst with
  | some d=>bif Nat.ble (d+1) N then Xn N r else false
  | none=>Xn N r
theorem Zm{N:Nat}:∀ {l:List Oper},Xn N l=true->∀o∈l,(match o.dst with|some d=>Nat.blt d N|none=>true)=true
 | [],_,o,a=>by cases a
 | x :: l,h,o,a=>by
  unfold Xn at h
  rcases lw.1 a with rfl|a
  ·cases b:o.dst with
   | none=>rfl
   | some d=>
    rw[b]at h;dsimp only at h |-
    cases hb:Nat.ble (d+1) N with
    | false=>rw[hb]at h;cases h
    | true=>exact hb
  ·refine Zm ?_ o a
   cases b:x.dst with
   | none=>rw[b]at h;exact h
   | some d=>
    rw[b]at h;dsimp only at h
    cases hb:Nat.ble (d+1) N with
    | false=>rw[hb]at h;cases h
    | true=>rw[hb]at h;exact h
theorem dT{N:Nat}{ops:Array Oper}(h:Xn N ops.toList=true):Hm N ops=true:=by
 unfold Hm;rw[Array.all_eq_true];intro i hi;exact Zm h _ (by simp)
def mU(P:Program)(TB:BJ)(U:Ctx)(N:Nat):Code->(Exit->Env->Ac->Nat->Prop)->Option (Env->Ac->Nat->Prop)
 | .region _ ops false,Q=>bif Xn N ops.toList then some (Lex P TB U ops (Aw eo 0 ops.size) (λf σ nx=>Q .normal f σ nx)) else none
 | .seq c d,Q=>match mU P TB U N c (MB (Aj P TB U N d Q) Q) with
  | some G=>some G
  | none=>some (Aj P TB U N c (MB (Aj P TB U N d Q) Q))
 | _,_=>none
theorem fE:∀ {c:Code} {Q:Exit->Env->Ac->Nat->Prop} {G:Env->Ac->Nat->Prop} {f:Env} {σ:Ac} {nx:Nat},mU P TB U N c Q=some G->G f σ nx->Aj P TB U N c Q f σ nx
 | .region _ ops false,Q,G,f,σ,nx,h,g=>by
  unfold mU at h
  cases b:Xn N ops.toList with
  | false=>rw[b]at h;cases h
  | true=>rw[b]at h;injection h with h;subst h;exact pQ (dT b) g
 | .seq c d,Q,G,f,σ,nx,h,g=>by
  unfold mU at h;refine .seq ?_
  cases a:mU P TB U N c (MB (Aj P TB U N d Q) Q) with
  | none=>rw[a]at h;injection h with h;subst h;exact g
  | some G=>rw[a]at h;injection h with h;subst h;exact fE a g
 | .region _ ops true,Q,G,f,σ,nx,h,g=>by cases h
 | .skip,Q,G,f,σ,nx,h,g=>by cases h
 | .cond ..,Q,G,f,σ,nx,h,g=>by cases h
 | .block ..,Q,G,f,σ,nx,h,g=>by cases h
 | .ret,Q,G,f,σ,nx,h,g=>by cases h
 | .exit ..,Q,G,f,σ,nx,h,g=>by cases h
theorem aU{c:Code}{G:Env->Ac->Nat->Prop}(h:mU P TB U N c Q=some G)(g:G f σ nx):Aj P TB U N c Q f σ nx:=fE h g
theorem aR(h:Q .ret f σ nx):Aj P TB U N .ret Q f σ nx:=.ret h
theorem aK(h:Q .normal f σ nx):Aj P TB U N .skip Q f σ nx:=.skip h
theorem aE{id:Nat}(h:Q (.exit id) f σ nx):Aj P TB U N (.exit id) Q f σ nx:=.exit h
theorem aB{id:Nat}{c:Code}(h:Aj P TB U N c (pb id Q) f σ nx):Aj P TB U N (.block id c) Q f σ nx:=.block h
theorem aC{c:Operand}{x y:Code}{b:Bool}(e:ev f c=some (.o (.d (.v (.bool b)))))(ht:b=true->Aj P TB U N x Q f σ nx)(a:b=false->Aj P TB U N y Q f σ nx):Aj P TB U N (.cond c x y) Q f σ nx:=.cond e ht a
theorem eN {g:FuncId} {fn:Func} {c:Code} {args:List E} {post:E->Ac->Nat->Prop} (b:P.funcs[g]?=some fn) (hb:fn.body=some c) (a:(fn.name == "runtime.NumGoroutine")=false) (ha:Nat.ble args.length fn.ntmps=true)
 (h:∀U:Ctx,U.V.nx=nx->Aj P TB U fn.ntmps c (m9 fn.results post) (look (Cw 0 args)) σ nx):Spec P TB g σ nx args post:=.of b hb a (ce ha) h
end
section
variable {P:Program}{TB:BJ}{U:Ctx}{d:Option Tmp}{ty:TypeId}{pos:String}{af:Array Edge}{g:Option (Nat×Bool)}{f:Env}{σ:Ac}{nx:Nat}
theorem Yz{t e:TypeId}{k b:Nat}{z:List Value}{ik ik':IntKind}{n c:Int}(B:kK P t=some (e,k,b))(x:dn P e=some z)(f:z.length=k)(H:0<b)(I:0<=n)(A:n<=c)(G:c*b<=140737488355328)(w:World) :
 ∃zv:Value,zv.cells.toList=z/\(Instr.makeSlice t (.int ik n) (.int ik' c)).run P w=.ok (.slice (some ⟨w.heap.size,0,none⟩) n.toNat c.toNat) (w.alloc (.cells ((Array.range (c.toNat*z.length)).map (zv.cells[· % zv.cells.size]!)) e)):=by
 obtain⟨i,y,hi,j,l⟩:=He B;obtain⟨i',zv,a,m,h⟩:=HF x
 rw[hi]at a;injection a with a;subst a
 refine⟨zv,h,?_⟩
 have p:0<=c:=by omega
 have F:c<=c*b:=by
  have:=rC (show (1:Int)<=(b:Int) by omega) p;omega
 have wn:IntKind.i64.wrap n=n:=IntWalk.i64_in n (by omega);have wc:IntKind.i64.wrap c=c:=IntWalk.i64_in c (by omega)
 have v:zv.cells.size=k:=by rw[<-f,<-h];simp
 have q:(b:Int)*c<=140737488355328:=by rw[tH];exact G
 have ht:¬(281474976710656:Int)<(b:Int)*c:=by omega
 generalize d:(Array.range (c.toNat*z.length)).map (zv.cells[· % zv.cells.size]!)=cur
 have u:¬c<0:=by omega
 have s:¬n<0:=by omega
 have r:¬c<n:=by omega
 simp only[Instr.makeSlice,pu,run_underlying y,lm,asInt,asIntOf,pure_bind,bind_pure_comp,map_pure,typeInfo,sizeOf,wn,wc];by_cases g:c.toNat*k=0
 ·have o:cur = #[]:=by
   have:cur.size=0:=by rw[<-d];simp[f,g]
   exact sS this
  simp[go_sem,hi,l,j,u,s,r,ht,askRoom,g,newRow,newObj,o];rfl
 ·simp[go_sem,hi,l,j,u,s,r,ht,askRoom,g,newRow,newObj,zeroValue,typeInfo,m,<-d,f]
  rfl
theorem ZU{t e:TypeId}{k b:Nat}{z:List Value}{dz:List D}{x y:Operand}{ik ik':IntKind}{n:Int}[Y:CE P t e k b][S:BN P e z](X:ev f x=some (eI ik n))(T:ev f y=some (eI ik' n))(p:z.length=k)(G:z.all QN=true)(q:z.map zC=dz.map C.d)(K:0<b)
 (R:0<=n) (hc:n*b<=140737488355328):A5 P TB U ⟨d,.makeSlice t x y,ty,pos,af,g⟩ f σ nx (.o (.d (.l (List.replicate n.toNat dz)))):=
 Km λV ρ Q h2=>by
  have B:ρ x=.int ik n:=AP.val (Q.get (by simp[Op.operands]) X);have A:ρ y=.int ik' n:=AP.val (Q.get (by simp[Op.operands]) T);obtain⟨zv,u,c⟩:=Yz (ik:=ik) (ik':=ik') Y.out S.out p K R (ux n) hc V.w
  have hcb:n<=n*b:=by
   have:=rC (show (1:Int)<=(b:Int) by omega) R;omega
  have m:=NK (V:=V) (n:=n.toNat) u G;generalize N:(Array.range (n.toNat*z.length)).map (zv.cells[· % zv.cells.size]!)=cur at c m;obtain⟨hi,M⟩:=h2.Xe (w:=V.w.alloc (.cells cur e)) rfl rfl rfl (by simp) (λb hb=>A6 _ _ _ hb)
  have J:dz.length=k:=by have:=congrArg List.length q;simp at this;omega
  have a:∀(i:Nat) (r:List D) (j:Nat) (x:D),(List.replicate n.toNat dz)[i]?=some r->r[j]?=some x->∃v,cur[i*k+j]?=some v/\C9 V.I V.w x v:=λi r j x hi s=>by
   have F:r=dz:=sR (co hi);subst F
   have H:i<n.toNat:=by have:=(am.1 hi).1;simpa using this
   obtain⟨v,h9,h⟩:=Ho (k:=k) m (λr F=>by rw[sR F];simp[p]) i (z.map zC) j (.d x) (by simp[H]) (by rw[q];simp[s])
   cases h with
   | d h=>exact⟨v,h9,h⟩
  refine⟨.slice (some ⟨V.w.heap.size,0,none⟩) n.toNat n.toNat,LW V (V.w.alloc (.cells cur e)),?_,M,hi,rfl,?_⟩
  ·show ((do let v <-Instr.makeSlice t (ρ x) (ρ y);pure (Go.Next.value v):Sem Go.Next)).run P V.w=_
   rw[B,A];simp only[pu,c,lm];rfl
  ·have hb:(LW V (V.w.alloc (.cells cur e))).I V.w.heap.size:=.inr rfl
   have Z:(LW V (V.w.alloc (.cells cur e))).w.heap[V.w.heap.size]?=some (.cells cur e):=BW _ _;have := @C9.l (LW V (V.w.alloc (.cells cur e))).I (LW V (V.w.alloc (.cells cur e))).w (List.replicate n.toNat dz) V.w.heap.size 0 k n.toNat (λi j=>cur.getD (i*k+j) undef) hb (by simp) (by unfold maxLen;omega)
    (λi r hi=>by rw[sR (co hi)];exact J)
    (λi r j x hi s=>by
     obtain⟨v,L,_⟩:=a i r j x hi s
     simp[World.cell?,Z,L])
    (λi r j x hi s=>by
     obtain⟨v,L,h7⟩:=a i r j x hi s
     have:cur.getD (i*k+j) undef=v:=by simp[L]
     rw[this];exact h7.ext M)
   rw[uB]at this;exact .d this
end
end Go.Am
