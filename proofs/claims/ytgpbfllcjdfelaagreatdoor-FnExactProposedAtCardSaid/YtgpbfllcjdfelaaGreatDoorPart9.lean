/-
  More quiet operations: closures, checks for nil, tables, pieces of slices and strings, text out of bytes.
-/
import Derived.Test.YtgpbfllcjdfelaaGreatDoorPart8
import Derived.Laws.BytesArg
import Derived.Laws.Slices
import Derived.MapKept
set_option linter.all false
namespace Go.Am
open Go
def Ud:List E->Option (List C)
 | []=>some []
 | .o c::l=>(Ud l).map (c :: ·)
 | _=>none
theorem Ld:∀ {l:List E} {cs:List C},Ud l=some cs->l=cs.map .o
 | [],cs,h=>by injection h with h;subst h;rfl
 | e::l,cs,h=>by
  cases e<;>simp only [Ud] at h<;>try cases h
  simp only [br] at h;obtain⟨ds',a,rfl⟩:=h;simp [Ld a]
class OY (P:Program) (t:TypeId):Prop where
 out:∃e,P.underlying t=some (.pointer e)
class Sd (TB:Bg) (b:Nat) (vals:outParam (List Value)):Prop where
 out:(∃(cur:Array Value) (T:TypeId) (fr:_),(b,Obj.cells cur T fr)∈TB/\∀(i:Nat) v,vals[i]? = some v->cur[i]? = some v)/\vals.all KQ=true
section
variable {P:Program}{TB:Bg}{Z:Ctx}{d:Option Tmp}{ty:TypeId}{pos:String}{af:Array Edge}{g:Option (Nat×Bool)}{f:Env}{σ:Ab}{nx:Nat}
variable {K:E->Ab->Nat->Prop}
theorem WI{α:Type}{t e:TypeId}{x:Operand}{l:List α}{c:α->List D}{k b:Nat}[h:Ch P t e k b](a:ev f x=some (.o (.d (.l (l.map c))))):AP P TB Z ⟨d,.call ⟨.builtin .len,#[x],#[t]⟩,ty,pos,af,g⟩ f σ nx (eI .i64 l.length):=by
 have:=Tz (t:=t) (P:=P) (TB:=TB) (Z:=Z) (d:=d) (ty:=ty) (pos:=pos) (af:=af) (g:=g) (σ:=σ) (nx:=nx) a;rwa [bK] at this
theorem WO{t yt:TypeId}{x y:Operand}{k:IntKind}{m n:Int}(b:ev f x=some (eI k m))(a:ev f y=some (eI k n))(c:0<=m)(e:0 < n) :
 AP P TB Z ⟨d,.binOp .rem t x y yt,ty,pos,af,g⟩ f σ nx (eI k (m % n)):=YI b a (by omega) (Int.tmod_eq_emod_of_nonneg c)
theorem WN{t yt:TypeId}{x y:Operand}{m n:Int}(c:ev f x=some (eI .i64 m))(b:ev f y=some (eI .i64 n))(a:0<=m)(h:m<=9223372036854775807)(e:0 < n) :
 AP P TB Z ⟨d,.binOp .quo t x y yt,ty,pos,af,g⟩ f σ nx (eI .i64 (m / n)):=YH c b (by omega) (by
  rw [Int.tdiv_eq_ediv_of_nonneg a];have j:0<=m / n:=fe a (by omega);have i:m / n<=m:=Int.ediv_le_self _ a
  exact IntWalk.i64_in _ (by omega))
def notNil:Operand->Bool
 | .const (.slice none 0 0)=>false
 | _=>true
theorem ZG{gg:FuncId}{caps:Array Operand}{es:List E}{cs:List C}(a:Hz f caps.toList=some es)(h:Ud es=some cs):AP P TB Z ⟨d,.makeFunc (.func gg) #[] caps,ty,pos,af,g⟩ f σ nx (.o (.fn gg cs)):=
 AF λV X p _=>by
  refine⟨.func (.func gg) #[] (caps.map X),by simp [execOp,Instr.makeFunc,go_sem],AA.fn ?_ λj c v l k=>?_⟩
  ·have b:=Ce a
   have n:=congrArg List.length (Ld h);simp at b n |-;omega
  ·have b:=FR (f:=f) (V:=V) (X:=X) (λy i e m=>p.get (by simp [Op.operands];simpa using i) m) a j (.o c) v (by rw [Ld h];simp [l]) (by rw [<-dL];simpa using k)
   exact b
theorem UP{x:Operand}{cs:List D}(b:ev f x=some (.o (.ip cs))):AP P TB Z ⟨d,.nilCheck x,ty,pos,af,g⟩ f σ nx (.o (.ip cs)):=
 AF λV X e _=>by
  have a:=e.get (by simp [Op.operands]) b;generalize c:X x=v at a;refine⟨v,?_,a⟩;obtain⟨a⟩:=a;cases a;simp [execOp,c,go_sem]
theorem WM{x:Operand}{id k i j:Nat}(b:ev f x=some (.o (.ptr id k i j))):AP P TB Z ⟨d,.nilCheck x,ty,pos,af,g⟩ f σ nx (.o (.ptr id k i j)):=
 AF λV X e _=>by
  have a:=e.get (by simp [Op.operands]) b;generalize c:X x=v at a;refine⟨v,?_,a⟩;cases a;simp [execOp,c,go_sem]
theorem UO{x:Operand}{gg:FuncId}{cs:List C}(b:ev f x=some (.o (.fn gg cs))):AP P TB Z ⟨d,.nilCheck x,ty,pos,af,g⟩ f σ nx (.o (.fn gg cs)):=
 AF λV X e _=>by
  have a:=e.get (by simp [Op.operands]) b;generalize c:X x=v at a;refine⟨v,?_,a⟩;obtain⟨vs,rfl,_⟩:=Hc a;simp [execOp,c,go_sem]
theorem OA{t e:TypeId}{a:Option Addr}(b:P.underlying t=some (.pointer e))(w:World):(Op.equal t (.pointer a) (.pointer none)).run P w=.ok a.isNone w:=by
 unfold Op.equal Op.maxDepth;rw [show 10000=9999+1 from rfl,Op.equalIn];cases a<;>simp [run_underlying b,go_sem]
theorem RJ{t yt:TypeId}{x y:Operand}{cs:List D}[l:OY P t](j:ev f x=some (.o (.ip cs)))(i:ev f y=some (.o (.d (.v (.pointer none))))):AP P TB Z ⟨d,.binOp .eql t x y yt,ty,pos,af,g⟩ f σ nx (eB false):=
 AF λV X h _=>by
  have c:=h.get (by simp [Op.operands]) j;have s:X y=.pointer none:=AA.val (h.get (by simp [Op.operands]) i);generalize k:X x=v at c;obtain⟨c⟩:=c;obtain⟨e,m⟩:=l.out;cases c;rename_i b o vs hb z u;refine⟨.bool false,?_,.d (.v rfl)⟩;have r:binOp .eql t (.pointer (some ⟨b,o,none⟩)) (.pointer none)=(do pure (.bool (<-Op.equal t (.pointer (some ⟨b,o,none⟩)) (.pointer none)))):=rfl;have q:eqGuard .eql t x y (.pointer (some ⟨b,o,none⟩)) (.pointer none)=pure ():=rfl;have p:=OA (a:=some ⟨b,o,none⟩) m V.w;have n:execOp X ⟨d,.binOp .eql t x y yt,ty,pos,af,g⟩=(do let v <-(do eqGuard .eql t x y (X x) (X y);binOp .eql t (X x) (X y));pure (.value v)):=rfl;rw [n,k,s,r,q];simp [p,go_sem]
theorem PA{t yt:TypeId}{x y:Operand}[h:OY P t](c:ev f x=some (.o (.d (.v (.pointer none)))))(b:ev f y=some (.o (.d (.v (.pointer none))))):AP P TB Z ⟨d,.binOp .eql t x y yt,ty,pos,af,g⟩ f σ nx (eB true):=
 Bo c b rfl λw=>by
  obtain⟨e,i⟩:=h.out;have l:binOp .eql t (.pointer none) (.pointer none)=(do pure (.bool (<-Op.equal t (.pointer none) (.pointer none)))):=rfl;have k:eqGuard .eql t x y (.pointer none) (.pointer none)=pure ():=rfl;have j:=OA (a:=none) i w;rw [l,k];simp [j,go_sem]
def Zu(c:UInt8):List D:=[.v (.int .u8 c.toNat)]
def DY(c:UInt8):List C:=[.d (.v (.int .u8 c.toNat))]
class P8 (P:Program) (t:TypeId):Prop where
 out:∃e,P.underlying t=some (.slice e)/\P.underlying e=some (.int .u8)
theorem Hx{src dst:TypeId}(a:P8 P src)(b:CD P dst)(w:World):(convert src dst (.slice none 0 0)).run P w=.ok (.string ⟨#[]⟩) w:=by
 obtain⟨e,d,c⟩:=a.out;exact run_convert_bytes_nil w src e d c 0 0 dst b.out
theorem UU{src dst:TypeId}{x:Operand}{rows:List (List D)}(bs:List UInt8)[q:P8 P src][s:CD P dst](z:ev f x=some (.o (.d (.l rows))))(n:rows=bs.map Zu) :
 AP P TB Z ⟨d,.convert src dst x,ty,pos,af,g⟩ f σ nx (.o (.d (.v (.string ⟨bs.toArray⟩)))):=
 AF λV X L _=>by
  have p:=L.get (by simp [Op.operands]) z;generalize A:X x=v at p;refine⟨.string ⟨bs.toArray⟩,?_,.d (.v rfl)⟩;have G:execOp X ⟨d,.convert src dst x,ty,pos,af,g⟩=(do let v <-convert src dst (X x);pure (.value v)):=rfl;rw [G,A];obtain⟨p⟩:=p
  cases p with
  | nil=>
   have:bs=[]:=by simpa using n.symm
   subst this;simp [Hx q s,go_sem]
  | @e a cap K=>
   have:bs=[]:=by simpa using n.symm
   subst this;obtain⟨e,t,i⟩:=q.out
   have h:=run_convert_bytes_back (P:=P) V.w src dst e a cap [] t i s.out λj r=>by simp at r
   have h:(convert src dst (.slice (some a) 0 cap)).run P V.w=_:=h;simp [h,go_sem]
  | @l _ b o k cap vs hb K M J I H=>
   obtain⟨e,t,i⟩:=q.out
   have B:rows.length=bs.length:=by rw [n];simp
   have h:=run_convert_bytes_back (P:=P) V.w src dst e ⟨b,o,none⟩ cap bs t i s.out λj r=>by
    have c:rows[j]? = some (Zu bs[j]):=by rw [n];simp [r]
    have m:=I j _ 0 _ c rfl;have y:=H j _ 0 _ c rfl;have F:k=1:=(J j _ c).symm;subst F;rw [Bi];have u:vs j 0=.int .u8 (bs[j].toNat:Int):=y.val;rw [u] at m
    simpa using m
   rw [B];simp [h,go_sem]
theorem QK{src dst:TypeId}{x:Operand}{id off len:Nat}{T:TypeId}{rows:List (List C)}(bs:List UInt8)[r:P8 P src][y:CD P dst](z:ev f x=some (.o (.arr id 1 off len)))(B:look σ id=some (.cells T 1 rows))
 (F:off+len<=rows.length) (s:(rows.drop off).take len=bs.map DY):AP P TB Z ⟨d,.convert src dst x,ty,pos,af,g⟩ f σ nx (.o (.d (.v (.string ⟨bs.toArray⟩)))):=
 AF λV X K hi=>by
  have i:=K.get (by simp [Op.operands]) z;generalize A:X x=v at i;refine⟨.string ⟨bs.toArray⟩,?_,.d (.v rfl)⟩;have G:execOp X ⟨d,.convert src dst x,ty,pos,af,g⟩=(do let v <-convert src dst (X x);pure (.value v)):=rfl;rw [G,A]
  have b:bs.length=len:=by
   have:=congrArg List.length s;simp at this;omega
  have i:AA V (.arr id 1 off len) v:=i
  cases i with
  | nil I H=>
   have:bs=[]:=bM.1 b;subst this;simp [Hx r y,go_sem]
  | arr I k H=>
   rcases hi.st.obj id _ B with ⟨l,_⟩|⟨_,cur,l,N,M,L,J,q⟩
   ·exact absurd l k
   ·obtain⟨e,p,n⟩:=r.out
    subst b
    have m:=run_convert_bytes_back (P:=P) V.w src dst e ⟨V.X id,off*1,none⟩ (V.cap id - off) bs p n y.out λj t=>by
     have h:rows[off+j]? = some (DY bs[j]):=by
      have a:((rows.drop off).take bs.length)[j]? = some (DY bs[j]):=by rw [s];simp [t]
      rw [bS,if_pos t,bX] at a;exact a
     obtain⟨u,a,c⟩:=q _ _ 0 _ h rfl;have c:=c.val;subst c;rw [Bi]
     simpa [World.cell?,l] using a
    rw [bV,m];rfl
end
inductive Sb (e:D):D->Prop
 | refl:Sb e e
 | l {rows:List (List D)} {i j:Nat} {r:List D} {x:D}:rows[i]? = some r->r[j]? = some x->Sb e x->Sb e (.l rows)
 | p {cs:List D} {j:Nat} {x:D}:cs[j]? = some x->Sb e x->Sb e (.p cs)
theorem Sb.len{I:Nat->Prop}{w:World}{rows:List (List D)}{d:D}(h:Sb (.l rows) d):∀ {v:Value},BX I w d v->rows.length<=maxLen:=by
 induction h with
 | refl=>
  intro v h
  cases h with
  | nil=>simp
  | e=>simp
  | l _ i f=>omega
 | l c b _ a=>
  intro v h
  cases h with
  | nil=>simp at c
  | e=>simp at c
  | l _ _ _ _ _ g=>exact a (g _ _ _ _ c b)
 | p b _ a=>
  intro v h
  cases h with
  | p _ _ f=>exact a (f _ _ b)
def Zk(d:D):E->Prop
 | .o (.d x)=>Sb d x
 | .a cs=>∃(j:Nat) (x:D),cs[j]? = some (.d x)/\Sb d x
 | _=>False
theorem Zk.len{V:View}{rows:List (List D)}{e:E}{v:Value}(h:Zk (.l rows) e)(b:A1 V e v):rows.length<=maxLen:=by
 cases e with
 | o c=>
  cases c with
  | d x=>cases b with|d b=>exact Sb.len h b
  | _=>exact h.elim
 | a cs=>
  obtain⟨j,x,g,i⟩:=h;obtain⟨vs,_,n,m⟩:=b
  have f:j < vs.size:=by rw [n];exact(am.1 g).1
  cases m j _ _ g (bP f) with
  | d k=>exact Sb.len i k
 | t=>exact h.elim
 | e=>exact h.elim
theorem Al.bound{P:Program}{TB:Bg}{Z:Ctx}{N:Nat}{c:Code}{Q:Exit->Env->Ab->Nat->Prop}{f:Env}{σ:Ab}{nx:Nat}(t:Nat){e:E}(ht:f t=some e)
 (h:(∀rows,Zk (.l rows) e->rows.length<=9223372036854775807)->Al P TB Z N c Q f σ nx):Al P TB Z N c Q f σ nx:=by
 intro V a b;exact h (λrows hi=>hi.len (b.env t e ht)) V a b
section
variable {P:Program}{TB:Bg}{Z:Ctx}{ops:Array Oper}{fl:Fl}{i n:Nat}{L:List (Nat×E)}{σ:Ab}{nx:Nat}{K:Env->Ab->Nat->Prop}{d:Option Tmp}{ty:TypeId}{pos:String}{af:Array Edge}{g:Option (Nat×Bool)}
theorem XO(id k:Nat)(o:O)(r:Ab):kill id ((k,o)::r)=if k=id then kill id r else (k,o)::kill id r:=by
 simp only [kill];by_cases h:k=id
 ·subst h;simp
 ·have:Nat.beq k id=false:=by
   cases hb:Nat.beq k id
   ·rfl
   ·exact absurd (bA hb) h
  rw [this,cond_false,if_neg h]
end
end Go.Am
namespace Go.Am
theorem cX:((∀r f,CC r f []=True)/\(∀r f t e L,CC r f ((t,e)::L)=(f t=some (e.AN r)/\CC r f L))/\(∀r σ,AL r σ []=True)/\(∀r σ id o L,AL r σ ((id,o)::L)=(look σ (r id)=some (o.AN r)/\AL r σ L)))/\
 ((∀(α:Type) (k:Nat) (x:α) (r:List (Nat×α)) (i:Nat),look ((k,x)::r) i=if k=i then some x else look r i)/\(∀l nx i,nm l nx i=match l[i]? with|some j=>j|none=>nx+i)/\(∀l nx i,FJ l nx i=match l[i]? with|some j=>j|none=>nx+(i - l.length)))/\
 ((∀r c,E.AN r (.o c)=.o (C.AN r c))/\(∀r cs,E.AN r (.a cs)=.a (C.Bh r cs))/\(∀r xs,E.AN r (.t xs)=.t (xs.map λx=>(x.1,C.Bh r x.2)))/\(∀r,E.AN r .e=.e))/\
 ((∀r x,C.AN r (.d x)=.d x)/\(∀r id k off len,C.AN r (.arr id k off len)=.arr (r id) k off len)/\(∀r id k i j,C.AN r (.ptr id k i j)=.ptr (r id) k i j)/\(∀r f cap,C.AN r (.fn f cap)=.fn f (C.Bh r cap))/\(∀r id,C.AN r (.mp id)=.mp (r id))/\(∀r f l,C.AN r (.mv f l)=.mv f (C.Bh r l))/\(∀r,C.Bh r []=[])/\(∀r c l,C.Bh r (c::l)=C.AN r c::C.Bh r l))/\
 ((∀r T k rows,O.AN r (.cells T k rows)=.cells T k (rows.map (C.Bh r)))/\(∀r es,O.AN r (.mp es)=.mp es)/\(∀r T l,O.AN r (.sld T l)=.sld T l)/\(∀r,Ab.AN r []=[])/\(∀r i o σ,Ab.AN r ((i,o)::σ)=(r i,o.AN r)::Ab.AN r σ))/\
 ((∀id,kill id []=[])/\(∀id k o r,kill id ((k,o)::r)=if k=id then kill id r else (k,o)::kill id r)/\(∀σ,Bt [] σ=σ)/\(∀id r σ,Bt (id::r) σ=Bt r (kill id σ)))/\
 ((∀z,BA [] z=z)/\(∀off cs r z,BA ((off,cs)::r) z=BA r (Aj z off cs))/\(∀r j cs,Aj r j cs=r.take j++cs++r.drop (j+cs.length))/\(∀c,eC (.o c)=[c])/\(∀cs,eC (.a cs)=cs)/\(∀xs,eC (.t xs)=[])/\eC .e=[.d (.l [])])/\
 (∀k,Br k []=[])/\(∀k e l,Br k (e::l)=(k,e)::Br (k+1) l)/\∀(α Y δ:Type) (f:Y->δ) (g:α->Y),f∘g=λx=>f (g x):=by
 refine⟨⟨λ_ _=>rfl,λ_ _ _ _ _=>rfl,λ_ _=>rfl,λ_ _ _ _ _=>rfl⟩,⟨λ_=>Ak,λ_ _ _=>rfl,λ_ _ _=>rfl⟩,⟨λ_ _=>rfl,λ_ _=>rfl,λ_ _=>rfl,λ_=>rfl⟩,⟨λ_ _=>by simp [C.AN],λ_ _ _ _ _=>by simp [C.AN],λ_ _ _ _ _=>by simp [C.AN],λ_ _ _=>by simp [C.AN],λ_ _=>by simp [C.AN],λ_ _ _=>by simp [C.AN],λ_=>by simp [C.Bh],λ_ _ _=>by simp [C.Bh]⟩,⟨λ_ _ _ _=>rfl,λ_ _=>rfl,λ_ _ _=>rfl,λ_=>rfl,λ_ _ _ _=>rfl⟩,⟨λ_=>rfl,λ_ _ _ _=>XO _ _ _ _,λ_=>rfl,λ_ _ _=>rfl⟩,⟨λ_=>rfl,λ_ _ _ _=>rfl,λ_ _ _=>rfl,λ_=>rfl,λ_=>rfl,λ_=>rfl,rfl⟩,λ_=>rfl,λ_ _ _=>rfl,λ_ _ _ _ _=>rfl⟩
def Ze:List Nat->Bool
 | []=>true
 | x::r=>!(r.any (Nat.beq x)) && Ze r
theorem Tf:∀ {l:List Nat},Ze l=true->l.Nodup
 | [],_=>List.nodup_nil
 | x::r,h=>by
  simp only [Ze,bu,dE,List.any_eq_false] at h;exact List.nodup_cons.2 ⟨λa=>h.1 x a (ei x),Tf h.2⟩
def ZB(l:List Nat)(m:Nat):Bool:=(List.range m).all (λi=>l[i]? == some i) && Ze l
theorem cA{α:Type}{a:α}{l m:List α}:a::l++m=a::(l++m):=rfl
theorem cB{α:Type}{m:List α}:[]++m=m:=rfl
theorem rl{l:List Nat}{m k:Nat}(h:k=m)(a:ZB l m=true):(∀i,i < k->l[i]? = some i)/\l.Nodup:=by
 subst h;unfold ZB at a;rw [bu,bH] at a;exact⟨λi hi=>by simpa using a.1 i (cG.2 hi),Tf a.2⟩
theorem Dn{l:List Nat}{m k n:Nat}(h:k=m)(a:ZB l m=true)(b:l.length=n):(∀i,i < k->l[i]? = some i)/\l.Nodup/\l.length=n:=⟨(rl h a).1,(rl h a).2,b⟩
theorem rg{m k n:Nat}(h:k=m)(a:Nat.ble m n=true):(∀i,i < k->(List.range n)[i]? = some i)/\(List.range n).Nodup/\(List.range n).length=n:=by
 subst h;have:=bn a;exact⟨λi hi=>dR (by omega),List.nodup_range,eO⟩
def IA(V:View)(m:Nat):View:={ V with nx:=m }
theorem Qx{V:View}{m:Nat}(h:m<=V.nx):Ext (IA V m) V:=⟨λ_ h=>h,λ_ _=>rfl,bJ _,λ_ _=>rfl,λ_ _=>rfl,λ_ _=>Iff.rfl,h⟩
theorem T9{V V1:View}{l:List Nat}{m:Nat}(d:m<=l.length)(e:Ext (IA (V.AN (nm l V.nx) l.length) m) V1):Ext (V.AN (nm (l.take m) V.nx) (l.take m).length) V1:=by
 have c:(l.take m).length=m:=by rw [dK];exact Nat.min_eq_left d
 have b:∀id,id < m->nm (l.take m) V.nx id=nm l V.nx id:=λid a=>by
  unfold nm;rw [bS,if_pos a]
 refine⟨e.i,e.heap,e.size,λid a=>?_,λid a=>?_,λid a=>?_,by show (l.take m).length<=_;rw [c];exact e.nx⟩
 ·have a:id < m:=by have:id < (l.take m).length:=a;omega
  show _=V.X (nm (l.take m) V.nx id)
  rw [b id a];exact e.X id a
 ·have a:id < m:=by have:id < (l.take m).length:=a;omega
  show _=V.cap (nm (l.take m) V.nx id)
  rw [b id a];exact e.cap id a
 ·have a:id < m:=by have:id < (l.take m).length:=a;omega
  show _↔V.nl (nm (l.take m) V.nx id)
  rw [b id a];exact e.nl id a
section
variable (P:Program)(TB:Bg)
def AR(g:FuncId)(m:Nat)(σ:Ab)(nx:Nat)(args:List E)(post:E->Ab->Nat->Prop):Prop:=
 Vx P g/\∀V vs S,Good TB V σ nx S->Lj V args vs->Calls P g vs V.w λe w'=>∃V' v x σ',e=.returned v/\V'.w=w'/\Inv TB (Dj V (IA V m) σ S) V' σ'/\A1 V' x v/\post x σ' V'.nx
end
section
variable {P:Program}{TB:Bg}{Z:Ctx}{d:Option Tmp}{ty:TypeId}{pos:String}{af:Array Edge}{g:Option (Nat×Bool)}{f:Env}{σ:Ab}{nx:Nat}{N:Nat}
variable {K:E->Ab->Nat->Prop}
theorem Rn{V V1:View}{l:List Nat}{m:Nat}{y A:Ab}(h:Inv TB Z V σ)(hl:∀i∈l,i < V.nx)(hS:AL (nm l V.nx) σ y)(hm:m<=l.length)
 {S:Nx} (M:Ji TB V σ S) (hSJ:∀b,S.J b->Z.J b\/Z.V.w.heap.size<=b\/Z.F b) (K:∀b,S.B b->Z.V.w.heap.size<=b\/Z.F b)
 (u:Inv TB (Dj (V.AN (nm l V.nx) l.length) (IA (V.AN (nm l V.nx) l.length) m) y S) V1 A) :
 Inv TB Z (EK V V1 (l.take m)) (A.AN (FJ (l.take m) V.nx)++Bt l σ)/\Ext V (EK V V1 (l.take m))/\O2 V1 (EK V V1 (l.take m)) (FJ (l.take m) V.nx):=by
 have hx:=T9 hm u.ext;have v:=GY (l:=l.take m) (λi hi=>hl i (ce hi)) hx;have hlen:(l.take m).length<=V1.nx:=hx.nx;have hsz:V.w.heap.size<=V1.w.heap.size:=u.ext.size
 have G:∀b,C0 (V.AN (nm l V.nx) l.length) y b->∃i o,i∈l/\look σ i=some o/\¬V.nl i/\Di V i o b:=by
  rintro b ⟨j,o,hj,R,hb⟩;have a:=hS.get j o hj;have g:=Oj (h.st.lt _ _ a);have d:=Fk (nx:=V.nx) g;refine⟨l[j],o.AN _,cx g,by rw [<-d];exact a,?_,?_⟩
  ·have:¬V.nl (nm l V.nx j):=R
   rwa [d] at this
  ·have c:=BZ.1 hb
   rwa [d] at c
 have H:∀b,C0 (V.AN (nm l V.nx) l.length) y b->b < V.w.heap.size/\¬V.I b/\(Z.V.w.heap.size<=b\/Z.F b):=by
  intro b hb;obtain⟨i,o,_,g,d,c⟩:=G b hb;exact⟨(h.st.obj i o g).blt d c,h.st.free i o g d b c,h.live i o g d b c⟩
 have t:∀i o,i∉l->look σ i=some o->¬V.nl i->∀b,Di V i o b->¬C0 (V.AN (nm l V.nx) l.length) y b:=by
  intro i o hi s R b hb U;obtain⟨j,o',g,d,c,h6⟩:=G _ U;exact h.st.inj j i o' o d s (λe=>hi (e ▸ g)) c R b h6 hb
 have P:∀b,b < V.w.heap.size->¬C0 (V.AN (nm l V.nx) l.length) y b->¬S.B b->V1.w.heap[b]? = V.w.heap[b]?:=λb hb U hB=>u.old b hb λh=>h.elim U hB
 have e:Ext V (EK V V1 (l.take m)):=by
  refine⟨λb hb=>u.ext.i b hb,λb hb=>u.ext.heap b hb,hsz,λi hi=>?_,λi hi=>?_,λi hi=>?_,Nat.le_add_right _ _⟩
  ·show (if _ then _ else _)=_;rw [if_pos hi]
  ·show (if _ then _ else _)=_;rw [if_pos hi]
  ·show (if _ then _ else _)↔_;rw [if_pos hi]
 have f:∀i o,look (A.AN (FJ (l.take m) V.nx)++Bt l σ) i=some o->(∃j p,j < V1.nx/\FJ (l.take m) V.nx j=i/\look A j=some p/\o=p.AN (FJ (l.take m) V.nx))\/(i∉l/\i < V.nx/\look σ i=some o):=by
  intro i o s
  rcases BC s with a|a
  ·obtain⟨j,p,g,d,c⟩:=Kn a
   exact .inl ⟨j,p,u.st.lt j p d,g,d,c⟩
  ·obtain⟨g,d⟩:=A3 l σ i o a
   exact .inr ⟨g,h.st.lt i o d,d⟩
 have n:∀i,i < V.nx->((EK V V1 (l.take m)).nl i↔V.nl i):=λi hi=>e.nl i hi
 have Q:∀j p,look A j=some p->¬V1.nl j->∀i o,i∉l->look σ i=some o->¬V.nl i->∀b,Di V1 j p b->¬Di V i o b:=by
  intro j p hj hnj i o hi s T b hb q
  rcases u.live j p hj hnj b hb with a|a
  ·have:=(h.st.obj i o s).blt T q
   have a:V.w.heap.size<=b:=a;omega
  ·rcases a with a|a
   ·exact t i o hi s T b q a
   ·exact M.ap b ⟨i,o,s,T,q⟩ a
 refine⟨⟨u.os.trans h.os,u.tape.trans h.tape,u.output.trans h.output,?_,u.iLt,?_,h.ext.trans e,⟨?_,?_,?_,?_⟩,?_,u.tabs,?_⟩,e,v⟩
 ·intro b hb U
  have:¬C0 (V.AN (nm l V.nx) l.length) y b:=λq=>by
   rcases(H b q).2.2 with a|a
   ·omega
   ·exact U a
  exact(P b (bN hb h.ext.size) this λhx=>(K b hx).elim (λh=>by omega) U).trans (h.old b hb U)
 ·intro b hb
  rcases u.iNew b hb with a|a|a
  ·exact h.iNew b a
  ·exact .inr (.inl (bT h.ext.size a))
  ·exact .inr (a.elim (λa=>(H b a).2.2) (K b))
 ·intro i o s
  rcases f i o s with ⟨j,p,a,rfl,d,rfl⟩|⟨a,g,d⟩
  ·exact(u.st.obj j p d).push v a
  ·exact(h.st.obj i o d).AU e g λx b hb=>P _ ((h.st.obj i o d).blt x hb) (t i o a d x b hb) (M.ap b ⟨i,o,d,x,hb⟩)
 ·intro i o s
  rcases f i o s with ⟨j,p,a,rfl,d,rfl⟩|⟨a,g,d⟩
  ·exact v.lt j a
  ·exact bN g e.nx
 ·intro i o s x b hb hI
  rcases f i o s with ⟨j,p,a,rfl,d,rfl⟩|⟨a,g,d⟩
  ·exact u.st.free j p d (λh=>x ((v.nl j a).2 h)) b ((BK v a).1 hb) hI
  ·have k:¬V.nl i:=λh=>x ((n i g).2 h)
   have hb:=(Aw e g).1 hb
   rcases u.iNew _ hI with c|c|c
   ·exact h.st.free i o d k b hb c
   ·have:=(h.st.obj i o d).blt k hb
    have c:V.w.heap.size<=b:=c;omega
   ·rcases c with c|c
    ·exact t i o a d k b hb c
    ·exact M.ap b ⟨i,o,d,k,hb⟩ c
 ·intro i i' o o' s ho' hne x k b hb q
  rcases f i o s with ⟨j,p,a,rfl,d,rfl⟩|⟨a,g,d⟩<;>rcases f i' o' ho' with ⟨j',o0',z,rfl,L,rfl⟩|⟨z,N,L⟩
  ·exact u.st.inj j j' p o0' d L (λe=>hne (by rw [e])) (λh=>x ((v.nl j a).2 h)) (λh=>k ((v.nl j' z).2 h)) b ((BK v a).1 hb) ((BK v z).1 q)
  ·exact Q j p d (λh=>x ((v.nl j a).2 h)) i' o' z L (λh=>k ((n i' N).2 h)) b ((BK v a).1 hb) ((Aw e N).1 q)
  ·exact Q j' o0' L (λh=>k ((v.nl j' z).2 h)) i o a d (λh=>x ((n i g).2 h)) b ((BK v z).1 q) ((Aw e g).1 hb)
  ·exact h.st.inj i i' o o' d L hne (λh=>x ((n i g).2 h)) (λh=>k ((n i' N).2 h)) b ((Aw e g).1 hb) ((Aw e N).1 q)
 ·intro i o s x b hb
  rcases f i o s with ⟨j,p,a,rfl,d,rfl⟩|⟨a,g,d⟩
  ·rcases u.live j p d (λh=>x ((v.nl j a).2 h)) b ((BK v a).1 hb) with c|c
   ·exact .inl (bT h.ext.size c)
   ·exact c.elim (λc=>(H _ c).2.2) (K b)
  ·exact h.live i o d (λh=>x ((n i g).2 h)) b ((Aw e g).1 hb)
 ·obtain⟨S1,k1,k2,k3⟩:=u.hid
  refine⟨S1,⟨k1.r,k1.ji,k1.bi,λb ⟨i,o,s,x,hb⟩ hB=>?_⟩,λb hb=>?_,λb hb=>?_⟩
  ·rcases f i o s with ⟨j,p,a,rfl,d,rfl⟩|⟨a,g,d⟩
   ·exact k1.ap b ⟨j,p,d,λh=>x ((v.nl j a).2 h),(BK v a).1 hb⟩ hB
   ·have k:¬V.nl i:=λh=>x ((n i g).2 h)
    have hb:=(Aw e g).1 hb
    rcases k3 b hB with c|c|c
    ·have:=(h.st.obj i o d).blt k hb
     have c:V.w.heap.size<=b:=c;omega
    ·exact t i o a d k b hb c
    ·exact M.ap b ⟨i,o,d,k,hb⟩ c
  ·rcases k2 b hb with c|c|c|c
   ·exact hSJ b c
   ·exact .inr (.inl (bT h.ext.size c))
   ·exact .inr (H _ c).2.2
   ·exact .inr (K b c)
  ·rcases k3 b hb with c|c|c
   ·exact .inl (bT h.ext.size c)
   ·exact(H _ c).2.2
   ·exact K b c
theorem C6{x:Operand}{args:Array Operand}{tys:Array TypeId}{gg:FuncId}{cap:List C}{es M:List E}{t:Ab}{n0:Nat}{post:E->Ab->Nat->Prop}(l:List Nat)(hx:ev f x=some (.o (.fn gg cap)))(T:Hz f args.toList=some es)
 (m:Nat) (hs:AR P TB gg m t n0 M post) (hm:m<=n0) (hl:l.length=n0/\l.Nodup/\∀i∈l,i < nx) (ha:es++cap.map .o=CY (nm l nx) M) (L:AL (nm l nx) σ t)
 (hK:∀x0 s B,post x0 s B->m<=B->K (x0.AN (FJ (l.take m) nx)) (s.AN (FJ (l.take m) nx)++Bt l σ) (nx+(B - m))) :
 BH P TB Z ⟨d,.call ⟨.value x,args,tys⟩,ty,pos,af,g⟩ f σ nx K:=by
 obtain⟨hl0,hn,u⟩:=hl;subst hl0;intro V a h1 A h3;subst h3;have h1:=h1.GJ;unfold Oper.wp;generalize a.eval=X at h1 |-;obtain⟨vs,w,z⟩:=Hc (h1.get (x:=x) (by simp [Op.operands,Call.operands]) hx);rw [Hu hs.1 w];have U:=Ce T
 have h:Lj V (es++cap.map .o) (args.map X++vs):=by
  refine⟨by simp [z.1,U],λj e v H w=>?_⟩
  have F:(args.map X).size=es.length:=by simp [U]
  by_cases u:j < es.length
  ·rw [bx u] at H
   rw [bU (by rw [F];exact u)] at w;exact FR (λy hy e he=>h1.get (by simp [Op.operands,Call.operands];right;simpa using hy) he) T j e v H (by rw [<-dL];simpa using w)
  ·rw [bz (by omega)] at H
   rw [cS (by rw [F];omega),F] at w;simp only [bG,br] at H;obtain⟨c,hc,rfl⟩:=H;exact z.2 _ c v hc w
 have hr:∀id,nm l V.nx id < V.nx->id < l.length:=λid=>Oj
 have J:Lj (V.AN (nm l V.nx) l.length) M (args.map X++vs):=by
  rw [ha] at h;refine⟨by rw [h.1,Ft],λj e v H w=>?_⟩;exact(h.2 j (e.AN (nm l V.nx)) v (by rw [II,H];rfl) w).AN hr
 have n:∀id o,look t id=some o->id < l.length:=λid o q=>hr id (A.st.lt _ _ (L.get id o q));obtain⟨S,p,hSJ,hSB⟩:=A.hid
 have I:Good TB (V.AN (nm l V.nx) l.length) t l.length S:=by
  refine⟨A.iLt,⟨λid o q=>BF.AN hr (A.st.obj _ _ (L.get id o q)),n,λid o q k b hb=>A.st.free _ _ (L.get id o q) k b (BZ.1 hb),?_⟩,A.tabs,rfl,⟨p.r,p.ji,p.bi,λb ⟨id,o,q,k,hb⟩=>p.ap b ⟨_,_,L.get id o q,k,BZ.1 hb⟩⟩⟩;intro id id' o o' q N hne k Q b hb hb';refine A.st.inj _ _ _ _ (L.get id o q) (L.get id' o' N) ?_ k Q b (BZ.1 hb) (BZ.1 hb');have h3:=n id o q;have h4:=n id' o' N;rw [Fk h3,Fk h4];intro he;have hp:=bZ.1 hn
  rcases dX hne with h5|h5
  ·exact hp _ _ h3 h4 h5 he
  ·exact hp _ _ h4 h3 h5 he.symm
 refine(hs.2 _ _ S I J).mono ?_;rintro e w' ⟨V1,v,x1,s,rfl,rfl,R,hx1,G⟩;obtain⟨hi',he',hp'⟩:=Rn A u L hm p hSJ hSB R
 have hlm:(l.take m).length=m:=by rw [dK];exact Nat.min_eq_left hm
 have hnx:(EK V V1 (l.take m)).nx=V.nx+(V1.nx - m):=by show V.nx+(V1.nx - (l.take m).length)=_;rw [hlm]
 have hk:=hK x1 s V1.nx G R.ext.nx;rw [<-hnx] at hk;exact⟨EK V V1 (l.take m),v,x1.AN (FJ (l.take m) V.nx),_,rfl,rfl,he',hi',hx1.push hp',hk⟩
theorem Al.ghost{c:Code}{Q:Exit->Env->Ab->Nat->Prop}(k e:Nat)(h:Al P TB Z N c Q f ((nx,.cells e k [])::σ) (nx+1)):Al P TB Z N c Q f σ nx:=by
 intro V a b;have d:=b.nx;subst d;obtain⟨hi,i⟩:=b.inv.alloc (c:=0) (nl:=True) (w:=V.w) (ob:=.cells e k []) rfl rfl rfl rfl (bJ _) (λ_ _=>rfl) (.inl ⟨by simp [Ai],rfl⟩);have j:=h (Ai V V.w.heap.size 0 True V.w) a ⟨λt x g=>(b.env t x g).ext i,b.lt,b.size,hi,by simp [Ai],b.defers⟩;exact j
end
section
variable {P:Program}{TB:Bg}{Z:Ctx}{d:Option Tmp}{ty:TypeId}{pos:String}{af:Array Edge}{g:Option (Nat×Bool)}{f:Env}{σ:Ab}{nx:Nat}
variable {K:E->Ab->Nat->Prop}
theorem PB{s t:TypeId}{k:IntKind}{x:Operand}{n:Int}[c:JN P s k][ht:CD P t](b:ev f x=some (eI k n))(m:0<=n)(l:n < 128):AP P TB Z ⟨d,.convert s t x,ty,pos,af,g⟩ f σ nx (eT [UInt8.ofNat n.toNat]):=
 AF λV X a _=>⟨.string ⟨#[UInt8.ofNat n.toNat]⟩,by
  have j:X x=.int k n:=AA.val (a.get (by simp [Op.operands]) b)
  have i:Utf8.valid n=true:=by simp [Utf8.valid];omega
  have h:n.toNat < 128:=by omega
  have e:Utf8.encode n=⟨#[UInt8.ofNat n.toNat]⟩:=by simp [Utf8.encode,i,h]
  simp [execOp,j,convert,run_underlying c.out,run_underlying ht.out,Conv.intToString,e,go_sem],.d (.v rfl)⟩
def Ut(f:Env):Option Operand->Option (Option (IntKind×Int))
 | none=>some none
 | some x=>match ev f x with
  | some (.o (.d (.v (.int k m))))=>some (some (k,m))
  | _=>none
theorem Jz{o:Oper}{V:View}{X:Operand->Value}(e:IV V o f X){x:Option Operand}{b:Option (IntKind×Int)}(a:∀y,x=some y->y∈o.op.operands)(h:Ut f x=some b):x.map X=b.map λp=>.int p.1 p.2:=by
 cases x with
 | none=>injection h with h;subst h;rfl
 | some y=>
  unfold Ut at h;simp only at h;split at h
  ·rename_i k m c
   injection h with h
   subst h;have d:X y=.int k m:=AA.val (e.get (a y rfl) c);simp [d]
  ·cases h
def Km:Option (IntKind×Int)->Int
 | none=>0
 | some p=>p.2
def Kg(n:Nat):Option (IntKind×Int)->Int
 | none=>n
 | some p=>p.2
theorem JS{isS:Bool}{len cap:Nat}{lo hi:Option (IntKind×Int)}(b:0<=Km lo)(e:Km lo<=Kg len hi)(d:Kg len hi<=len)(c:len<=cap)(w:World) :
 (Instr.sliceBounds isS len cap (lo.map λp=>.int p.1 p.2) (hi.map λp=>.int p.1 p.2) none).run P w=.ok ((Km lo).toNat,(Kg len hi).toNat,cap) w:=by
 cases lo with
 | none=>
  cases hi with
  | none=>simp [Instr.sliceBounds,Km,Kg,go_sem]
  | some h=>
   simp only [Km,Kg] at *;simp [Instr.sliceBounds,run_sliceBound w h.1 h.2 cap _ (by omega) (by omega),Km,Kg,go_sem]
 | some l=>
  cases hi with
  | none=>
   simp only [Km,Kg] at *;simp [Instr.sliceBounds,run_sliceBound w l.1 l.2 len _ (by omega) (by omega),Km,Kg,go_sem]
  | some h=>
   simp only [Km,Kg] at *;simp [Instr.sliceBounds,run_sliceBound w h.1 h.2 cap _ (by omega) (by omega),run_sliceBound w l.1 l.2 h.2.toNat _ (by omega) (by omega),Km,Kg,go_sem];intro a;have:=a b;omega
theorem PH{t:TypeId}(ht:P.underlying t=some .string){s:ByteArray}{lo hi:Option Value}{l h m:Nat}{w:World}(hb:(Instr.sliceBounds false s.size s.size lo hi none).run P w=.ok (l,h,m) w) :
 (Instr.sliceAt t (.string s) lo hi none).run P w=.ok (.string (s.extract l h)) w:=by
 have a:(Instr.sliceAt t (.string s) lo hi none).run P w=(Instr.slice t (.string s) lo hi none).run P w:=by
  unfold Instr.sliceAt;rw [bV,run_underlying ht,bQ]
 rw [a];unfold Instr.slice;rw [bV,run_underlying ht,bQ];simp only [Option.isSome_none,Bool.false_eq_true,if_false];rw [bV];generalize Instr.sliceBounds false s.size s.size lo hi none=sb at hb |-;simp [hb,go_sem]
theorem PG{t e:TypeId}{i:TypeInfo}(c:P.underlying t=some (.slice e))(hi:P.info? e=some i){a:Option Addr}{len cap:Nat}{lo b:Option Value}{l h m:Nat}{w:World}(hb:(Instr.sliceBounds true len cap lo b none).run P w=.ok (l,h,m) w) :
 (Instr.sliceAt t (.slice a len cap) lo b none).run P w=.ok (.slice (if m=l then a else a.map (·.add (l*i.size))) (h - l) (m - l)) w:=by
 have d:(Instr.sliceAt t (.slice a len cap) lo b none).run P w=(Instr.slice t (.slice a len cap) lo b none).run P w:=by
  unfold Instr.sliceAt;rw [bV,run_underlying c,bQ]
 rw [d];unfold Instr.slice;rw [bV,run_underlying c,bQ];simp only;rw [bV];generalize Instr.sliceBounds true len cap lo b none=sb at hb |-;simp [hb,sizeOf,typeInfo,hi,go_sem]
theorem QJ{t:TypeId}{x:Operand}{lo hi:Option Operand}{s:List UInt8}{l h:Option (IntKind×Int)}[ht:CD P t](i:ev f x=some (eT s))(j:Ut f lo=some l)(k:Ut f hi=some h)
 (o:0<=Km l) (n:Km l<=Kg s.length h) (m:Kg s.length h<=s.length):AP P TB Z ⟨d,.slice t x lo hi none,ty,pos,af,g⟩ f σ nx (eT ((s.take (Kg s.length h).toNat).drop (Km l).toNat)):=
 AF λV X c _=>by
  have u:X x=.string ⟨s.toArray⟩:=AA.val (c.get (by simp [Op.operands]) i);have r:=Jz c (x:=lo) (λy b=>by subst b;simp [Op.operands]) j;have q:=Jz c (x:=hi) (λy b=>by subst b;simp [Op.operands]) k
  have a:(⟨s.toArray⟩:ByteArray).size=s.length:=by simp [ByteArray.size]
  have hb:=JS (P:=P) (isS:=false) (len:=s.length) (cap:=s.length) o n m (bJ _) V.w;refine⟨.string ((⟨s.toArray⟩:ByteArray).extract (Km l).toNat (Kg s.length h).toNat),?_,?_⟩
  ·rw [<-a] at hb
   have e:=PH ht.out hb;rw [a] at e;simp only [execOp,u,r,q,Option.map_none,bV,e,bQ];rfl
  ·have p:((⟨s.toArray⟩:ByteArray).extract (Km l).toNat (Kg s.length h).toNat)=⟨((s.take (Kg s.length h).toNat).drop (Km l).toNat).toArray⟩:=by
    apply ByteArray.ext;rw [ByteArray.data_extract];apply Array.toList_inj.1;simp [List.extract_eq_take_drop,List.drop_take]
   rw [p];exact .d (.v rfl)
theorem UQ{t e:TypeId}{k b:Nat}{x:Operand}{lo hi:Option Operand}{rows:List (List D)}{l h:Option (IntKind×Int)}[G:Ch P t e k b](U:ev f x=some (.o (.d (.l rows))))(hl:Ut f lo=some l)(hh:Ut f hi=some h)(hk:∀r∈rows,r.length=k)
 (h0:0<=Km l) (h1:Km l<=Kg rows.length h) (h2:Kg rows.length h<=rows.length):AP P TB Z ⟨d,.slice t x lo hi none,ty,pos,af,g⟩ f σ nx (.o (.d (.l ((rows.take (Kg rows.length h).toNat).drop (Km l).toNat)))):=
 AF λV X H _=>by
  have B:=H.get (by simp [Op.operands]) U;have e2:=Jz H (x:=lo) (λy F=>by subst F;simp [Op.operands]) hl;have e3:=Jz H (x:=hi) (λy F=>by subst F;simp [Op.operands]) hh;generalize hv:X x=v at B;obtain⟨i,hu,L,hs,_⟩:=EC G.out;generalize I:(Km l).toNat=lo' at *;generalize M:(Kg rows.length h).toNat=c at *
  have A:lo'<=c/\c<=rows.length:=by omega
  have p:∀(a:Option Addr) (cap:Nat),rows.length<=cap->v=.slice a rows.length cap->(execOp X ⟨d,.slice t x lo hi none,ty,pos,af,g⟩).run P V.w=.ok (.value (.slice (if cap=lo' then a else a.map (·.add (lo'*i.size))) (c - lo') (cap - lo'))) V.w:=by
   intro a cap R he;have hb:=JS (P:=P) (isS:=true) (len:=rows.length) (cap:=cap) h0 h1 h2 R V.w;rw [I,M] at hb;subst he;have s:=PG hu L (a:=a) hb;simp only [execOp,hv,e2,e3,Option.map_none,bV,s,bQ];rfl
  have z:((rows.take c).drop lo').length=c - lo':=by simp;omega
  obtain⟨B⟩:=B
  cases B with
  | nil=>
   have s:lo'=0/\c=0:=by simp at A;omega
   obtain⟨rfl,rfl⟩:=s;exact⟨_,p none 0 (by simp) rfl,.d .nil⟩
  | @e a cap R=>
   have s:lo'=0/\c=0:=by simp at A;omega
   obtain⟨rfl,rfl⟩:=s;refine⟨_,p (some a) cap (by simp) rfl,?_⟩;by_cases Q:cap=0
   ·rw [if_pos Q];exact .d (.e (by omega))
   ·rw [if_neg Q];exact .d (.e (by omega))
  | @l _ b' o k' cap vs hb s Q S h6 h7=>
   refine⟨_,p (some ⟨b',o,none⟩) cap s rfl,?_⟩;by_cases T:c - lo'=0
   ·have:(rows.take c).drop lo'=[]:=List.eq_nil_of_length_eq_zero (by omega)
    rw [this,T];split
    ·exact .d (.e (by omega))
    ·exact .d (.e (by omega))
   ·have N:¬cap=lo':=by omega
    rw [if_neg N];simp only [dA,Bi]
    have J:k'=i.size:=by
     have u:0 < rows.length:=by omega
     have e5:=S 0 _ (bt u);have e6:=hk _ (cx u);omega
    have m:∀(q:Nat) (r:List D),((rows.take c).drop lo')[q]? = some r->rows[lo'+q]? = some r:=λq r n=>by
     rw [bX,bS] at n;split at n
     ·exact n
     ·cases n
    rw [<-z];refine .d (.l (k:=k') (vs:=λq j=>vs (lo'+q) j) hb (by omega) (by omega) (λq r n=>S _ r (m q r n)) (λq r j dd n K=>?_) (λq r j dd n K=>h7 _ r j dd (m q r n) K));have:=h6 _ r j dd (m q r n) K;rw [<-J]
    have e7:o+lo'*k'+q*k'+j=o+(lo'+q)*k'+j:=by rw [bY];omega
    rw [e7];exact this
theorem TU{t e:TypeId}(ht:P.underlying t=some (.slice e))(a:Option Addr)(n c:Nat)(w:World):(binOp .eql t (.slice a n c) (.slice none 0 0)).run P w=.ok (.bool a.isNone) w:=by
 have h:∀d:Nat,(Op.equalIn (d+1) t (.slice a n c) (.slice none 0 0)).run P w=.ok a.isNone w:=λd=>by
  cases a<;>simp [Op.equalIn,run_underlying ht]
 simp only [binOp];simp [Op.equal,Op.maxDepth,h 9999]
theorem Te{t e yt:TypeId}{k b:Nat}{x:Operand}{rows:List (List D)}[m:Ch P t e k b](q:ev f x=some (.o (.d (.l rows))))(z:∀c,(c=true->rows=[])->K (eB c) σ nx) :
 BH P TB Z ⟨d,.binOp .eql t x (.const (.slice none 0 0)) yt,ty,pos,af,g⟩ f σ nx K:=by
 intro V a H G F;subst F;have j:=H.GJ.get (x:=x) (by simp [Op.operands]) q;have I:a.eval (.const (.slice none 0 0))=.slice none 0 0:=rfl;obtain⟨i,s,_,_,_⟩:=EC m.out;generalize r:a.eval x=v at j
 have key:∀(p:Option Addr) (n c:Nat),v=.slice p n c->(p.isNone=true->rows=[])->Oper.wp P ⟨d,.binOp .eql t x (.const (.slice none 0 0)) yt,ty,pos,af,g⟩ a V.w (λa' w'=>∃V' v x σ',V'.w=w'/\a'=a.put d v/\Ext V V'/\Inv TB Z V' σ'/\A1 V' x v/\K x σ' V'.nx) Zf:=by
  intro p n c y u;unfold Oper.wp;have A:execOp a.eval ⟨d,.binOp .eql t x (.const (.slice none 0 0)) yt,ty,pos,af,g⟩=(do let v <-(do eqGuard .eql t x (.const (.slice none 0 0)) (a.eval x) (a.eval (.const (.slice none 0 0)));binOp .eql t (a.eval x) (a.eval (.const (.slice none 0 0))));pure (.value v)):=rfl;have B:eqGuard .eql t x (.const (.slice none 0 0)) (.slice p n c) (.slice none 0 0)=pure ():=rfl;rw [A,r,I,y,B];rw [pure_bind,bV,TU s,bQ];exact⟨V,.bool p.isNone,eB p.isNone,σ,rfl,rfl,Ext.refl V,G,AA.d (.v rfl),z p.isNone u⟩
 obtain⟨j⟩:=j
 cases j with
 | nil=>exact key none 0 0 rfl λ_=>rfl
 | e=>exact key (some _) 0 _ rfl λh=>by cases h
 | l=>exact key (some _) _ _ rfl λh=>by cases h
def FH(l:List (List UInt8×Int)):List (Value×Value):=l.map λp=>(.string ⟨p.1.toArray⟩,.int .i64 p.2)
def BL(l:List (List UInt8×Int))(s:List UInt8):Option Int:=(l.find? λp=>decide (p.1=s)).map (·.2)
theorem XB(a b:List UInt8):((⟨a.toArray⟩:ByteArray) == ⟨b.toArray⟩)=decide (a=b):=by
 have h:((⟨a.toArray⟩:ByteArray) == ⟨b.toArray⟩)=(a.toArray == b.toArray):=rfl;rw [h,dT];simp
theorem HB(s:List UInt8):∀(l:List (List UInt8×Int)) (es:List MapEntry) (i:Nat),es.map (λe=>(e.key,e.val))=FH l->∃r,Instr.findNow .string (.string ⟨s.toArray⟩) es i=some r/\r.map (·.2)=(BL l s).map (.int .i64)
 | [],es,i,h=>by
  have:es=[]:=by simpa [FH] using h
  subst this;exact⟨none,rfl,rfl⟩
 | p :: l,es,i,h=>by
  cases es with
  | nil=>simp [FH] at h
  | cons e es=>
   simp only [FH,cH,List.cons.injEq,Prod.mk.injEq] at h;obtain⟨⟨f,b⟩,d⟩:=h
   have c:Instr.sameNow .string (.string ⟨s.toArray⟩) e.key=some (decide (s=p.1)):=by
    rw [f]
    show some ((⟨s.toArray⟩:ByteArray) == ⟨p.1.toArray⟩)=_
    rw [XB]
   unfold Instr.findNow;rw [c];by_cases a:s=p.1
   ·refine⟨some (i,e.val),by simp [a],?_⟩
    simp [BL,a,b]
   ·obtain⟨r,k,j⟩:=HB s l es (i+1) d
    have g:¬p.1=s:=λe=>a e.symm;refine⟨r,by simp [a,k],?_⟩;rw [j];simp [BL,g]
theorem RF{t:TypeId}(i:K (.o (.mp nx)) ((nx,.mp [])::σ) (nx+1)):BH P TB Z ⟨d,.makeMap t none,ty,pos,af,g⟩ f σ nx K:=
 C7 λV X l k j=>by
  subst j
  have a:V.w.heap.size < (V.w.alloc (.map #[] 0)).heap.size:=by simp
  obtain⟨hi,h⟩:=k.alloc (c:=0) (nl:=False) (w:=V.w.alloc (.map #[] 0)) (ob:=.mp []) rfl rfl rfl rfl (Nat.le_of_lt a) (λb hb=>AQ V.w _ b hb) (by
   refine⟨by simp [Ai],#[],0,?_,rfl⟩
   have e:(Ai V V.w.heap.size 0 False (V.w.alloc (.map #[] 0))).X V.nx=V.w.heap.size:=by simp [Ai]
   rw [e]
   exact BB V.w (.map #[] 0))
  refine⟨.map (some V.w.heap.size),_,_,_,?_,h,hi,?_,i⟩
  ·have:(Instr.makeMap t none).run P V.w=.ok (.map (some V.w.heap.size)) (V.w.alloc (.map #[] 0)):=rfl
   simp [execOp,this,Ai,go_sem]
  ·have:=@AA.mp (Ai V V.w.heap.size 0 False (V.w.alloc (.map #[] 0))) V.nx (by simp [Ai])
   have e:(Ai V V.w.heap.size 0 False (V.w.alloc (.map #[] 0))).X V.nx=V.w.heap.size:=by simp [Ai]
   rw [e] at this;exact this
class Se (P:Program) (t:TypeId) (z:outParam Value):Prop where
 out:(P.info? t).bind (·.zero)=some z
class P9 (P:Program) (t:TypeId) (k e:outParam TypeId):Prop where
 out:P.underlying t=some (.map k e)
theorem G0{k:TypeId}(a:P.underlying k=some .string)(b:Bool)(s:ByteArray)(w:World):(Instr.checkKey b 10000 k (.string s)).run P w=.ok () w:=by
 rw [show 10000=9999+1 from rfl];unfold Instr.checkKey;simp [run_underlying a,go_sem]
theorem TC{t k e:TypeId}{x y:Operand}{id:Nat}{l:List (List UInt8×Int)}{s:List UInt8}[G:P9 P t k e][H:CD P k][N:Se P e (.int .i64 0)](R:ev f x=some (.o (.mp id)))(Q:ev f y=some (eT s))(S:look σ id=some (.mp (FH l))) :
 AP P TB Z ⟨d,.lookup t x y true,ty,pos,af,g⟩ f σ nx (.t [(false,[.d (.v (.int .i64 ((BL l s).getD 0)))]),(false,[.d (.v (.bool (BL l s).isSome))])]):=
 AF λV X F hi=>by
  have M:=F.get (by simp [Op.operands]) R;have L:X y=.string ⟨s.toArray⟩:=AA.val (F.get (by simp [Op.operands]) Q);generalize a:X x=v at M
  cases M with
  | mp T =>
   obtain⟨hn,ents,clock,K,h2⟩:=hi.st.obj id _ S;obtain⟨r,U,p⟩:=HB s l ents.toList 0 h2;have b:=N.out;simp only [bR] at b;obtain⟨i,A,z⟩:=b
   have u:(zeroValue e).run P V.w=.ok (.int .i64 0) V.w:=by simp [zeroValue,typeInfo,A,z,go_sem]
   have h:(Instr.findKey k (.string ⟨s.toArray⟩) ents.toList).run P V.w=.ok r V.w:=by simp [Instr.findKey,run_underlying H.out,U,go_sem]
   have m:=G0 H.out ents.isEmpty ⟨s.toArray⟩ V.w;refine⟨.tuple #[.int .i64 ((BL l s).getD 0),.bool (BL l s).isSome],?_,⟨_,rfl,rfl,λj x v c a=>?_⟩⟩
   ·cases r with
    | none=>
     have B:BL l s=none:=by simpa using p.symm
     simp [execOp,a,L,Instr.lookup,run_underlying G.out,MapKept.run_getObj_map K,m,h,u,B,go_sem]
    | some q=>
     obtain⟨n,B,J⟩:∃n,BL l s=some n/\q.2=.int .i64 n:=by
      cases I:BL l s with
      | none=>rw [I] at p;simp at p
      | some n=>rw [I] at p;exact⟨n,rfl,by simpa using p⟩
     obtain⟨q1,q2⟩:=q;simp only at J;subst J;simp [execOp,a,L,Instr.lookup,run_underlying G.out,MapKept.run_getObj_map K,m,h,B,go_sem]
   ·match j with
    | 0=>simp at c a;subst c;subst a;exact⟨_,rfl,.d (.v rfl)⟩
    | 1=>simp at c a;subst c;subst a;exact⟨_,rfl,.d (.v rfl)⟩
    | j+2=>simp at c
theorem XW{t k e:TypeId}{x y z:Operand}{id:Nat}{l:List (List UInt8×Int)}{s:List UInt8}{n:Int}[hm:P9 P t k e][H:CD P k](R:ev f x=some (.o (.mp id)))(Q:ev f y=some (eT s))(N:ev f z=some (eI .i64 n))(G:look σ id=some (.mp (FH l)))
 (U:BL l s=none) (I:K (.t []) ((id,.mp (FH (l++[(s,n)])))::σ) nx):BH P TB Z ⟨d,.mapUpdate t x y z,ty,pos,af,g⟩ f σ nx K:=by
 intro V a c L h3;have c:=c.GJ;unfold Oper.wp;generalize a.eval=X at c |-;have M:=c.get (x:=x) (by simp [Op.operands]) R;have e2:X y=.string ⟨s.toArray⟩:=AA.val (c.get (by simp [Op.operands]) Q);have e3:X z=.int .i64 n:=AA.val (c.get (by simp [Op.operands]) N);generalize S:X x=v at M
 cases M with
 | mp hid=>
  obtain⟨m,ents,clock,F,B⟩:=L.st.obj id _ G;obtain⟨r,h6,J⟩:=HB s l ents.toList 0 B;rw [U] at J
  have T:r=none:=by cases r with
   | none=>rfl
   | some q=>simp at J
  subst T
  have u:(Instr.findKey k (.string ⟨s.toArray⟩) ents.toList).run P V.w=.ok none V.w:=by simp [Instr.findKey,run_underlying H.out,h6,go_sem]
  have A:=G0 H.out false ⟨s.toArray⟩ V.w
  let ob:Obj:=.map (ents.push { key:=.string ⟨s.toArray⟩,val:=.int .i64 n,born:=clock }) (clock+1)
  let w':World:={ V.w with heap:=V.w.heap.setIfInBounds (V.X id) ob }
  have h:=MapKept.run_setObj_map (P:=P) ob F;have p:=(ca.1 F).1
  obtain⟨hi,he⟩:=L.write G m (w:=w') (ob':=.mp (FH (l++[(s,n)]))) rfl rfl rfl rfl rfl (by simp [w']) (λb hb=>by simp [w',ez,Ne.symm hb]) (by
   refine⟨m,ents.push { key:=.string ⟨s.toArray⟩,val:=.int .i64 n,born:=clock },clock+1,?_,?_⟩
   ·show w'.heap[V.X id]? = some ob
    simp [w',ez,p]
   ·simp [FH] at B |-
    exact B)
  have i:(execOp X ⟨d,.mapUpdate t x y z,ty,pos,af,g⟩).run P V.w=.ok .skip w':=by
   simp [execOp,S,e2,e3,Instr.mapUpdate,run_underlying hm.out,MapKept.run_getObj_map F,A,u,h,ob,w',go_sem]
  rw [i];exact⟨{ V with w:=w' },.tuple #[],.t [],_,rfl,rfl,he,hi,⟨#[],rfl,rfl,λj x v hj=>by simp at hj⟩,by rw [<-h3] at I;exact I⟩
end
section
variable {P:Program}{TB:Bg}
def Ql(f:Env)(t:Tmp)(n:Nat):Option (Bool×List C):=match f t with
 | some (.o (.d (.p cs)))=>match Nat.beq cs.length n with
  | true=>some (true,cs.map .d)
  | false=>none
 | _=>none
def TM(n:Nat)(rs:Array ResultVar)(f:Env):Option E:=match rs.toList with
 | [.cell t _]=>match Ql f t n with
  | some (_,cs)=>some (.a cs)
  | none=>none
 | [.cell t _,.tmp u]=>match Ql f t n,(f u).bind Ol with
  | some x,some y=>some (.t [x,y])
  | _,_=>none
 | _=>none
def Xt(n:Nat)(rs:Array ResultVar)(post:E->Ab->Nat->Prop):Exit->Env->Ab->Nat->Prop
 | .ret,f,σ,nx|.normal,f,σ,nx=>∃x,TM n rs f=some x/\post x σ nx
 | _,_,_,_=>False
theorem LK{V:View}{f:Env}{a:Act}{t:Tmp}{T':TypeId}{n:Nat}{x:Bool×List C}(l:Dl P T' true n)(u:CP V f a.tmps)(h:Ql f t n=some x) :
 ∃v,((do loadVar T' (<-asAddr (a.tmps.getD t undef))):Sem Value).run P V.w=.ok v V.w/\∃cs,x=(true,cs)/\A1 V (.a cs) v:=by
 unfold Ql at h;split at h
 ·rename_i ds s
  split at h
  ·rename_i i
   have i:=bA i
   injection h with h
   subst h;have e:AA V (.d (.p ds)) (a.tmps.getD t undef):=u t _ s;generalize B:a.tmps.getD t undef=A at e;obtain⟨e⟩:=e
   cases e with
   | @p _ b o vs hb z y=>
    refine⟨.agg ((List.range n).map λq=>vs q).toArray,?_,_,rfl,_,rfl,by simp [i],λj c v m g=>?_⟩
    ·have:(loadCells ⟨b,o,none⟩ n).run P V.w=.ok ((List.range n).map λq=>vs q).toArray V.w:=run_loadCells V.w _ n _ λq k=>by
      rw [Bi];exact z q ds[q] (bt (by omega))
     unfold loadCells at this;simp [asAddr,loadVar,(Be l.out V.w).1,(Be l.out V.w).2,this,go_sem]
    ·rw [bG,br] at m
     obtain⟨dd,r,rfl⟩:=m
     have k:j < n:=by have:=(am.1 r).1;omega
     have:v=vs j:=by simpa [k] using g.symm
     subst this;exact .d (y j dd r)
  ·cases h
 ·cases h
theorem TN{fn:Func}{V:View}{f:Env}{a:Act}{x:E}{T':TypeId}{n:Nat}{t:Tmp}(I:Dl P T' true n)(p:fn.results.toList.head? = some (.cell t T'))(A:CP V f a.tmps)(h:TM n fn.results f=some x):∃v,(results fn a.tmps).run P V.w=.ok v V.w/\A1 V x v:=by
 have key : ∀ l:List ResultVar,fn.results=l.toArray->l.head? = some (.cell t T')->TM n l.toArray f=some x->∃v,(results fn a.tmps).run P V.w=.ok v V.w/\A1 V x v:=by
  intro l e c h;unfold TM at h;simp only at h;split at h
  ·rename_i m T1
   simp at c;obtain⟨rfl,rfl⟩:=c;split at h
   ·rename_i b cs q
    injection h with h
    subst h;obtain⟨v,G,cs',k,B⟩:=LK I A q
    injection k with k L
    subst L;refine⟨v,?_,B⟩
    have d:(results fn a.tmps).run P V.w=((do loadVar T1 (<-asAddr (a.tmps.getD m undef))):Sem Value).run P V.w:=by simp [results,e,-Array.getD_eq_getD_getElem?,go_sem]
    rw [d,G]
   ·cases h
  ·rename_i m T1 u
   simp at c;obtain⟨rfl,rfl⟩:=c;split at h
   ·rename_i N M q H
    injection h with h
    subst h;obtain⟨v,G,cs',k,B⟩:=LK I A q;subst k;simp only [bR] at H;obtain⟨y,J,o⟩:=H;refine⟨.tuple #[v,a.tmps.getD u undef],?_,_,rfl,rfl,λj x v' g i=>?_⟩
    ·obtain⟨F,K,z,s⟩:∃F:ResultVar->Sem Value,results fn a.tmps=(do let vs <-fn.results.mapM F;pure (if h:vs.size=1 then vs[0] else .tuple vs))/\(F (.cell m T1)).run P V.w=.ok v V.w/\(F (.tmp u)).run P V.w=.ok (a.tmps.getD u undef) V.w:=
      ⟨λr=>match r with
       | .tmp t=>pure (a.tmps.getD t undef)
       | .cell b t=>do loadVar t (<-asAddr (a.tmps.getD b undef)),rfl,G,rfl⟩
     rw [K,e];simp [z,s,-Array.getD_eq_getD_getElem?,go_sem]
    ·match j with
     | 0=>simp at g i;subst g;subst i;exact B
     | 1=>simp at g i;subst g;subst i;exact Eg o (by simpa using A u y J)
     | j+2=>simp at g
   ·cases h
  ·cases h
 exact key fn.results.toList (by simp) p (by simpa using h)
theorem AR.ofM {g:FuncId} {fn:Func} {c:Code} {m:Nat} {σ:Ab} {nx:Nat} {args:List E} {post:E->Ab->Nat->Prop} (n:Nat) {t:Tmp} {T':TypeId} (G:m<=nx) [H:Dl P T' true n] (u:P.funcs[g]? = some fn) (hb:fn.body=some c) (r:fn.results.toList.head? = some (.cell t T')) (f:(fn.name == "runtime.NumGoroutine")=false)
 (j:args.length<=fn.ntmps) (h:∀Z:Ctx,Z.V.nx=m->Al P TB Z fn.ntmps c (Xt n fn.results post) (look (Br 0 args)) σ nx):AR P TB g m σ nx args post:=by
 refine⟨⟨fn,u,f,by rw [hb];rfl⟩,?_⟩;intro V vs S p ha;refine calls_of_wp u hb ?_
 have J:vs.size<=fn.ntmps:=by rw [ha.1];exact j
 have hi:Inv TB (Dj V (IA V m) σ S) V σ:=
  ⟨rfl,rfl,rfl,λ_ _ _=>rfl,p.iLt,λ_ h=>.inl h,Qx (by rw [p.nx];exact G),p.st,λid o F s b hb=>.inr (.inl ⟨id,o,F,s,hb⟩),p.tabs,⟨S,p.hid,λb hb=>.inl hb,λb hb=>.inr (.inr hb)⟩⟩
 have A:Bv TB (Dj V (IA V m) σ S) fn.ntmps V (look (Br 0 args)) σ nx { tmps:=vs++Array.replicate (fn.ntmps - vs.size) undef,defers:=[] } := by
  refine⟨?_,?_,by simp;omega,hi,p.nx,rfl⟩
  ·intro t e q
   obtain⟨_,a⟩:=Bn args 0 t e q
   have a:args[t]? = some e:=by simpa using a
   have i:t < vs.size:=by rw [ha.1];exact(am.1 a).1
   have I:=ha.2 t e vs[t] a (bP i)
   simpa [bU i,i] using I
  ·intro t e q
   obtain⟨_,a⟩:=Bn args 0 t e q
   have a:args[t]? = some e:=by simpa using a
   have:=(am.1 a).1;omega
 refine wp_mono (h (Dj V (IA V m) σ S) rfl V _ A) ?_;rintro e a' w' ⟨V',f',σ',rfl,k,d⟩
 have fin:(∃x,TM n fn.results f'=some x/\post x σ' V'.nx)->a'.defers=[]/\∃v,(results fn a'.tmps).run P V'.w=.ok v V'.w/\∃V'' v' x σ'',Ending.returned v=.returned v'/\V''.w=V'.w/\Inv TB (Dj V (IA V m) σ S) V'' σ''/\A1 V'' x v'/\post x σ'' V''.nx:=by
  rintro⟨x,y,B⟩;obtain⟨v,z,q⟩:=TN (P:=P) H r d.env y;exact⟨d.defers,v,z,V',v,x,σ',rfl,rfl,d.inv,q,B⟩
 cases e with
 | normal=>exact fin k
 | ret=>exact fin k
 | exit id=>exact k.elim
 | goto l=>exact k.elim
 | panic ch=>exact k.elim
 | outgrown=>exact k.elim
theorem AR.ED{g:FuncId}{σ:Ab}{nx:Nat}{args:List E}{post:E->Ab->Nat->Prop}(h:AR P TB g nx σ nx args post):Spec P TB g σ nx args post:=
 ⟨h.1,λV vs S a ha=>(h.2 V vs S a ha).mono λ_ _ ⟨V',v,x,σ',i,f,e,d,c⟩=>⟨V',v,x,σ',i,f,by have b:=a.nx;subst b;exact e,d,c⟩⟩
end
def En(s:Int)(n:Nat):Bool:=decide (Pf .i64 (s.fdiv (2 ^ min n 64)) 1=1)
def hasB(s n:Int):Bool:=decide (0<=n) && En s n.toNat
def BP(n:Int):Bool:=decide (0<=n/\n<=63)
abbrev iD(n:Int):D:=.v (.int .i64 n)
abbrev bD(b:Bool):D:=.v (.bool b)
abbrev tD(s:List UInt8):D:=.v (.string ⟨s.toArray⟩)
abbrev Bp(n:Int):List D:=[iD n]
abbrev Fa(b:Bool):List D:=[bD b]
abbrev CN(s:List UInt8):List D:=[tD s]
abbrev DH(l:List Int):D:=.l (l.map Bp)
abbrev EJ(l:List Bool):D:=.l (l.map Fa)
abbrev A6(l:List (List UInt8)):D:=.l (l.map CN)
abbrev Az(n:Int):List C:=[.d (iD n)]
abbrev AB(b:Bool):List C:=[.d (bD b)]
abbrev CZ(s:List UInt8):List C:=[.d (tD s)]
abbrev CK(l:List Int):List D:=[DH l]
abbrev CG(l:List (List Int)):D:=.l (l.map CK)
abbrev DD(l:List Int):List C:=[.d (DH l)]
abbrev Hf(l:List (List Int)):List D:=[CG l]
abbrev UA(l:List (List (List Int))):D:=.l (l.map Hf)
structure P6 where
 f:Int
 l:Int
 t:Int
 deriving DecidableEq
structure Sys where
 al:Int
 st:Int
 es:List P6
structure A5 where
 al:Int
 nx:List (List Int)
 ac:List Bool
abbrev Vq(e:P6):List D:=[iD e.f,iD e.l,iD e.t]
abbrev Pa(l:List P6):D:=.l (l.map Vq)
abbrev T8(s:Sys):List D:=[iD s.al,iD s.st,Pa s.es]
abbrev T7(l:List Sys):D:=.l (l.map T8)
abbrev BR(a:A5):List D:=[iD a.al,CG a.nx,EJ a.ac]
abbrev A9(a:A5):E:=.a [.d (iD a.al),.d (CG a.nx),.d (EJ a.ac)]
abbrev O3(l:List A5):D:=.l (l.map BR)
abbrev Ag(l:List Int):E:=.o (.d (DH l))
abbrev Dp(l:List Bool):E:=.o (.d (EJ l))
abbrev Bu(l:List (List Int)):E:=.o (.d (CG l))
abbrev BO(l:List (List UInt8)):E:=.o (.d (A6 l))
abbrev XG(l:List P6):E:=.o (.d (Pa l))
def Ay(s:Int)(k:Nat):List Int:=((List.range k).filter (En s)).map Int.ofNat
theorem AZ(s:Int)(k:Nat):(Ay s k).length<=k:=by
 unfold Ay;rw [bK];exact bT (List.length_filter_le _ _) (by simp)
theorem BT(s:Int)(k:Nat):Ay s (k+1)=Ay s k++if En s k then [(k:Int)] else []:=by
 unfold Ay;rw [dU,List.filter_append,cO];cases h:En s k<;>simp [h]
abbrev Ac(s:Int):List Int:=Ay s 6
def JZ(al st:Int)(e:P6):Bool:=decide (0<=e.f/\e.f < st/\0<=e.t/\e.t < st/\0<=e.l/\e.l < 6) && En al e.l.toNat
def Lo(e f:P6):Bool:=if e.f≠f.f then decide (e.f < f.f) else if e.l≠f.l then decide (e.l < f.l) else decide (e.t < f.t)
def OK(s:Sys)(i:Nat):Bool:=match s.es[i]? with
 | none=>true
 | some e=>JZ s.al s.st e && match i with
  | 0=>true
  | j+1=>match s.es[j]? with
   | none=>true
   | some p=>Lo p e
def EW(s:Sys):Bool:=BP s.al && decide (1<=s.st/\s.st<=16) && (List.range s.es.length).all (OK s)
theorem EI{α:Type}{l:List α}{f:α->Bool}{k:Nat}{x:α}(h:l[k]? = some x)(b:(l.take k).all f=true)(a:f x=true):(l.take (k+1)).all f=true:=by
 rw [bF,h];simp [List.all_append,b,a]
theorem Gs{α:Type}{l:List α}{f:α->Bool}{k:Nat}{x:α}(h:l[k]? = some x)(a:f x=false):l.all f=false:=by
 rw [List.all_eq_false];exact⟨x,bm h,by simp [a]⟩
theorem EG{α:Type}{l:List α}{f:α->Bool}{k:Nat}(h:(l.take k).all f=true)(a:l.length<=k):l.all f=true:=by
 rwa [bI a] at h
theorem get_map{α Y:Type}{l:List α}{g:α->Y}{k:Nat}{x:α}(h:l[k]? = some x):(l.map g)[((k:Nat):Int).toNat]? = some (g x):=by simp [h]
theorem get_some{α:Type}{l:List α}{k:Nat}(h:k < l.length):∃x,l[k]? = some x:=⟨_,bt h⟩
def Nj(n:Int)(q:Int):Bool:=decide (0<=q/\q < n)
def DJ(ls n:Int)(row:List Int):Bool:=decide ((row.length:Int)=ls) && row.all (Nj n)
def Ax(a:A5):Bool:=BP a.al && decide (1<=a.nx.length/\a.nx.length<=12) && decide (a.ac.length=a.nx.length) && a.nx.all (DJ (Ac a.al).length a.nx.length)
end Go.Am
namespace Go.Am
set_option linter.unusedVariables false
abbrev W:=List UInt8
structure AW where
 rows:List W
 cols:List W
def Ns(b:Bool):UInt8:=if b then 43 else 45
theorem Qz{a b:Bool}(h:Ns a=Ns b):a=b:=by cases a<;>cases b<;>first|rfl|(simp [Ns] at h)
def marks(L:W->Bool)(cols:List W)(w:W):W:=cols.map λc=>Ns (L (w++c))
theorem Oa{L:W->Bool}{cols:List W}{u w:W}:marks L cols u=marks L cols w↔∀c∈cols,L (u++c)=L (w++c):=by
 unfold marks;rw [dn];exact⟨λh c a=>Qz (h c a),λh c a=>by rw [h c a]⟩
def AD(L:W->Bool)(t:AW):List W:=t.rows.map (marks L t.cols)
def BG(ls:List UInt8)(rows:List W):List W:=rows.flatMap λr=>ls.map λl=>r++[l]
def AX(L:W->Bool)(ls:List UInt8)(t:AW):Option W:=(BG ls t.rows).find? λw=>!(AD L t).contains (marks L t.cols w)
def A2(L:W->Bool)(ls:List UInt8):Nat->AW->Option AW
 | 0,_=>none
 | n+1,t=>match AX L ls t with
  | none=>some t
  | some w=>if t.rows.length=12 then none else A2 L ls n ⟨t.rows++[w],t.cols⟩
def AH(ls:List UInt8)(w:W):Prop:=∀c∈w,c∈ls
structure TOk (L:W->Bool) (ls:List UInt8) (t:AW):Prop where
 r0:t.rows[0]? = some []
 c0:t.cols[0]? = some []
 pre:∀(i:Nat) w,t.rows[i]? = some w->0 < i->w≠[]/\∃j,j < i/\t.rows[j]? = some w.dropLast
 onR:∀w∈t.rows,AH ls w
 onC:∀c∈t.cols,AH ls c
 nd:(AD L t).Nodup
 ndC:t.cols.Nodup
theorem Hj{L:W->Bool}{ls:List UInt8}{t:AW}{w:W}(h:AX L ls t=some w):(∃r∈t.rows,∃l∈ls,w=r++[l])/\marks L t.cols w∉AD L t:=by
 have d:=List.find?_some h;have a:=List.mem_of_find?_eq_some h;unfold BG at a;simp only [df,bB] at a;obtain⟨r,b,l,c,rfl⟩:=a;exact⟨⟨r,b,l,c,rfl⟩,by simpa using d⟩
theorem Fp{L:W->Bool}{ls:List UInt8}{t:AW}(h:AX L ls t=none):∀r∈t.rows,∀l∈ls,marks L t.cols (r++[l])∈AD L t:=by
 intro r a l b;have c:=cV.1 h (r++[l]) (by unfold BG;simp only [df,bB];exact⟨r,a,l,b,rfl⟩)
 simpa using c
theorem TOk.push{L:W->Bool}{ls:List UInt8}{t:AW}{w:W}(h:TOk L ls t)(p:AX L ls t=some w):TOk L ls ⟨t.rows++[w],t.cols⟩:=by
 obtain⟨⟨r,n,l,s,rfl⟩,q⟩:=Hj p;have z:0 < t.rows.length:=(am.1 h.r0).1;refine⟨by rw [bx z];exact h.r0,h.c0,λi w hi o=>?_,λw d=>?_,h.onC,?_,h.ndC⟩
 ·by_cases k:i < t.rows.length
  ·rw [bx k] at hi
   obtain⟨y,j,x,v⟩:=h.pre i w hi o;exact⟨y,j,x,by rw [bx (by omega)];exact v⟩
  ·rw [bz (by omega)] at hi
   have m:i=t.rows.length:=by
    have:=(am.1 hi).1;simp at this;omega
   subst m;simp at hi;subst hi;obtain⟨j,g,u⟩:=cr n;refine⟨by simp,j,g,?_⟩;rw [bx g,List.dropLast_concat,bt g,u]
 ·rcases bE.1 d with d|d
  ·exact h.onR w d
  ·simp at d
   subst d;intro c f
   rcases bE.1 f with f|f
   ·exact h.onR r n c f
   ·simp at f;subst f;exact s
 ·unfold AD
  rw [cO,dp];refine⟨h.nd,by simp,λa ha b hb=>?_⟩;simp at hb;subst hb;intro e;exact q (e ▸ ha)
structure Fin (L:W->Bool) (ls:List UInt8) (n:Nat) where
 st:W->Nat
 lt:∀w,AH ls w->st w < n
 same:∀u w v,AH ls u->AH ls w->AH ls v->st u=st w->L (u++v)=L (w++v)
theorem Kx:∀(n:Nat) (l:List Nat),l.Nodup->(∀x∈l,x < n)->l.length<=n
 | 0,l,_,h=>by cases l with
  | nil=>simp
  | cons x l=>have:=h x (by simp);omega
 | n + 1,l,c,h=>by
  have d:=Kx n (l.erase n) (c.erase n) λx a=>by
   have g:=h x (List.mem_of_mem_erase a)
   have f:x≠n:=λe=>by subst e;exact(List.Nodup.not_mem_erase c) a
   omega
  by_cases b:n∈l
  ·rw [List.length_erase_of_mem b] at d;omega
  ·rw [List.erase_of_not_mem b] at d;omega
theorem TOk.XK{L:W->Bool}{ls:List UInt8}{t:AW}{n:Nat}(h:TOk L ls t)(f:Fin L ls n):t.rows.length<=n:=by
 have m:(t.rows.map f.st).Nodup:=by
  have d:=h.nd;unfold AD at d;unfold List.Nodup at *;rw [dF] at *;refine List.Pairwise.imp_of_mem (λ{a b} ha hb g e=>g ?_) d;exact Oa.2 λc k=>f.same a b c (h.onR a ha) (h.onR b hb) (h.onC c k) e
 have l:=Kx n _ m λx i=>by
  obtain⟨w,j,rfl⟩:=bB.1 i;exact f.lt w (h.onR w j)
 simpa using l
theorem Iq{L:W->Bool}{ls:List UInt8}{n:Nat}(f:Fin L ls n)(d:n<=12):∀(k:Nat) (t:AW),TOk L ls t->13<=k+t.rows.length->∃t',A2 L ls k t=some t'/\TOk L ls t'/\AX L ls t'=none/\t.rows <+: t'.rows/\t'.cols=t.cols/\(AX L ls t≠none->t.rows.length < t'.rows.length)
 | 0,t,h,e=>by have:=h.XK f;omega
 | k + 1,t,h,e=>by
  unfold A2
  cases a:AX L ls t with
  | none=>exact⟨t,rfl,h,a,fa _,rfl,λh=>absurd rfl h⟩
  | some w=>
   have b:=h.push a;have i:=b.XK f;simp only [cK,cg,dV] at i;simp only;rw [if_neg (show ¬t.rows.length=12 by omega)];obtain⟨t',o,m,l,c,j,_⟩:=Iq f d k _ b (by simp;omega);have g:t.rows <+: t'.rows:=List.IsPrefix.trans (List.prefix_append _ _) c;refine⟨t',o,m,l,g,j,λ_=>?_⟩;have:=c.length_le;simp at this;omega
def Cg(L:W->Bool)(t:AW)(w:W):Nat:=(AD L t).idxOf (marks L t.cols w)
def runM(L:W->Bool)(t:AW):Nat->W->Nat
 | i,[]=>i
 | i,c::w=>runM L t (Cg L t ((t.rows.getD i [])++[c])) w
theorem Oz(L:W->Bool)(t:AW):∀(u w:W) (i:Nat),runM L t i (u++w)=runM L t (runM L t i u) w
 | [],_,_=>rfl
 | c::u,w,i=>Oz L t u w _
structure A7 (L:W->Bool) (ls:List UInt8) (t:AW):Prop extends TOk L ls t where
 cl:∀r∈t.rows,∀l∈ls,marks L t.cols (r++[l])∈AD L t
theorem A7.idx{L:W->Bool}{ls:List UInt8}{t:AW}(h:A7 L ls t){i:Nat}{r:W}{l:UInt8}(hi:t.rows[i]? = some r)(b:l∈ls):∃r',t.rows[Cg L t (r++[l])]? = some r'/\marks L t.cols r'=marks L t.cols (r++[l]):=by
 have e:=h.cl r (bm hi) l b;have a:Cg L t (r++[l]) < (AD L t).length:=List.idxOf_lt_length_iff.2 e;have d:(AD L t)[Cg L t (r++[l])]'a=marks L t.cols (r++[l]):=List.getElem_idxOf a
 have c:Cg L t (r++[l]) < t.rows.length:=by simpa [AD] using a
 refine⟨t.rows[Cg L t (r++[l])],bt c,?_⟩;rw [<-d];simp [AD]
theorem A7.run{L:W->Bool}{ls:List UInt8}{t:AW}(h:A7 L ls t):∀(w:W) (i:Nat),AH ls w->i < t.rows.length->runM L t i w < t.rows.length
 | [],_,_,hi=>hi
 | c::w,i,a,hi=>by
  have b:t.rows[i]? = some t.rows[i]:=bt hi;obtain⟨_,f,_⟩:=h.idx b (a c (by simp))
  have e:t.rows.getD i []=t.rows[i]:=by simp [b]
  show runM L t (Cg L t (t.rows.getD i []++[c])) w < _
  rw [e];exact h.run w _ (λx d=>a x (by simp [d])) (am.1 f).1
def splitAt(L:W->Bool)(t:AW)(b:Bool):Nat->W->Option W
 | _,[]=>none
 | i,c::v=>if L (t.rows.getD (Cg L t ((t.rows.getD i [])++[c])) []++v)≠b then some v else splitAt L t b (Cg L t ((t.rows.getD i [])++[c])) v
end Go.Am
