/-
  More quiet operations: closures, checks for nil, tables, pieces of slices and strings, text out of bytes.
-/
import Derived.Test.YtohfiindiidcfaaGreatDoorPart8
import Derived.Laws.BytesArg
import Derived.Laws.Slices
import Derived.MapKept
set_option linter.all false
namespace Go.Am
open Go
def Zj:List E->Option (List C)
 | []=>some []
 | .o c::l=>(Zj l).map (c :: ·)
 | _=>none
theorem NZ:∀ {l:List E} {cs:List C},Zj l=some cs->l=cs.map .o
 | [],cs,h=>by injection h with h;subst h;rfl
 | e::l,cs,h=>by
  cases e<;>simp only [Zj] at h<;>try cases h
  simp only [d7] at h;obtain⟨ds',a,rfl⟩:=h;simp [NZ a]
class Sw (P:Program) (t:TypeId):Prop where
 out:∃e,P.underlying t=some (.pointer e)
class Ph (TB:BA) (b:Nat) (vals:outParam (List Value)):Prop where
 out:(∃(cur:Array Value) (T:TypeId) (fr:_),(b,Obj.cells cur T fr)∈TB/\∀(i:Nat) v,vals[i]? = some v->cur[i]? = some v)/\vals.all NP=true
section
variable {P:Program}{TB:BA}{Z:Ctx}{d:Option Tmp}{ty:TypeId}{pos:String}{af:Array Edge}{g:Option (Nat×Bool)}{f:Env}{σ:Ab}{nx:Nat}
variable {K:E->Ab->Nat->Prop}
theorem dj{α:Type}{t e:TypeId}{x:Operand}{l:List α}{c:α->List D}{k b:Nat}[h:Cs P t e k b](a:ev f x=some (.o (.d (.l (l.map c))))):A8 P TB Z ⟨d,.call ⟨.builtin .len,#[x],#[t]⟩,ty,pos,af,g⟩ f σ nx (eI .i64 l.length):=by
 have:=YG (t:=t) (P:=P) (TB:=TB) (Z:=Z) (d:=d) (ty:=ty) (pos:=pos) (af:=af) (g:=g) (σ:=σ) (nx:=nx) a;rwa [gt] at this
theorem dr{t yt:TypeId}{x y:Operand}{k:IntKind}{m n:Int}(b:ev f x=some (eI k m))(a:ev f y=some (eI k n))(c:0<=m)(e:0 < n) :
 A8 P TB Z ⟨d,.binOp .rem t x y yt,ty,pos,af,g⟩ f σ nx (eI k (m % n)):=fy b a (by omega) (Int.tmod_eq_emod_of_nonneg c)
theorem dq{t yt:TypeId}{x y:Operand}{m n:Int}(c:ev f x=some (eI .i64 m))(b:ev f y=some (eI .i64 n))(a:0<=m)(h:m<=9223372036854775807)(e:0 < n) :
 A8 P TB Z ⟨d,.binOp .quo t x y yt,ty,pos,af,g⟩ f σ nx (eI .i64 (m / n)):=fx c b (by omega) (by
  rw [Int.tdiv_eq_ediv_of_nonneg a];have j:0<=m / n:=kF a (by omega);have i:m / n<=m:=ky _ a
  exact IntWalk.i64_in _ (by omega))
def notNil:Operand->Bool
 | .const (.slice none 0 0)=>false
 | _=>true
theorem gD{gg:FuncId}{caps:Array Operand}{es:List E}{cs:List C}(a:Jl f caps.toList=some es)(h:Zj es=some cs):A8 P TB Z ⟨d,.makeFunc (.func gg) #[] caps,ty,pos,af,g⟩ f σ nx (.o (.fn gg cs)):=
 AO λV U p _=>by
  refine⟨.func (.func gg) #[] (caps.map U),by simp [execOp,Instr.makeFunc,go_sem],AL.fn ?_ λj c v l k=>?_⟩
  ·have b:=CE a
   have n:=congrArg List.length (NZ h);simp at b n |-;omega
  ·have b:=HK (f:=f) (V:=V) (U:=U) (λy i e m=>p.get (by simp [Op.operands];simpa using i) m) a j (.o c) v (by rw [NZ h];simp [l]) (by rw [<-lu];simpa using k)
   exact b
theorem aF{x:Operand}{cs:List D}(b:ev f x=some (.o (.ip cs))):A8 P TB Z ⟨d,.nilCheck x,ty,pos,af,g⟩ f σ nx (.o (.ip cs)):=
 AO λV U e _=>by
  have a:=e.get (by simp [Op.operands]) b;generalize c:U x=v at a;refine⟨v,?_,a⟩;obtain⟨a⟩:=a;cases a;simp [execOp,c,go_sem]
theorem dp{x:Operand}{id k i j:Nat}(b:ev f x=some (.o (.ptr id k i j))):A8 P TB Z ⟨d,.nilCheck x,ty,pos,af,g⟩ f σ nx (.o (.ptr id k i j)):=
 AO λV U e _=>by
  have a:=e.get (by simp [Op.operands]) b;generalize c:U x=v at a;refine⟨v,?_,a⟩;cases a;simp [execOp,c,go_sem]
theorem aD{x:Operand}{gg:FuncId}{cs:List C}(b:ev f x=some (.o (.fn gg cs))):A8 P TB Z ⟨d,.nilCheck x,ty,pos,af,g⟩ f σ nx (.o (.fn gg cs)):=
 AO λV U e _=>by
  have a:=e.get (by simp [Op.operands]) b;generalize c:U x=v at a;refine⟨v,?_,a⟩;obtain⟨vs,rfl,_⟩:=MZ a;simp [execOp,c,go_sem]
theorem RQ{t e:TypeId}{a:Option Addr}(b:P.underlying t=some (.pointer e))(w:World):(Op.equal t (.pointer a) (.pointer none)).run P w=.ok a.isNone w:=by
 unfold Op.equal Op.maxDepth;rw [show 10000=9999+1 from rfl,Op.equalIn];cases a<;>simp [run_underlying b,go_sem]
theorem Wi{t yt:TypeId}{x y:Operand}{cs:List D}[l:Sw P t](j:ev f x=some (.o (.ip cs)))(i:ev f y=some (.o (.d (.v (.pointer none))))):A8 P TB Z ⟨d,.binOp .eql t x y yt,ty,pos,af,g⟩ f σ nx (eB false):=
 AO λV U h _=>by
  have c:=h.get (by simp [Op.operands]) j;have s:U y=.pointer none:=AL.val (h.get (by simp [Op.operands]) i);generalize k:U x=v at c;obtain⟨c⟩:=c;obtain⟨e,m⟩:=l.out;cases c;rename_i b o vs hb z u;refine⟨.bool false,?_,.d (.v rfl)⟩;have r:binOp .eql t (.pointer (some ⟨b,o,none⟩)) (.pointer none)=(do pure (.bool (<-Op.equal t (.pointer (some ⟨b,o,none⟩)) (.pointer none)))):=rfl;have q:eqGuard .eql t x y (.pointer (some ⟨b,o,none⟩)) (.pointer none)=pure ():=rfl;have p:=RQ (a:=some ⟨b,o,none⟩) m V.w;have n:execOp U ⟨d,.binOp .eql t x y yt,ty,pos,af,g⟩=(do let v <-(do eqGuard .eql t x y (U x) (U y);binOp .eql t (U x) (U y));pure (.value v)):=rfl;rw [n,k,s,r,q];simp [p,go_sem]
theorem TJ{t yt:TypeId}{x y:Operand}[h:Sw P t](c:ev f x=some (.o (.d (.v (.pointer none)))))(b:ev f y=some (.o (.d (.v (.pointer none))))):A8 P TB Z ⟨d,.binOp .eql t x y yt,ty,pos,af,g⟩ f σ nx (eB true):=
 BD c b rfl λw=>by
  obtain⟨e,i⟩:=h.out;have l:binOp .eql t (.pointer none) (.pointer none)=(do pure (.bool (<-Op.equal t (.pointer none) (.pointer none)))):=rfl;have k:eqGuard .eql t x y (.pointer none) (.pointer none)=pure ():=rfl;have j:=RQ (a:=none) i w;rw [l,k];simp [j,go_sem]
theorem YA{t:TypeId}{b:Nat}{y:Operand}{vals:List Value}{v:Value}{n:Int}{len:Nat}{ik:IntKind}[B:OB P t len 1][ht:Ph TB b vals](q:ev f y=some (eI ik n))
 (K:0<=n) (z:n < len) (k:vals[n.toNat]? = some v):A8 P TB Z ⟨d,.indexAddr t (.global b) y,ty,pos,af,g⟩ f σ nx (.o (.ip [.v v])):=by
 intro V a J p I;have m:a.eval y=.int ik n:=AL.val (J.Jz.get (by simp [Op.operands]) q);have l:a.eval (.global b)=.pointer (some ⟨b,0,none⟩):=rfl;obtain⟨e,i,r,hi,s⟩:=SD B.out;obtain⟨⟨cur,T,fr,A,F⟩,h⟩:=ht.out;obtain⟨H,G⟩:=p.tabs _ A;unfold Oper.wp;generalize a.eval=U at m l |-
 have u:(execOp U ⟨d,.indexAddr t (.global b) y,ty,pos,af,g⟩).run P V.w=.ok (.value (.pointer (some ⟨b,n.toNat,none⟩))) V.w:=by
  simp [execOp,m,l,Instr.indexAt,asIntOf,run_underlying r,Instr.sureAddr,K,z,sizeOf,typeInfo,hi,s,Bw,go_sem]
 rw [u];refine⟨V,_,rfl,rfl,Ext.refl V,p,I,AL.ip (vs:=λ_=>v) H (λj x c=>?_) (λj x c=>?_)⟩
 ·match j with
  | 0=>simp only [World.cell?,G];simpa using F _ _ k
  | j+1=>simp at c
 ·match j with
  | 0=>simp at c;subst c;exact .v (d8.1 h v (co k))
  | j+1=>simp at c
def ei(c:UInt8):List D:=[.v (.int .u8 c.toNat)]
def HH(c:UInt8):List C:=[.d (.v (.int .u8 c.toNat))]
class Uk (P:Program) (t:TypeId):Prop where
 out:∃e,P.underlying t=some (.slice e)/\P.underlying e=some (.int .u8)
theorem Jw{src dst:TypeId}(a:Uk P src)(b:EP P dst)(w:World):(convert src dst (.slice none 0 0)).run P w=.ok (.string ⟨#[]⟩) w:=by
 obtain⟨e,d,c⟩:=a.out;exact run_convert_bytes_nil w src e d c 0 0 dst b.out
theorem PZ{src dst:TypeId}{x:Operand}{rows:List (List D)}(bs:List UInt8)[q:Uk P src][s:EP P dst](z:ev f x=some (.o (.d (.l rows))))(n:rows=bs.map ei) :
 A8 P TB Z ⟨d,.convert src dst x,ty,pos,af,g⟩ f σ nx (.o (.d (.v (.string ⟨bs.toArray⟩)))):=
 AO λV U K _=>by
  have p:=K.get (by simp [Op.operands]) z;generalize A:U x=v at p;refine⟨.string ⟨bs.toArray⟩,?_,.d (.v rfl)⟩;have F:execOp U ⟨d,.convert src dst x,ty,pos,af,g⟩=(do let v <-convert src dst (U x);pure (.value v)):=rfl;rw [F,A];obtain⟨p⟩:=p
  cases p with
  | nil=>
   have:bs=[]:=by simpa using n.symm
   subst this;simp [Jw q s,go_sem]
  | @e a cap J=>
   have:bs=[]:=by simpa using n.symm
   subst this;obtain⟨e,t,i⟩:=q.out
   have h:=run_convert_bytes_back (P:=P) V.w src dst e a cap [] t i s.out λj r=>by simp at r
   have h:(convert src dst (.slice (some a) 0 cap)).run P V.w=_:=h;simp [h,go_sem]
  | @l _ b o k cap vs hb J L I H G=>
   obtain⟨e,t,i⟩:=q.out
   have B:rows.length=bs.length:=by rw [n];simp
   have h:=run_convert_bytes_back (P:=P) V.w src dst e ⟨b,o,none⟩ cap bs t i s.out λj r=>by
    have c:rows[j]? = some (ei bs[j]):=by rw [n];simp [r]
    have m:=H j _ 0 _ c rfl;have y:=G j _ 0 _ c rfl;have hk:k=1:=(I j _ c).symm;subst hk;rw [Bw];have u:vs j 0=.int .u8 (bs[j].toNat:Int):=y.val;rw [u] at m
    simpa using m
   rw [B];simp [h,go_sem]
theorem UU{src dst:TypeId}{x:Operand}{id off len:Nat}{T:TypeId}{rows:List (List C)}(bs:List UInt8)[r:Uk P src][y:EP P dst](z:ev f x=some (.o (.arr id 1 off len)))(B:look σ id=some (.cells T 1 rows))
 (F:off+len<=rows.length) (s:(rows.drop off).take len=bs.map HH):A8 P TB Z ⟨d,.convert src dst x,ty,pos,af,g⟩ f σ nx (.o (.d (.v (.string ⟨bs.toArray⟩)))):=
 AO λV U K hi=>by
  have i:=K.get (by simp [Op.operands]) z;generalize A:U x=v at i;refine⟨.string ⟨bs.toArray⟩,?_,.d (.v rfl)⟩;have G:execOp U ⟨d,.convert src dst x,ty,pos,af,g⟩=(do let v <-convert src dst (U x);pure (.value v)):=rfl;rw [G,A]
  have b:bs.length=len:=by
   have:=congrArg List.length s;simp at this;omega
  have i:AL V (.arr id 1 off len) v:=i
  cases i with
  | nil I H=>
   have:bs=[]:=i8.1 b;subst this;simp [Jw r y,go_sem]
  | arr I k H=>
   rcases hi.st.obj id _ B with ⟨l,_⟩|⟨_,cur,l,N,M,L,J,q⟩
   ·exact absurd l k
   ·obtain⟨e,p,n⟩:=r.out
    subst b
    have m:=run_convert_bytes_back (P:=P) V.w src dst e ⟨V.U id,off*1,none⟩ (V.cap id - off) bs p n y.out λj t=>by
     have h:rows[off+j]? = some (HH bs[j]):=by
      have a:((rows.drop off).take bs.length)[j]? = some (HH bs[j]):=by rw [s];simp [t]
      rw [jk,if_pos t,jl] at a;exact a
     obtain⟨u,a,c⟩:=q _ _ 0 _ h rfl;have c:=c.val;subst c;rw [Bw]
     simpa [World.cell?,l] using a
    rw [jb,m];rfl
end
inductive WY (e:D):D->Prop
 | refl:WY e e
 | l {rows:List (List D)} {i j:Nat} {r:List D} {x:D}:rows[i]? = some r->r[j]? = some x->WY e x->WY e (.l rows)
 | p {cs:List D} {j:Nat} {x:D}:cs[j]? = some x->WY e x->WY e (.p cs)
theorem WY.len{I:Nat->Prop}{w:World}{rows:List (List D)}{d:D}(h:WY (.l rows) d):∀ {v:Value},CI I w d v->rows.length<=maxLen:=by
 induction h with
 | refl=>
  intro v h
  cases h with
  | nil=>simp
  | e=>simp
  | l _ i f=>omega
 | l c b _ a=>
  intro v h
  cases h with
  | nil=>simp at c
  | e=>simp at c
  | l _ _ _ _ _ g=>exact a (g _ _ _ _ c b)
 | p b _ a=>
  intro v h
  cases h with
  | p _ _ f=>exact a (f _ _ b)
def gb(d:D):E->Prop
 | .o (.d x)=>WY d x
 | .a cs=>∃(j:Nat) (x:D),cs[j]? = some (.d x)/\WY d x
 | _=>False
theorem gb.len{V:View}{rows:List (List D)}{e:E}{v:Value}(h:gb (.l rows) e)(b:Bq V e v):rows.length<=maxLen:=by
 cases e with
 | o c=>
  cases c with
  | d x=>cases b with|d b=>exact WY.len h b
  | _=>exact h.elim
 | a cs=>
  obtain⟨j,x,g,i⟩:=h;obtain⟨vs,_,n,m⟩:=b
  have f:j < vs.size:=by rw [n];exact(am.1 g).1
  cases m j _ _ g (jc f) with
  | d k=>exact WY.len i k
 | t=>exact h.elim
 | e=>exact h.elim
theorem Ai.bound{P:Program}{TB:BA}{Z:Ctx}{N:Nat}{c:Code}{Q:Exit->Env->Ab->Nat->Prop}{f:Env}{σ:Ab}{nx:Nat}(t:Nat){e:E}(ht:f t=some e)
 (h:(∀rows,gb (.l rows) e->rows.length<=9223372036854775807)->Ai P TB Z N c Q f σ nx):Ai P TB Z N c Q f σ nx:=by
 intro V a b;exact h (λrows hi=>hi.len (b.env t e ht)) V a b
section
variable {P:Program}{TB:BA}{Z:Ctx}{ops:Array Oper}{fl:Fl}{i n:Nat}{L:List (Nat×E)}{σ:Ab}{nx:Nat}{K:Env->Ab->Nat->Prop}{d:Option Tmp}{ty:TypeId}{pos:String}{af:Array Edge}{g:Option (Nat×Bool)}
theorem eK(id k:Nat)(o:O)(r:Ab):kill id ((k,o)::r)=if k=id then kill id r else (k,o)::kill id r:=by
 simp only [kill];by_cases h:k=id
 ·subst h;simp
 ·have:Nat.beq k id=false:=by
   cases hb:Nat.beq k id
   ·rfl
   ·exact absurd (f9 hb) h
  rw [this,cond_false,if_neg h]
end
end Go.Am
namespace Go.Am
theorem cX:((∀r f,Dl r f []=True)/\(∀r f t e L,Dl r f ((t,e)::L)=(f t=some (e.Be r)/\Dl r f L))/\(∀r σ,A2 r σ []=True)/\(∀r σ id o L,A2 r σ ((id,o)::L)=(look σ (r id)=some (o.Be r)/\A2 r σ L)))/\
 ((∀(α:Type) (k:Nat) (x:α) (r:List (Nat×α)) (i:Nat),look ((k,x)::r) i=if k=i then some x else look r i)/\(∀l nx i,nm l nx i=match l[i]? with|some j=>j|none=>nx+i)/\(∀l nx i,Ky l nx i=match l[i]? with|some j=>j|none=>nx+(i - l.length)))/\
 ((∀r c,E.Be r (.o c)=.o (C.Be r c))/\(∀r cs,E.Be r (.a cs)=.a (C.Cp r cs))/\(∀r xs,E.Be r (.t xs)=.t (xs.map λx=>(x.1,C.Cp r x.2)))/\(∀r,E.Be r .e=.e))/\
 ((∀r x,C.Be r (.d x)=.d x)/\(∀r id k off len,C.Be r (.arr id k off len)=.arr (r id) k off len)/\(∀r id k i j,C.Be r (.ptr id k i j)=.ptr (r id) k i j)/\(∀r f cap,C.Be r (.fn f cap)=.fn f (C.Cp r cap))/\(∀r id,C.Be r (.mp id)=.mp (r id))/\(∀r f l,C.Be r (.mv f l)=.mv f (C.Cp r l))/\(∀r,C.Cp r []=[])/\(∀r c l,C.Cp r (c::l)=C.Be r c::C.Cp r l))/\
 ((∀r T k rows,O.Be r (.cells T k rows)=.cells T k (rows.map (C.Cp r)))/\(∀r es,O.Be r (.mp es)=.mp es)/\(∀r T l,O.Be r (.sld T l)=.sld T l)/\(∀r,Ab.Be r []=[])/\(∀r i o σ,Ab.Be r ((i,o)::σ)=(r i,o.Be r)::Ab.Be r σ))/\
 ((∀id,kill id []=[])/\(∀id k o r,kill id ((k,o)::r)=if k=id then kill id r else (k,o)::kill id r)/\(∀σ,Cu [] σ=σ)/\(∀id r σ,Cu (id::r) σ=Cu r (kill id σ)))/\
 ((∀z,DL [] z=z)/\(∀off cs r z,DL ((off,cs)::r) z=DL r (Ag z off cs))/\(∀r j cs,Ag r j cs=r.take j++cs++r.drop (j+cs.length))/\(∀c,eC (.o c)=[c])/\(∀cs,eC (.a cs)=cs)/\(∀xs,eC (.t xs)=[])/\eC .e=[.d (.l [])])/\
 (∀k,BV k []=[])/\(∀k e l,BV k (e::l)=(k,e)::BV (k+1) l)/\∀(α β δ:Type) (f:β->δ) (g:α->β),f∘g=λx=>f (g x):=by
 refine⟨⟨λ_ _=>rfl,λ_ _ _ _ _=>rfl,λ_ _=>rfl,λ_ _ _ _ _=>rfl⟩,⟨λ_=>AA,λ_ _ _=>rfl,λ_ _ _=>rfl⟩,⟨λ_ _=>rfl,λ_ _=>rfl,λ_ _=>rfl,λ_=>rfl⟩,⟨λ_ _=>by simp [C.Be],λ_ _ _ _ _=>by simp [C.Be],λ_ _ _ _ _=>by simp [C.Be],λ_ _ _=>by simp [C.Be],λ_ _=>by simp [C.Be],λ_ _ _=>by simp [C.Be],λ_=>by simp [C.Cp],λ_ _ _=>by simp [C.Cp]⟩,⟨λ_ _ _ _=>rfl,λ_ _=>rfl,λ_ _ _=>rfl,λ_=>rfl,λ_ _ _ _=>rfl⟩,⟨λ_=>rfl,λ_ _ _ _=>eK _ _ _ _,λ_=>rfl,λ_ _ _=>rfl⟩,⟨λ_=>rfl,λ_ _ _ _=>rfl,λ_ _ _=>rfl,λ_=>rfl,λ_=>rfl,λ_=>rfl,rfl⟩,λ_=>rfl,λ_ _ _=>rfl,λ_ _ _ _ _=>rfl⟩
def fY:List Nat->Bool
 | []=>true
 | x::r=>!(r.any (Nat.beq x)) && fY r
theorem XV:∀ {l:List Nat},fY l=true->l.Nodup
 | [],_=>i7
 | x::r,h=>by
  simp only [fY,d4,ku,List.any_eq_false] at h;exact List.nodup_cons.2 ⟨λa=>h.1 x a (l3 x),XV h.2⟩
def gx(l:List Nat)(m:Nat):Bool:=(List.range m).all (λi=>l[i]? == some i) && fY l
theorem cA{α:Type}{a:α}{l m:List α}:a::l++m=a::(l++m):=rfl
theorem cB{α:Type}{m:List α}:[]++m=m:=rfl
theorem rl{l:List Nat}{m k:Nat}(h:k=m)(a:gx l m=true):(∀i,i < k->l[i]? = some i)/\l.Nodup:=by
 subst h;unfold gx at a;rw [d4,d8] at a;exact⟨λi hi=>by simpa using a.1 i (jj.2 hi),XV a.2⟩
theorem Es{l:List Nat}{m k n:Nat}(h:k=m)(a:gx l m=true)(b:l.length=n):(∀i,i < k->l[i]? = some i)/\l.Nodup/\l.length=n:=⟨(rl h a).1,(rl h a).2,b⟩
theorem rg{m k n:Nat}(h:k=m)(a:Nat.ble m n=true):(∀i,i < k->(List.range n)[i]? = some i)/\(List.range n).Nodup/\(List.range n).length=n:=by
 subst h;have:=ce a;exact⟨λi hi=>kW (by omega),List.nodup_range,List.length_range⟩
def PJ(V:View)(m:Nat):View:={ V with nx:=m }
theorem ZW{V:View}{m:Nat}(h:m<=V.nx):Ext (PJ V m) V:=⟨λ_ h=>h,λ_ _=>rfl,iX _,λ_ _=>rfl,λ_ _=>rfl,λ_ _=>Iff.rfl,h⟩
theorem Zf{V V1:View}{l:List Nat}{m:Nat}(d:m<=l.length)(e:Ext (PJ (V.Be (nm l V.nx) l.length) m) V1):Ext (V.Be (nm (l.take m) V.nx) (l.take m).length) V1:=by
 have c:(l.take m).length=m:=by rw [kx];exact Nat.min_eq_left d
 have b:∀id,id < m->nm (l.take m) V.nx id=nm l V.nx id:=λid a=>by
  unfold nm;rw [jk,if_pos a]
 refine⟨e.i,e.heap,e.size,λid a=>?_,λid a=>?_,λid a=>?_,by show (l.take m).length<=_;rw [c];exact e.nx⟩
 ·have a:id < m:=by have:id < (l.take m).length:=a;omega
  show _=V.U (nm (l.take m) V.nx id)
  rw [b id a];exact e.U id a
 ·have a:id < m:=by have:id < (l.take m).length:=a;omega
  show _=V.cap (nm (l.take m) V.nx id)
  rw [b id a];exact e.cap id a
 ·have a:id < m:=by have:id < (l.take m).length:=a;omega
  show _↔V.nl (nm (l.take m) V.nx id)
  rw [b id a];exact e.nl id a
section
variable (P:Program)(TB:BA)
def Cr(g:FuncId)(m:Nat)(σ:Ab)(nx:Nat)(args:List E)(post:E->Ab->Nat->Prop):Prop:=
 bR P g/\∀V vs S,Good TB V σ nx S->Oe V args vs->Calls P g vs V.w λe w'=>∃V' v x σ',e=.returned v/\V'.w=w'/\Inv TB (GB V (PJ V m) σ S) V' σ'/\Bq V' x v/\post x σ' V'.nx
end
section
variable {P:Program}{TB:BA}{Z:Ctx}{d:Option Tmp}{ty:TypeId}{pos:String}{af:Array Edge}{g:Option (Nat×Bool)}{f:Env}{σ:Ab}{nx:Nat}{N:Nat}
variable {K:E->Ab->Nat->Prop}
theorem VB{V V1:View}{l:List Nat}{m:Nat}{y A:Ab}(h:Inv TB Z V σ)(hl:∀i∈l,i < V.nx)(hS:A2 (nm l V.nx) σ y)(hm:m<=l.length)
 {S:Sz} (M:Of TB V σ S) (hSJ:∀b,S.J b->Z.J b\/Z.V.w.heap.size<=b\/Z.F b) (K:∀b,S.B b->Z.V.w.heap.size<=b\/Z.F b)
 (u:Inv TB (GB (V.Be (nm l V.nx) l.length) (PJ (V.Be (nm l V.nx) l.length) m) y S) V1 A) :
 Inv TB Z (Gy V V1 (l.take m)) (A.Be (Ky (l.take m) V.nx)++Cu l σ)/\Ext V (Gy V V1 (l.take m))/\Sy V1 (Gy V V1 (l.take m)) (Ky (l.take m) V.nx):=by
 have hx:=Zf hm u.ext;have v:=IU (l:=l.take m) (λi hi=>hl i (jg hi)) hx;have hlen:(l.take m).length<=V1.nx:=hx.nx;have hsz:V.w.heap.size<=V1.w.heap.size:=u.ext.size
 have G:∀b,DS (V.Be (nm l V.nx) l.length) y b->∃i o,i∈l/\look σ i=some o/\¬V.nl i/\EF V i o b:=by
  rintro b ⟨j,o,hj,R,hb⟩;have a:=hS.get j o hj;have g:=Rx (h.st.lt _ _ a);have d:=Hk (nx:=V.nx) g;refine⟨l[j],o.Be _,jC g,by rw [<-d];exact a,?_,?_⟩
  ·have:¬V.nl (nm l V.nx j):=R
   rwa [d] at this
  ·have c:=CD.1 hb
   rwa [d] at c
 have H:∀b,DS (V.Be (nm l V.nx) l.length) y b->b < V.w.heap.size/\¬V.I b/\(Z.V.w.heap.size<=b\/Z.F b):=by
  intro b hb;obtain⟨i,o,_,g,d,c⟩:=G b hb;exact⟨(h.st.obj i o g).blt d c,h.st.free i o g d b c,h.live i o g d b c⟩
 have t:∀i o,i∉l->look σ i=some o->¬V.nl i->∀b,EF V i o b->¬DS (V.Be (nm l V.nx) l.length) y b:=by
  intro i o hi s R b hb X;obtain⟨j,o',g,d,c,h6⟩:=G _ X;exact h.st.inj j i o' o d s (λe=>hi (e ▸ g)) c R b h6 hb
 have P:∀b,b < V.w.heap.size->¬DS (V.Be (nm l V.nx) l.length) y b->¬S.B b->V1.w.heap[b]? = V.w.heap[b]?:=λb hb X hB=>u.old b hb λh=>h.elim X hB
 have e:Ext V (Gy V V1 (l.take m)):=by
  refine⟨λb hb=>u.ext.i b hb,λb hb=>u.ext.heap b hb,hsz,λi hi=>?_,λi hi=>?_,λi hi=>?_,Nat.le_add_right _ _⟩
  ·show (if _ then _ else _)=_;rw [if_pos hi]
  ·show (if _ then _ else _)=_;rw [if_pos hi]
  ·show (if _ then _ else _)↔_;rw [if_pos hi]
 have f:∀i o,look (A.Be (Ky (l.take m) V.nx)++Cu l σ) i=some o->(∃j p,j < V1.nx/\Ky (l.take m) V.nx j=i/\look A j=some p/\o=p.Be (Ky (l.take m) V.nx))\/(i∉l/\i < V.nx/\look σ i=some o):=by
  intro i o s
  rcases HT s with a|a
  ·obtain⟨j,p,g,d,c⟩:=Nr a
   exact .inl ⟨j,p,u.st.lt j p d,g,d,c⟩
  ·obtain⟨g,d⟩:=Bk l σ i o a
   exact .inr ⟨g,h.st.lt i o d,d⟩
 have n:∀i,i < V.nx->((Gy V V1 (l.take m)).nl i↔V.nl i):=λi hi=>e.nl i hi
 have Q:∀j p,look A j=some p->¬V1.nl j->∀i o,i∉l->look σ i=some o->¬V.nl i->∀b,EF V1 j p b->¬EF V i o b:=by
  intro j p hj hnj i o hi s T b hb q
  rcases u.live j p hj hnj b hb with a|a
  ·have:=(h.st.obj i o s).blt T q
   have a:V.w.heap.size<=b:=a;omega
  ·rcases a with a|a
   ·exact t i o hi s T b q a
   ·exact M.ap b ⟨i,o,s,T,q⟩ a
 refine⟨⟨u.os.trans h.os,u.tape.trans h.tape,u.output.trans h.output,?_,u.iLt,?_,h.ext.trans e,⟨?_,?_,?_,?_⟩,?_,u.tabs,?_⟩,e,v⟩
 ·intro b hb X
  have:¬DS (V.Be (nm l V.nx) l.length) y b:=λq=>by
   rcases(H b q).2.2 with a|a
   ·omega
   ·exact X a
  exact(P b (ja hb h.ext.size) this λhx=>(K b hx).elim (λh=>by omega) X).trans (h.old b hb X)
 ·intro b hb
  rcases u.iNew b hb with a|a|a
  ·exact h.iNew b a
  ·exact .inr (.inl (i9 h.ext.size a))
  ·exact .inr (a.elim (λa=>(H b a).2.2) (K b))
 ·intro i o s
  rcases f i o s with ⟨j,p,a,rfl,d,rfl⟩|⟨a,g,d⟩
  ·exact(u.st.obj j p d).push v a
  ·exact(h.st.obj i o d).AX e g λx b hb=>P _ ((h.st.obj i o d).blt x hb) (t i o a d x b hb) (M.ap b ⟨i,o,d,x,hb⟩)
 ·intro i o s
  rcases f i o s with ⟨j,p,a,rfl,d,rfl⟩|⟨a,g,d⟩
  ·exact v.lt j a
  ·exact ja g e.nx
 ·intro i o s x b hb hI
  rcases f i o s with ⟨j,p,a,rfl,d,rfl⟩|⟨a,g,d⟩
  ·exact u.st.free j p d (λh=>x ((v.nl j a).2 h)) b ((Ch v a).1 hb) hI
  ·have k:¬V.nl i:=λh=>x ((n i g).2 h)
   have hb:=(AK e g).1 hb
   rcases u.iNew _ hI with c|c|c
   ·exact h.st.free i o d k b hb c
   ·have:=(h.st.obj i o d).blt k hb
    have c:V.w.heap.size<=b:=c;omega
   ·rcases c with c|c
    ·exact t i o a d k b hb c
    ·exact M.ap b ⟨i,o,d,k,hb⟩ c
 ·intro i i' o o' s ho' hne x k b hb q
  rcases f i o s with ⟨j,p,a,rfl,d,rfl⟩|⟨a,g,d⟩<;>rcases f i' o' ho' with ⟨j',Y,z,rfl,L,rfl⟩|⟨z,N,L⟩
  ·exact u.st.inj j j' p Y d L (λe=>hne (by rw [e])) (λh=>x ((v.nl j a).2 h)) (λh=>k ((v.nl j' z).2 h)) b ((Ch v a).1 hb) ((Ch v z).1 q)
  ·exact Q j p d (λh=>x ((v.nl j a).2 h)) i' o' z L (λh=>k ((n i' N).2 h)) b ((Ch v a).1 hb) ((AK e N).1 q)
  ·exact Q j' Y L (λh=>k ((v.nl j' z).2 h)) i o a d (λh=>x ((n i g).2 h)) b ((Ch v z).1 q) ((AK e g).1 hb)
  ·exact h.st.inj i i' o o' d L hne (λh=>x ((n i g).2 h)) (λh=>k ((n i' N).2 h)) b ((AK e g).1 hb) ((AK e N).1 q)
 ·intro i o s x b hb
  rcases f i o s with ⟨j,p,a,rfl,d,rfl⟩|⟨a,g,d⟩
  ·rcases u.live j p d (λh=>x ((v.nl j a).2 h)) b ((Ch v a).1 hb) with c|c
   ·exact .inl (i9 h.ext.size c)
   ·exact c.elim (λc=>(H _ c).2.2) (K b)
  ·exact h.live i o d (λh=>x ((n i g).2 h)) b ((AK e g).1 hb)
 ·obtain⟨S1,k1,k2,k3⟩:=u.hid
  refine⟨S1,⟨k1.r,k1.ji,k1.bi,λb ⟨i,o,s,x,hb⟩ hB=>?_⟩,λb hb=>?_,λb hb=>?_⟩
  ·rcases f i o s with ⟨j,p,a,rfl,d,rfl⟩|⟨a,g,d⟩
   ·exact k1.ap b ⟨j,p,d,λh=>x ((v.nl j a).2 h),(Ch v a).1 hb⟩ hB
   ·have k:¬V.nl i:=λh=>x ((n i g).2 h)
    have hb:=(AK e g).1 hb
    rcases k3 b hB with c|c|c
    ·have:=(h.st.obj i o d).blt k hb
     have c:V.w.heap.size<=b:=c;omega
    ·exact t i o a d k b hb c
    ·exact M.ap b ⟨i,o,d,k,hb⟩ c
  ·rcases k2 b hb with c|c|c|c
   ·exact hSJ b c
   ·exact .inr (.inl (i9 h.ext.size c))
   ·exact .inr (H _ c).2.2
   ·exact .inr (K b c)
  ·rcases k3 b hb with c|c|c
   ·exact .inl (i9 h.ext.size c)
   ·exact(H _ c).2.2
   ·exact K b c
theorem Dh{x:Operand}{args:Array Operand}{tys:Array TypeId}{gg:FuncId}{cap:List C}{es M:List E}{t:Ab}{n0:Nat}{post:E->Ab->Nat->Prop}(l:List Nat)(hx:ev f x=some (.o (.fn gg cap)))(T:Jl f args.toList=some es)
 (m:Nat) (hs:Cr P TB gg m t n0 M post) (hm:m<=n0) (hl:l.length=n0/\l.Nodup/\∀i∈l,i < nx) (ha:es++cap.map .o=FO (nm l nx) M) (L:A2 (nm l nx) σ t)
 (hK:∀x0 s B,post x0 s B->m<=B->K (x0.Be (Ky (l.take m) nx)) (s.Be (Ky (l.take m) nx)++Cu l σ) (nx+(B - m))) :
 Cq P TB Z ⟨d,.call ⟨.value x,args,tys⟩,ty,pos,af,g⟩ f σ nx K:=by
 obtain⟨hl0,hn,u⟩:=hl;subst hl0;intro V a h1 A Y;subst Y;have h1:=h1.Jz;unfold Oper.wp;generalize a.eval=U at h1 |-;obtain⟨vs,w,z⟩:=MZ (h1.get (x:=x) (by simp [Op.operands,Call.operands]) hx);rw [Jv hs.1 w];have X:=CE T
 have h:Oe V (es++cap.map .o) (args.map U++vs):=by
  refine⟨by simp [z.1,X],λj e v H w=>?_⟩
  have F:(args.map U).size=es.length:=by simp [X]
  by_cases u:j < es.length
  ·rw [d9 u] at H
   rw [jr (by rw [F];exact u)] at w;exact HK (λy hy e he=>h1.get (by simp [Op.operands,Call.operands];right;simpa using hy) he) T j e v H (by rw [<-lu];simpa using w)
  ·rw [em (by omega)] at H
   rw [kg (by rw [F];omega),F] at w;simp only [ge,d7] at H;obtain⟨c,hc,rfl⟩:=H;exact z.2 _ c v hc w
 have hr:∀id,nm l V.nx id < V.nx->id < l.length:=λid=>Rx
 have J:Oe (V.Be (nm l V.nx) l.length) M (args.map U++vs):=by
  rw [ha] at h;refine⟨by rw [h.1,Hq],λj e v H w=>?_⟩;exact(h.2 j (e.Be (nm l V.nx)) v (by rw [KX,H];rfl) w).Be hr
 have n:∀id o,look t id=some o->id < l.length:=λid o q=>hr id (A.st.lt _ _ (L.get id o q));obtain⟨S,p,hSJ,hSB⟩:=A.hid
 have I:Good TB (V.Be (nm l V.nx) l.length) t l.length S:=by
  refine⟨A.iLt,⟨λid o q=>CC.Be hr (A.st.obj _ _ (L.get id o q)),n,λid o q k b hb=>A.st.free _ _ (L.get id o q) k b (CD.1 hb),?_⟩,A.tabs,rfl,⟨p.r,p.ji,p.bi,λb ⟨id,o,q,k,hb⟩=>p.ap b ⟨_,_,L.get id o q,k,CD.1 hb⟩⟩⟩;intro id id' o o' q N hne k Q b hb hb';refine A.st.inj _ _ _ _ (L.get id o q) (L.get id' o' N) ?_ k Q b (CD.1 hb) (CD.1 hb');have Y:=n id o q;have h4:=n id' o' N;rw [Hk Y,Hk h4];intro he;have hp:=jn.1 hn
  rcases lK hne with h5|h5
  ·exact hp _ _ Y h4 h5 he
  ·exact hp _ _ h4 Y h5 he.symm
 refine(hs.2 _ _ S I J).mono ?_;rintro e w' ⟨V1,v,x1,s,rfl,rfl,R,hx1,G⟩;obtain⟨hi',he',hp'⟩:=VB A u L hm p hSJ hSB R
 have hlm:(l.take m).length=m:=by rw [kx];exact Nat.min_eq_left hm
 have hnx:(Gy V V1 (l.take m)).nx=V.nx+(V1.nx - m):=by show V.nx+(V1.nx - (l.take m).length)=_;rw [hlm]
 have hk:=hK x1 s V1.nx G R.ext.nx;rw [<-hnx] at hk;exact⟨Gy V V1 (l.take m),v,x1.Be (Ky (l.take m) V.nx),_,rfl,rfl,he',hi',hx1.push hp',hk⟩
end
section
variable {P:Program}{TB:BA}{Z:Ctx}{d:Option Tmp}{ty:TypeId}{pos:String}{af:Array Edge}{g:Option (Nat×Bool)}{f:Env}{σ:Ab}{nx:Nat}
variable {K:E->Ab->Nat->Prop}
def ZC(f:Env):Option Operand->Option (Option (IntKind×Int))
 | none=>some none
 | some x=>match ev f x with
  | some (.o (.d (.v (.int k m))))=>some (some (k,m))
  | _=>none
theorem Ml{o:Oper}{V:View}{U:Operand->Value}(e:Ll V o f U){x:Option Operand}{b:Option (IntKind×Int)}(a:∀y,x=some y->y∈o.op.operands)(h:ZC f x=some b):x.map U=b.map λp=>.int p.1 p.2:=by
 cases x with
 | none=>injection h with h;subst h;rfl
 | some y=>
  unfold ZC at h;simp only at h;split at h
  ·rename_i k m c
   injection h with h
   subst h;have d:U y=.int k m:=AL.val (e.get (a y rfl) c);simp [d]
  ·cases h
def Lz:Option (IntKind×Int)->Int
 | none=>0
 | some p=>p.2
def Lu(n:Nat):Option (IntKind×Int)->Int
 | none=>n
 | some p=>p.2
theorem MM{isS:Bool}{len cap:Nat}{lo hi:Option (IntKind×Int)}(b:0<=Lz lo)(e:Lz lo<=Lu len hi)(d:Lu len hi<=len)(c:len<=cap)(w:World) :
 (Instr.sliceBounds isS len cap (lo.map λp=>.int p.1 p.2) (hi.map λp=>.int p.1 p.2) none).run P w=.ok ((Lz lo).toNat,(Lu len hi).toNat,cap) w:=by
 cases lo with
 | none=>
  cases hi with
  | none=>simp [Instr.sliceBounds,Lz,Lu,go_sem]
  | some h=>
   simp only [Lz,Lu] at *;simp [Instr.sliceBounds,run_sliceBound w h.1 h.2 cap _ (by omega) (by omega),Lz,Lu,go_sem]
 | some l=>
  cases hi with
  | none=>
   simp only [Lz,Lu] at *;simp [Instr.sliceBounds,run_sliceBound w l.1 l.2 len _ (by omega) (by omega),Lz,Lu,go_sem]
  | some h=>
   simp only [Lz,Lu] at *;simp [Instr.sliceBounds,run_sliceBound w h.1 h.2 cap _ (by omega) (by omega),run_sliceBound w l.1 l.2 h.2.toNat _ (by omega) (by omega),Lz,Lu,go_sem];intro a;have:=a b;omega
theorem TS{t:TypeId}(ht:P.underlying t=some .string){s:ByteArray}{lo hi:Option Value}{l h m:Nat}{w:World}(hb:(Instr.sliceBounds false s.size s.size lo hi none).run P w=.ok (l,h,m) w) :
 (Instr.sliceAt t (.string s) lo hi none).run P w=.ok (.string (s.extract l h)) w:=by
 have a:(Instr.sliceAt t (.string s) lo hi none).run P w=(Instr.slice t (.string s) lo hi none).run P w:=by
  unfold Instr.sliceAt;rw [jb,run_underlying ht,iW]
 rw [a];unfold Instr.slice;rw [jb,run_underlying ht,iW];simp only [Option.isSome_none,mc,if_false];rw [jb];generalize Instr.sliceBounds false s.size s.size lo hi none=sb at hb |-;simp [hb,go_sem]
theorem TR{t e:TypeId}{i:TypeInfo}(c:P.underlying t=some (.slice e))(hi:P.info? e=some i){a:Option Addr}{len cap:Nat}{lo b:Option Value}{l h m:Nat}{w:World}(hb:(Instr.sliceBounds true len cap lo b none).run P w=.ok (l,h,m) w) :
 (Instr.sliceAt t (.slice a len cap) lo b none).run P w=.ok (.slice (if m=l then a else a.map (·.add (l*i.size))) (h - l) (m - l)) w:=by
 have d:(Instr.sliceAt t (.slice a len cap) lo b none).run P w=(Instr.slice t (.slice a len cap) lo b none).run P w:=by
  unfold Instr.sliceAt;rw [jb,run_underlying c,iW]
 rw [d];unfold Instr.slice;rw [jb,run_underlying c,iW];simp only;rw [jb];generalize Instr.sliceBounds true len cap lo b none=sb at hb |-;simp [hb,sizeOf,typeInfo,hi,go_sem]
theorem PY{t:TypeId}{x:Operand}{lo hi:Option Operand}{s:List UInt8}{l h:Option (IntKind×Int)}[ht:EP P t](i:ev f x=some (eT s))(j:ZC f lo=some l)(k:ZC f hi=some h)
 (o:0<=Lz l) (n:Lz l<=Lu s.length h) (m:Lu s.length h<=s.length):A8 P TB Z ⟨d,.slice t x lo hi none,ty,pos,af,g⟩ f σ nx (eT ((s.take (Lu s.length h).toNat).drop (Lz l).toNat)):=
 AO λV U c _=>by
  have u:U x=.string ⟨s.toArray⟩:=AL.val (c.get (by simp [Op.operands]) i);have r:=Ml c (x:=lo) (λy b=>by subst b;simp [Op.operands]) j;have q:=Ml c (x:=hi) (λy b=>by subst b;simp [Op.operands]) k
  have a:(⟨s.toArray⟩:ByteArray).size=s.length:=by simp [ByteArray.size]
  have hb:=MM (P:=P) (isS:=false) (len:=s.length) (cap:=s.length) o n m (iX _) V.w;refine⟨.string ((⟨s.toArray⟩:ByteArray).extract (Lz l).toNat (Lu s.length h).toNat),?_,?_⟩
  ·rw [<-a] at hb
   have e:=TS ht.out hb;rw [a] at e;simp only [execOp,u,r,q,Option.map_none,jb,e,iW];rfl
  ·have p:((⟨s.toArray⟩:ByteArray).extract (Lz l).toNat (Lu s.length h).toNat)=⟨((s.take (Lu s.length h).toNat).drop (Lz l).toNat).toArray⟩:=by
    apply ByteArray.ext;rw [ByteArray.data_extract];apply Array.toList_inj.1;simp [List.extract_eq_take_drop,List.drop_take]
   rw [p];exact .d (.v rfl)
theorem aG{t e:TypeId}{k b:Nat}{x:Operand}{lo hi:Option Operand}{rows:List (List D)}{l h:Option (IntKind×Int)}[G:Cs P t e k b](X:ev f x=some (.o (.d (.l rows))))(hl:ZC f lo=some l)(hh:ZC f hi=some h)(hk:∀r∈rows,r.length=k)
 (h0:0<=Lz l) (h1:Lz l<=Lu rows.length h) (h2:Lu rows.length h<=rows.length):A8 P TB Z ⟨d,.slice t x lo hi none,ty,pos,af,g⟩ f σ nx (.o (.d (.l ((rows.take (Lu rows.length h).toNat).drop (Lz l).toNat)))):=
 AO λV U H _=>by
  have B:=H.get (by simp [Op.operands]) X;have e2:=Ml H (x:=lo) (λy F=>by subst F;simp [Op.operands]) hl;have e3:=Ml H (x:=hi) (λy F=>by subst F;simp [Op.operands]) hh;generalize Y:U x=v at B;obtain⟨i,hu,L,hs,_⟩:=Gs G.out;generalize I:(Lz l).toNat=lo' at *;generalize M:(Lu rows.length h).toNat=c at *
  have A:lo'<=c/\c<=rows.length:=by omega
  have p:∀(a:Option Addr) (cap:Nat),rows.length<=cap->v=.slice a rows.length cap->(execOp U ⟨d,.slice t x lo hi none,ty,pos,af,g⟩).run P V.w=.ok (.value (.slice (if cap=lo' then a else a.map (·.add (lo'*i.size))) (c - lo') (cap - lo'))) V.w:=by
   intro a cap R he;have hb:=MM (P:=P) (isS:=true) (len:=rows.length) (cap:=cap) h0 h1 h2 R V.w;rw [I,M] at hb;subst he;have s:=TR hu L (a:=a) hb;simp only [execOp,Y,e2,e3,Option.map_none,jb,s,iW];rfl
  have z:((rows.take c).drop lo').length=c - lo':=by simp;omega
  obtain⟨B⟩:=B
  cases B with
  | nil=>
   have s:lo'=0/\c=0:=by simp at A;omega
   obtain⟨rfl,rfl⟩:=s;exact⟨_,p none 0 (by simp) rfl,.d .nil⟩
  | @e a cap R=>
   have s:lo'=0/\c=0:=by simp at A;omega
   obtain⟨rfl,rfl⟩:=s;refine⟨_,p (some a) cap (by simp) rfl,?_⟩;by_cases Q:cap=0
   ·rw [if_pos Q];exact .d (.e (by omega))
   ·rw [if_neg Q];exact .d (.e (by omega))
  | @l _ b' o k' cap vs hb s Q S h6 h7=>
   refine⟨_,p (some ⟨b',o,none⟩) cap s rfl,?_⟩;by_cases T:c - lo'=0
   ·have:(rows.take c).drop lo'=[]:=List.eq_nil_of_length_eq_zero (by omega)
    rw [this,T];split
    ·exact .d (.e (by omega))
    ·exact .d (.e (by omega))
   ·have N:¬cap=lo':=by omega
    rw [if_neg N];simp only [kE,Bw]
    have J:k'=i.size:=by
     have u:0 < rows.length:=by omega
     have e5:=S 0 _ (d6 u);have e6:=hk _ (jC u);omega
    have m:∀(q:Nat) (r:List D),((rows.take c).drop lo')[q]? = some r->rows[lo'+q]? = some r:=λq r n=>by
     rw [jl,jk] at n;split at n
     ·exact n
     ·cases n
    rw [<-z];refine .d (.l (k:=k') (vs:=λq j=>vs (lo'+q) j) hb (by omega) (by omega) (λq r n=>S _ r (m q r n)) (λq r j dd n K=>?_) (λq r j dd n K=>h7 _ r j dd (m q r n) K));have:=h6 _ r j dd (m q r n) K;rw [<-J]
    have e7:o+lo'*k'+q*k'+j=o+(lo'+q)*k'+j:=by rw [js];omega
    rw [e7];exact this
class gZ (P:Program) (t:TypeId) (z:outParam Value):Prop where
 out:(P.info? t).bind (·.zero)=some z
class gY (P:Program) (t:TypeId) (k e:outParam TypeId):Prop where
 out:P.underlying t=some (.map k e)
end
section
variable {P:Program}{TB:BA}
theorem Cr.Zk{g:FuncId}{σ:Ab}{nx:Nat}{args:List E}{post:E->Ab->Nat->Prop}(h:Cr P TB g nx σ nx args post):Spec P TB g σ nx args post:=
 ⟨h.1,λV vs S a ha=>(h.2 V vs S a ha).mono λ_ _ ⟨V',v,x,σ',i,f,e,d,c⟩=>⟨V',v,x,σ',i,f,by have b:=a.nx;subst b;exact e,d,c⟩⟩
end
def AP(s:Int)(n:Nat):Bool:=decide (ES .i64 (s.fdiv (2 ^ min n 64)) 1=1)
def hasB(s n:Int):Bool:=decide (0<=n) && AP s n.toNat
def A3(n:Int):Bool:=decide (0<=n/\n<=63)
abbrev iD(n:Int):D:=.v (.int .i64 n)
abbrev bD(b:Bool):D:=.v (.bool b)
abbrev tD(s:List UInt8):D:=.v (.string ⟨s.toArray⟩)
abbrev Bm(n:Int):List D:=[iD n]
abbrev ML(b:Bool):List D:=[bD b]
abbrev C0(s:List UInt8):List D:=[tD s]
abbrev Fw(l:List Int):D:=.l (l.map Bm)
abbrev Gx(l:List Bool):D:=.l (l.map ML)
abbrev FR(l:List (List UInt8)):D:=.l (l.map C0)
abbrev AB(n:Int):List C:=[.d (iD n)]
abbrev AZ(b:Bool):List C:=[.d (bD b)]
abbrev IQ(s:List UInt8):List C:=[.d (tD s)]
abbrev Fx(l:List Int):List D:=[Fw l]
abbrev C7(l:List (List Int)):D:=.l (l.map Fx)
abbrev SW(l:List Int):List C:=[.d (Fw l)]
abbrev I0(l:List (List Int)):List D:=[C7 l]
abbrev ZR(l:List (List (List Int))):D:=.l (l.map I0)
structure DA where
 f:Int
 l:Int
 t:Int
 deriving DecidableEq
structure Sys where
 al:Int
 st:Int
 es:List DA
structure AU where
 al:Int
 nx:List (List Int)
 ac:List Bool
abbrev CL(e:DA):List D:=[iD e.f,iD e.l,iD e.t]
abbrev A4(e:DA):List C:=[.d (iD e.f),.d (iD e.l),.d (iD e.t)]
abbrev SP(e:DA):E:=.a [.d (iD e.f),.d (iD e.l),.d (iD e.t)]
abbrev Em(l:List DA):D:=.l (l.map CL)
abbrev AD(s:Sys):List D:=[iD s.al,iD s.st,Em s.es]
abbrev Bx(s:Sys):E:=.a [.d (iD s.al),.d (iD s.st),.d (Em s.es)]
abbrev Ia(l:List Sys):D:=.l (l.map AD)
abbrev AF(a:AU):List D:=[iD a.al,C7 a.nx,Gx a.ac]
abbrev Bj(a:AU):E:=.a [.d (iD a.al),.d (C7 a.nx),.d (Gx a.ac)]
abbrev SE(l:List AU):D:=.l (l.map AF)
abbrev Aj(l:List Int):E:=.o (.d (Fw l))
abbrev ER(l:List (List Int)):E:=.o (.d (C7 l))
abbrev BP(l:List (List UInt8)):E:=.o (.d (FR l))
abbrev bB(l:List DA):E:=.o (.d (Em l))
abbrev EJ(l:List Sys):E:=.o (.d (Ia l))
def AG(s:Int)(k:Nat):List Int:=((List.range k).filter (AP s)).map Int.ofNat
theorem AM(s:Int)(k:Nat):(AG s k).length<=k:=by
 unfold AG;rw [gt];exact i9 (lm _ _) (by simp)
theorem Cw(s:Int)(k:Nat):AG s (k+1)=AG s k++if AP s k then [(k:Int)] else []:=by
 unfold AG;rw [kG,j9,jW];cases h:AP s k<;>simp [h]
abbrev Ac(s:Int):List Int:=AG s 6
def Dn(al st:Int)(e:DA):Bool:=decide (0<=e.f/\e.f < st/\0<=e.t/\e.t < st/\0<=e.l/\e.l < 6) && AP al e.l.toNat
def ID(e f:DA):Bool:=if e.f≠f.f then decide (e.f < f.f) else if e.l≠f.l then decide (e.l < f.l) else decide (e.t < f.t)
def Ib(s:Sys)(i:Nat):Bool:=match s.es[i]? with
 | none=>true
 | some e=>Dn s.al s.st e && match i with
  | 0=>true
  | j+1=>match s.es[j]? with
   | none=>true
   | some p=>ID p e
def AR(s:Sys):Bool:=A3 s.al && decide (1<=s.st/\s.st<=16) && (List.range s.es.length).all (Ib s)
theorem Fq{α:Type}{l:List α}{f:α->Bool}{k:Nat}{x:α}(h:l[k]? = some x)(b:(l.take k).all f=true)(a:f x=true):(l.take (k+1)).all f=true:=by
 rw [gc,h];simp [List.all_append,b,a]
theorem Hb{α:Type}{l:List α}{f:α->Bool}{k:Nat}{x:α}(h:l[k]? = some x)(a:f x=false):l.all f=false:=by
 rw [mr];exact⟨x,co h,by simp [a]⟩
theorem Fp{α:Type}{l:List α}{f:α->Bool}{k:Nat}(h:(l.take k).all f=true)(hk:l.length<=k):l.all f=true:=by
 rwa [iY hk] at h
theorem get_map{α β:Type}{l:List α}{g:α->β}{k:Nat}{x:α}(h:l[k]? = some x):(l.map g)[((k:Nat):Int).toNat]? = some (g x):=by simp [h]
theorem get_some{α:Type}{l:List α}{k:Nat}(h:k < l.length):∃x,l[k]? = some x:=⟨_,d6 h⟩
def Qc(n:Int)(q:Int):Bool:=decide (0<=q/\q < n)
def EY(ls n:Int)(row:List Int):Bool:=decide ((row.length:Int)=ls) && row.all (Qc n)
def AH(a:AU):Bool:=A3 a.al && decide (1<=a.nx.length/\a.nx.length<=12) && decide (a.ac.length=a.nx.length) && a.nx.all (EY (Ac a.al).length a.nx.length)
inductive FL (σ:Ab) (ids:List Nat):List C->List C->Prop
 | nil:FL σ ids [] []
 | cons {c c':C} {cs cs':List C}:FC σ ids c c'->FL σ ids cs cs'->FL σ ids (c::cs) (c'::cs')
section
variable {P:Program}{TB:BA}{Z:Ctx}{N:Nat}{σ:Ab}
end
end Go.Am
namespace Go.Am
abbrev W:=List UInt8
structure Bb where
 rows:List W
 cols:List W
def UI(b:Bool):UInt8:=if b then 43 else 45
theorem UJ{a b:Bool}(h:UI a=UI b):a=b:=by cases a<;>cases b<;>first|rfl|(simp [UI] at h)
def marks(L:W->Bool)(cols:List W)(w:W):W:=cols.map λc=>UI (L (w++c))
theorem XP{L:W->Bool}{cols:List W}{u w:W}:marks L cols u=marks L cols w↔∀c∈cols,L (u++c)=L (w++c):=by
 unfold marks;rw [kH];exact⟨λh c a=>UJ (h c a),λh c a=>by rw [h c a]⟩
def AY(L:W->Bool)(t:Bb):List W:=t.rows.map (marks L t.cols)
def CR(ls:List UInt8)(rows:List W):List W:=rows.flatMap λr=>ls.map λl=>r++[l]
def Bg(L:W->Bool)(ls:List UInt8)(t:Bb):Option W:=(CR ls t.rows).find? λw=>!(AY L t).contains (marks L t.cols w)
def BO(L:W->Bool)(ls:List UInt8):Nat->Bb->Option Bb
 | 0,_=>none
 | n+1,t=>match Bg L ls t with
  | none=>some t
  | some w=>if t.rows.length=12 then none else BO L ls n ⟨t.rows++[w],t.cols⟩
def A0(ls:List UInt8)(w:W):Prop:=∀c∈w,c∈ls
structure TOk (L:W->Bool) (ls:List UInt8) (t:Bb):Prop where
 r0:t.rows[0]? = some []
 c0:t.cols[0]? = some []
 pre:∀(i:Nat) w,t.rows[i]? = some w->0 < i->w≠[]/\∃j,j < i/\t.rows[j]? = some w.dropLast
 onR:∀w∈t.rows,A0 ls w
 onC:∀c∈t.cols,A0 ls c
 nd:(AY L t).Nodup
 ndC:t.cols.Nodup
theorem Hn{L:W->Bool}{ls:List UInt8}{t:Bb}{w:W}(h:Bg L ls t=some w):(∃r∈t.rows,∃l∈ls,w=r++[l])/\marks L t.cols w∉AY L t:=by
 have d:=List.find?_some h;have a:=List.mem_of_find?_eq_some h;unfold CR at a;simp only [kz,f7] at a;obtain⟨r,b,l,c,rfl⟩:=a;exact⟨⟨r,b,l,c,rfl⟩,by simpa using d⟩
theorem FJ{L:W->Bool}{ls:List UInt8}{t:Bb}(h:Bg L ls t=none):∀r∈t.rows,∀l∈ls,marks L t.cols (r++[l])∈AY L t:=by
 intro r a l b;have c:=lN.1 h (r++[l]) (by unfold CR;simp only [kz,f7];exact⟨r,a,l,b,rfl⟩)
 simpa using c
theorem TOk.push{L:W->Bool}{ls:List UInt8}{t:Bb}{w:W}(h:TOk L ls t)(p:Bg L ls t=some w):TOk L ls ⟨t.rows++[w],t.cols⟩:=by
 obtain⟨⟨r,n,l,s,rfl⟩,q⟩:=Hn p;have z:0 < t.rows.length:=(am.1 h.r0).1;refine⟨by rw [d9 z];exact h.r0,h.c0,λi w hi o=>?_,λw d=>?_,h.onC,?_,h.ndC⟩
 ·by_cases k:i < t.rows.length
  ·rw [d9 k] at hi
   obtain⟨y,j,x,v⟩:=h.pre i w hi o;exact⟨y,j,x,by rw [d9 (by omega)];exact v⟩
  ·rw [em (by omega)] at hi
   have m:i=t.rows.length:=by
    have:=(am.1 hi).1;simp at this;omega
   subst m;simp at hi;subst hi;obtain⟨j,g,u⟩:=jm n;refine⟨by simp,j,g,?_⟩;rw [d9 g,List.dropLast_concat,d6 g,u]
 ·rcases f6.1 d with d|d
  ·exact h.onR w d
  ·simp at d
   subst d;intro c f
   rcases f6.1 f with f|f
   ·exact h.onR r n c f
   ·simp at f;subst f;exact s
 ·unfold AY
  rw [jW,kI];refine⟨h.nd,by simp,λa ha b hb=>?_⟩;simp at hb;subst hb;intro e;exact q (e ▸ ha)
structure Fin (L:W->Bool) (ls:List UInt8) (n:Nat) where
 st:W->Nat
 lt:∀w,A0 ls w->st w < n
 same:∀u w v,A0 ls u->A0 ls w->A0 ls v->st u=st w->L (u++v)=L (w++v)
theorem Ry:∀(n:Nat) (l:List Nat),l.Nodup->(∀x∈l,x < n)->l.length<=n
 | 0,l,_,h=>by cases l with
  | nil=>simp
  | cons x l=>have:=h x (by simp);omega
 | n + 1,l,c,h=>by
  have d:=Ry n (l.erase n) (c.erase n) λx a=>by
   have g:=h x (List.mem_of_mem_erase a)
   have f:x≠n:=λe=>by subst e;exact(List.Nodup.not_mem_erase c) a
   omega
  by_cases b:n∈l
  ·rw [List.length_erase_of_mem b] at d;omega
  ·rw [List.erase_of_not_mem b] at d;omega
def DB(L:W->Bool)(t:Bb)(w:W):Nat:=(AY L t).idxOf (marks L t.cols w)
def runM(L:W->Bool)(t:Bb):Nat->W->Nat
 | i,[]=>i
 | i,c::w=>runM L t (DB L t ((t.rows.getD i [])++[c])) w
theorem RO(L:W->Bool)(t:Bb):∀(u w:W) (i:Nat),runM L t i (u++w)=runM L t (runM L t i u) w
 | [],_,_=>rfl
 | c::u,w,i=>RO L t u w _
structure BQ (L:W->Bool) (ls:List UInt8) (t:Bb):Prop extends TOk L ls t where
 cl:∀r∈t.rows,∀l∈ls,marks L t.cols (r++[l])∈AY L t
theorem BQ.idx{L:W->Bool}{ls:List UInt8}{t:Bb}(h:BQ L ls t){i:Nat}{r:W}{l:UInt8}(hi:t.rows[i]? = some r)(b:l∈ls):∃r',t.rows[DB L t (r++[l])]? = some r'/\marks L t.cols r'=marks L t.cols (r++[l]):=by
 have e:=h.cl r (co hi) l b;have a:DB L t (r++[l]) < (AY L t).length:=List.idxOf_lt_length_iff.2 e;have d:(AY L t)[DB L t (r++[l])]'a=marks L t.cols (r++[l]):=List.getElem_idxOf a
 have c:DB L t (r++[l]) < t.rows.length:=by simpa [AY] using a
 refine⟨t.rows[DB L t (r++[l])],d6 c,?_⟩;rw [<-d];simp [AY]
theorem BQ.run{L:W->Bool}{ls:List UInt8}{t:Bb}(h:BQ L ls t):∀(w:W) (i:Nat),A0 ls w->i < t.rows.length->runM L t i w < t.rows.length
 | [],_,_,hi=>hi
 | c::w,i,a,hi=>by
  have b:t.rows[i]? = some t.rows[i]:=d6 hi;obtain⟨_,f,_⟩:=h.idx b (a c (by simp))
  have e:t.rows.getD i []=t.rows[i]:=by simp [b]
  show runM L t (DB L t (t.rows.getD i []++[c])) w < _
  rw [e];exact h.run w _ (λx d=>a x (by simp [d])) (am.1 f).1
def splitAt(L:W->Bool)(t:Bb)(b:Bool):Nat->W->Option W
 | _,[]=>none
 | i,c::v=>if L (t.rows.getD (DB L t ((t.rows.getD i [])++[c])) []++v)≠b then some v else splitAt L t b (DB L t ((t.rows.getD i [])++[c])) v
theorem VT(L:W->Bool)(cols:List W)(v w:W):marks L (cols++[v]) w=marks L cols w++[UI (L (w++v))]:=by simp [marks]
theorem BQ.row{L:W->Bool}{ls:List UInt8}{t:Bb}(h:BQ L ls t){i j:Nat}{r s:W}(hi:t.rows[i]? = some r)(g:t.rows[j]? = some s)(k:marks L t.cols r=marks L t.cols s):i=j:=by
 have d:(AY L t)[i]? = some (marks L t.cols r):=by simp [AY,hi]
 have c:(AY L t)[j]? = some (marks L t.cols r):=by simp [AY,g,k]
 have l1:=(am.1 d).1;have l2:=(am.1 c).1;have f:=(am.1 d).2;have e:=(am.1 c).2;have b:=jn.1 h.nd
 rcases lQ i j with a|a|a
 ·exact absurd (f.trans e.symm) (b i j l1 l2 a)
 ·exact a
 ·exact absurd (e.trans f.symm) (b j i l2 l1 a)
structure Split (L:W->Bool) (ls:List UInt8) (t:Bb) (u v:W):Prop where
 suf:∃p,p≠[]/\u=p++v
 new:v∉t.cols
 opens:∃r∈t.rows,∃c∈ls,marks L (t.cols++[v]) (r++[c])∉AY L ⟨t.rows,t.cols++[v]⟩
theorem Sa{L:W->Bool}{ls:List UInt8}{t:Bb}(h:BQ L ls t)(b:Bool):∀(u:W) (i:Nat) (r:W),A0 ls u->t.rows[i]? = some r->L (r++u)=b->L (t.rows.getD (runM L t i u) [])≠b->∃v,splitAt L t b i u=some v/\Split L ls t u v
 | [],i,r,_,hi,hb,z=>by
  have a:t.rows.getD i []=r:=by simp [hi]
  rw [jA] at hb;exact absurd (by show L (t.rows.getD i [])=b;rw [a];exact hb) z
 | c :: v,i,r,A,hi,hb,z=>by
  have F:c∈ls:=A c (by simp)
  have j:t.rows.getD i []=r:=by simp [hi]
  obtain⟨r',a,G⟩:=h.idx hi F
  have g:t.rows.getD (DB L t (r++[c])) []=r':=by simp [a]
  unfold splitAt;rw [j,g];by_cases k:L (r'++v)≠b
  ·rw [if_pos k]
   have n:r++c::v=(r++[c])++v:=by simp
   have f:L ((r++[c])++v)≠L (r'++v):=by rw [<-n,hb];exact λe=>k e.symm
   refine⟨v,rfl,⟨[c],by simp,rfl⟩,λl=>f ((XP.1 G v l).symm),r,co hi,c,F,λl=>?_⟩;unfold AY at l;obtain⟨s,I,B⟩:=f7.1 l;simp only [VT] at B;obtain⟨S,R⟩:=List.append_inj' B rfl;obtain⟨q,J,o⟩:=jm I
   have d:t.rows[q]? = some s:=by rw [d6 J,o]
   have:=h.row d a (S.trans G.symm);subst this;rw [d] at a
   injection a with a
   subst a
   have Q:UI (L (s++v))=UI (L (r++[c]++v)):=by simpa using R
   exact f (UJ Q).symm
  ·rw [if_neg k]
   have m:L (r'++v)=b:=by simpa using k
   have y:L (t.rows.getD (runM L t (DB L t (r++[c])) v) [])≠b:=by
    have:runM L t i (c::v)=runM L t (DB L t (r++[c])) v:=by show runM L t (DB L t (t.rows.getD i []++[c])) v=_;rw [j]
    rwa [this] at z
   obtain⟨w,P,⟨p,T,N⟩,M,K⟩:=Sa h b v _ r' (λx H=>A x (by simp [H])) a m y;exact⟨w,P,⟨c::p,by simp,by rw [N];rfl⟩,M,K⟩
theorem aw{L:W->Bool}{ls:List UInt8}{t:Bb}{r:W}{c:UInt8}(a:r∈t.rows)(d:c∈ls)(b:marks L t.cols (r++[c])∉AY L t):Bg L ls t≠none:=λh=>b (FJ h r a c d)
def Oh(L:W->Bool)(t:Bb)(w:W):Bool:=L (t.rows.getD (runM L t 0 w) [])
def eX(L:W->Bool)(ls:List UInt8)(t:Bb)(w:W):Option Bb:=(splitAt L t (L w) 0 w).bind λv=>BO L ls 13 ⟨t.rows,t.cols++[v]⟩
structure Next (L:W->Bool) (ls:List UInt8) (t:Bb) (w v:W) (t':Bb):Prop where
 split:splitAt L t (L w) 0 w=some v
 close:BO L ls 13 ⟨t.rows,t.cols++[v]⟩=some t'
 next:eX L ls t w=some t'
 ok:BQ L ls t'
 cols:t'.cols=t.cols++[v]
 new:v∉t.cols
 suf:∃p,p≠[]/\w=p++v
 more:t.rows.length < t'.rows.length
 pre:t.rows <+: t'.rows
structure Wr (L:W->Bool) (ls:List UInt8) (wr:Bb->Option W):Prop where
 on:∀t w,wr t=some w->BQ L ls t->A0 ls w/\Oh L t w≠L w
end Go.Am
namespace Go.Am
open Go
variable {P:Program}{TB:BA}{Z:Ctx}{d:Option Tmp}{ty:TypeId}{pos:String}{af:Array Edge}{g:Option (Nat×Bool)}{f:Env}{σ:Ab}{nx:Nat}
variable {K:E->Ab->Nat->Prop}
end Go.Am
