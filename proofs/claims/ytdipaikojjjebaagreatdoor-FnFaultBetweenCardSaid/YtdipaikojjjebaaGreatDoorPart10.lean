/-
  More quiet operations: closures, checks for nil, tables, pieces of slices and strings, text out of bytes.
-/
import Derived.Test.YtdipaikojjjebaaGreatDoorPart9
import Derived.Laws.BytesArg
import Derived.Laws.Slices
import Derived.MapKept
set_option linter.all false
namespace Go.Am
open Go
def ic:List E->Option (List C)
 | []=>some []
 | .o c::l=>(ic l).map (c :: ·)
 | _=>none
theorem Qy:∀ {l:List E} {cs:List C},ic l=some cs->l=cs.map .o
 | [],cs,h=>by injection h with h;subst h;rfl
 | e::l,cs,h=>by
  cases e<;>simp only[ic]at h<;>try cases h
  simp only[d7]at h;obtain⟨ds',a,rfl⟩:=h;simp[Qy a]
class WX (P:Program) (t:TypeId):Prop where
 out:∃e,P.underlying t=some (.pointer e)
class SG (TB:BJ) (b:Nat) (vals:outParam (List Value)):Prop where
 out:(∃(cur:Array Value) (T:TypeId) (fr:_),(b,Obj.cells cur T fr)∈TB/\∀(i:Nat) v,vals[i]?=some v->cur[i]?=some v)/\vals.all Qn=true
section
variable {P:Program}{TB:BJ}{U:Ctx}{d:Option Tmp}{ty:TypeId}{pos:String}{af:Array Edge}{g:Option (Nat×Bool)}{f:Env}{σ:Ac}{nx:Nat}
variable {K:E->Ac->Nat->Prop}
theorem mf{α:Type}{t e:TypeId}{x:Operand}{l:List α}{c:α->List D}{k b:Nat}[h:CE P t e k b](a:ev f x=some (.o (.d (.l (l.map c))))):A5 P TB U ⟨d,.call ⟨.builtin .len,#[x],#[t]⟩,ty,pos,af,g⟩ f σ nx (eI .i64 l.length):=by
 have:=fY (t:=t) (P:=P) (TB:=TB) (U:=U) (d:=d) (ty:=ty) (pos:=pos) (af:=af) (g:=g) (σ:=σ) (nx:=nx) a;rwa[gt]at this
theorem mr{t yt:TypeId}{x y:Operand}{k:IntKind}{m n:Int}(b:ev f x=some (eI k m))(a:ev f y=some (eI k n))(c:0<=m)(e:0<n) :
 A5 P TB U ⟨d,.binOp .rem t x y yt,ty,pos,af,g⟩ f σ nx (eI k (m%n)):=oy b a (by omega) (Int.tmod_eq_emod_of_nonneg c)
theorem mq{t yt:TypeId}{x y:Operand}{m n:Int}(c:ev f x=some (eI .i64 m))(b:ev f y=some (eI .i64 n))(a:0<=m)(h:m<=9223372036854775807)(e:0<n) :
 A5 P TB U ⟨d,.binOp .quo t x y yt,ty,pos,af,g⟩ f σ nx (eI .i64 (m / n)):=ox c b (by omega) (by
  rw[Int.tdiv_eq_ediv_of_nonneg a];have j:0<=m / n:=sx a (by omega);have i:m / n<=m:=s7 _ a
  exact IntWalk.i64_in _ (by omega))
def notNil:Operand->Bool
 | .const (.slice none 0 0)=>false
 | _=>true
theorem pM{gg:FuncId}{caps:Array Operand}{es:List E}{cs:List C}(a:KS f caps.toList=some es)(h:ic es=some cs):A5 P TB U ⟨d,.makeFunc (.func gg) #[] caps,ty,pos,af,g⟩ f σ nx (.o (.fn gg cs)):=
 AQ λV ρ p _=>by
  refine⟨.func (.func gg) #[] (caps.map ρ),by simp[execOp,Instr.makeFunc,go_sem],AP.fn ?_ λj c v l k=>?_⟩
  ·have b:=C5 a
   have n:=congrArg List.length (Qy h);simp at b n |-;omega
  ·have b:=Jj (f:=f) (V:=V) (ρ:=ρ) (λy i e m=>p.get (by simp[Op.operands];simpa using i) m) a j (.o c) v (by rw[Qy h];simp[l]) (by rw[<-t7];simpa using k)
   exact b
theorem jI{x:Operand}{cs:List D}(b:ev f x=some (.o (.ip cs))):A5 P TB U ⟨d,.nilCheck x,ty,pos,af,g⟩ f σ nx (.o (.ip cs)):=
 AQ λV ρ e _=>by
  have a:=e.get (by simp[Op.operands]) b;generalize c:ρ x=v at a;refine⟨v,?_,a⟩;obtain⟨a⟩:=a;cases a;simp[execOp,c,go_sem]
theorem ml{x:Operand}{id k i j:Nat}(b:ev f x=some (.o (.ptr id k i j))):A5 P TB U ⟨d,.nilCheck x,ty,pos,af,g⟩ f σ nx (.o (.ptr id k i j)):=
 AQ λV ρ e _=>by
  have a:=e.get (by simp[Op.operands]) b;generalize c:ρ x=v at a;refine⟨v,?_,a⟩;cases a;simp[execOp,c,go_sem]
theorem jH{x:Operand}{gg:FuncId}{cs:List C}(b:ev f x=some (.o (.fn gg cs))):A5 P TB U ⟨d,.nilCheck x,ty,pos,af,g⟩ f σ nx (.o (.fn gg cs)):=
 AQ λV ρ e _=>by
  have a:=e.get (by simp[Op.operands]) b;generalize c:ρ x=v at a;refine⟨v,?_,a⟩;obtain⟨vs,rfl,_⟩:=Px a;simp[execOp,c,go_sem]
theorem VW{t e:TypeId}{a:Option Addr}(b:P.underlying t=some (.pointer e))(w:World):(Op.equal t (.pointer a) (.pointer none)).run P w=.ok a.isNone w:=by
 unfold Op.equal Op.maxDepth;rw[show 10000=9999+1 from rfl,Op.equalIn];cases a<;>simp[run_underlying b,go_sem]
theorem cC{t yt:TypeId}{x y:Operand}{cs:List D}[hp:WX P t](j:ev f x=some (.o (.ip cs)))(i:ev f y=some (.o (.d (.v (.pointer none))))):A5 P TB U ⟨d,.binOp .eql t x y yt,ty,pos,af,g⟩ f σ nx (eB false):=
 AQ λV ρ h _=>by
  have c:=h.get (by simp[Op.operands]) j;have r:ρ y=.pointer none:=AP.val (h.get (by simp[Op.operands]) i);generalize k:ρ x=v at c;obtain⟨c⟩:=c;obtain⟨e,l⟩:=hp.out;cases c;rename_i b o vs hb u s;refine⟨.bool false,?_,.d (.v rfl)⟩;have q:binOp .eql t (.pointer (some ⟨b,o,none⟩)) (.pointer none)=(do pure (.bool (<-Op.equal t (.pointer (some ⟨b,o,none⟩)) (.pointer none)))):=rfl;have p:eqGuard .eql t x y (.pointer (some ⟨b,o,none⟩)) (.pointer none)=pure ():=rfl;have n:=VW (a:=some ⟨b,o,none⟩) l V.w;have m:execOp ρ ⟨d,.binOp .eql t x y yt,ty,pos,af,g⟩=(do let v <-(do eqGuard .eql t x y (ρ x) (ρ y);binOp .eql t (ρ x) (ρ y));pure (.value v)):=rfl;rw[m,k,r,q,p];simp[n,go_sem]
theorem Yt{t yt:TypeId}{x y:Operand}[hp:WX P t](c:ev f x=some (.o (.d (.v (.pointer none)))))(b:ev f y=some (.o (.d (.v (.pointer none))))):A5 P TB U ⟨d,.binOp .eql t x y yt,ty,pos,af,g⟩ f σ nx (eB true):=
 BP c b rfl λw=>by
  obtain⟨e,h⟩:=hp.out;have k:binOp .eql t (.pointer none) (.pointer none)=(do pure (.bool (<-Op.equal t (.pointer none) (.pointer none)))):=rfl;have j:eqGuard .eql t x y (.pointer none) (.pointer none)=pure ():=rfl;have i:=VW (a:=none) h w;rw[k,j];simp[i,go_sem]
theorem fT{t:TypeId}{b:Nat}{y:Operand}{vals:List Value}{v:Value}{n:Int}{len:Nat}{ik:IntKind}[B:RJ P t len 1][ht:SG TB b vals](q:ev f y=some (eI ik n))
 (K:0<=n) (z:n<len) (k:vals[n.toNat]?=some v):A5 P TB U ⟨d,.indexAddr t (.global b) y,ty,pos,af,g⟩ f σ nx (.o (.ip [.v v])):=by
 intro V a J p I;have m:a.eval y=.int ik n:=AP.val (J.HR.get (by simp[Op.operands]) q);have l:a.eval (.global b)=.pointer (some ⟨b,0,none⟩):=rfl;obtain⟨e,i,r,hi,s⟩:=Xf B.out;obtain⟨⟨cur,T,fr,A,F⟩,h⟩:=ht.out;obtain⟨H,G⟩:=p.tabs _ A;unfold Oper.wp;generalize a.eval=ρ at m l |-
 have u:(execOp ρ ⟨d,.indexAddr t (.global b) y,ty,pos,af,g⟩).run P V.w=.ok (.value (.pointer (some ⟨b,n.toNat,none⟩))) V.w:=by
  simp[execOp,m,l,Instr.indexAt,asIntOf,run_underlying r,Instr.sureAddr,K,z,sizeOf,typeInfo,hi,s,BO,go_sem]
 rw[u];refine⟨V,_,rfl,rfl,Ext.refl V,p,I,AP.ip (vs:=λ_=>v) H (λj x c=>?_) (λj x c=>?_)⟩
 ·match j with
  | 0=>simp only[World.cell?,G];simpa using F _ _ k
  | j+1=>simp at c
 ·match j with
  | 0=>simp at c;subst c;exact .v (ge.1 h v (co k))
  | j+1=>simp at c
def nr(c:UInt8):List D:=[.v (.int .u8 c.toNat)]
def Jf(c:UInt8):List C:=[.d (.v (.int .u8 c.toNat))]
class YZ (P:Program) (t:TypeId):Prop where
 out:∃e,P.underlying t=some (.slice e)/\P.underlying e=some (.int .u8)
theorem Lx{src dst:TypeId}(a:YZ P src)(b:Dx P dst)(w:World):(convert src dst (.slice none 0 0)).run P w=.ok (.string ⟨#[]⟩) w:=by
 obtain⟨e,d,c⟩:=a.out;exact run_convert_bytes_nil w src e d c 0 0 dst b.out
theorem TT{src dst:TypeId}{x:Operand}{rows:List (List D)}(bs:List UInt8)[q:YZ P src][s:Dx P dst](z:ev f x=some (.o (.d (.l rows))))(n:rows=bs.map nr) :
 A5 P TB U ⟨d,.convert src dst x,ty,pos,af,g⟩ f σ nx (.o (.d (.v (.string ⟨bs.toArray⟩)))):=
 AQ λV ρ K _=>by
  have p:=K.get (by simp[Op.operands]) z;generalize A:ρ x=v at p;refine⟨.string ⟨bs.toArray⟩,?_,.d (.v rfl)⟩;have F:execOp ρ ⟨d,.convert src dst x,ty,pos,af,g⟩=(do let v <-convert src dst (ρ x);pure (.value v)):=rfl;rw[F,A];obtain⟨p⟩:=p
  cases p with
  | nil=>
   have:bs=[]:=by simpa using n.symm
   subst this;simp[Lx q s,go_sem]
  | @e a cap J=>
   have:bs=[]:=by simpa using n.symm
   subst this;obtain⟨e,t,i⟩:=q.out
   have h:=run_convert_bytes_back (P:=P) V.w src dst e a cap [] t i s.out λj r=>by simp at r
   have h:(convert src dst (.slice (some a) 0 cap)).run P V.w=_:=h;simp[h,go_sem]
  | @l _ b o k cap vs hb J L I H G=>
   obtain⟨e,t,i⟩:=q.out
   have B:rows.length=bs.length:=by rw[n];simp
   have h:=run_convert_bytes_back (P:=P) V.w src dst e ⟨b,o,none⟩ cap bs t i s.out λj r=>by
    have c:rows[j]?=some (nr bs[j]):=by rw[n];simp[r]
    have m:=H j _ 0 _ c rfl;have y:=G j _ 0 _ c rfl;have hk:k=1:=(I j _ c).symm;subst hk;rw[BO];have u:vs j 0=.int .u8 (bs[j].toNat:Int):=y.val;rw[u]at m
    simpa using m
   rw[B];simp[h,go_sem]
theorem ZX{src dst:TypeId}{x:Operand}{id off len:Nat}{T:TypeId}{rows:List (List C)}(bs:List UInt8)[r:YZ P src][y:Dx P dst](z:ev f x=some (.o (.arr id 1 off len)))(B:look σ id=some (.cells T 1 rows))
 (F:off+len<=rows.length) (s:(rows.drop off).take len=bs.map Jf):A5 P TB U ⟨d,.convert src dst x,ty,pos,af,g⟩ f σ nx (.o (.d (.v (.string ⟨bs.toArray⟩)))):=
 AQ λV ρ K hi=>by
  have i:=K.get (by simp[Op.operands]) z;generalize A:ρ x=v at i;refine⟨.string ⟨bs.toArray⟩,?_,.d (.v rfl)⟩;have G:execOp ρ ⟨d,.convert src dst x,ty,pos,af,g⟩=(do let v <-convert src dst (ρ x);pure (.value v)):=rfl;rw[G,A]
  have b:bs.length=len:=by
   have:=congrArg List.length s;simp at this;omega
  have i:AP V (.arr id 1 off len) v:=i
  cases i with
  | nil I H=>
   have:bs=[]:=pp.1 b;subst this;simp[Lx r y,go_sem]
  | arr I k H=>
   rcases hi.st.obj id _ B with ⟨l,_⟩|⟨_,cur,l,N,M,L,J,q⟩
   ·exact absurd l k
   ·obtain⟨e,p,n⟩:=r.out
    subst b
    have m:=run_convert_bytes_back (P:=P) V.w src dst e ⟨V.ρ id,off*1,none⟩ (V.cap id-off) bs p n y.out λj t=>by
     have h:rows[off+j]?=some (Jf bs[j]):=by
      have a:((rows.drop off).take bs.length)[j]?=some (Jf bs[j]):=by rw[s];simp[t]
      rw[rh,if_pos t,rm]at a;exact a
     obtain⟨u,a,c⟩:=q _ _ 0 _ h rfl;have c:=c.val;subst c;rw[BO]
     simpa[World.cell?,l]using a
    rw[pu,m];rfl
end
inductive dy (e:D):D->Prop
 | refl:dy e e
 | l {rows:List (List D)} {i j:Nat} {r:List D} {x:D}:rows[i]?=some r->r[j]?=some x->dy e x->dy e (.l rows)
 | p {cs:List D} {j:Nat} {x:D}:cs[j]?=some x->dy e x->dy e (.p cs)
theorem dy.len{I:Nat->Prop}{w:World}{rows:List (List D)}{d:D}(h:dy (.l rows) d):∀ {v:Value},C9 I w d v->rows.length<=maxLen:=by
 induction h with
 | refl=>
  intro v h
  cases h with
  | nil=>simp
  | e=>simp
  | l _ i f=>omega
 | l c b _ a=>
  intro v h
  cases h with
  | nil=>simp at c
  | e=>simp at c
  | l _ _ _ _ _ g=>exact a (g _ _ _ _ c b)
 | p b _ a=>
  intro v h
  cases h with
  | p _ _ f=>exact a (f _ _ b)
def pj(d:D):E->Prop
 | .o (.d x)=>dy d x
 | .a cs=>∃(j:Nat) (x:D),cs[j]?=some (.d x)/\dy d x
 | _=>False
theorem pj.len{V:View}{rows:List (List D)}{e:E}{v:Value}(h:pj (.l rows) e)(b:Bu V e v):rows.length<=maxLen:=by
 cases e with
 | o c=>
  cases c with
  | d x=>cases b with|d b=>exact dy.len h b
  | _=>exact h.elim
 | a cs=>
  obtain⟨j,x,g,i⟩:=h;obtain⟨vs,_,n,m⟩:=b
  have f:j<vs.size:=by rw[n];exact(am.1 g).1
  cases m j _ _ g (qU f) with
  | d k=>exact dy.len i k
 | t=>exact h.elim
 | e=>exact h.elim
theorem Aj.bound{P:Program}{TB:BJ}{U:Ctx}{N:Nat}{c:Code}{Q:Exit->Env->Ac->Nat->Prop}{f:Env}{σ:Ac}{nx:Nat}(t:Nat){e:E}(ht:f t=some e)
 (h:(∀rows,pj (.l rows) e->rows.length<=9223372036854775807)->Aj P TB U N c Q f σ nx):Aj P TB U N c Q f σ nx:=by
 intro V a b;exact h (λrows hi=>hi.len (b.env t e ht)) V a b
section
variable {P:Program}{TB:BJ}{U:Ctx}{ops:Array Oper}{fl:Fl}{i n:Nat}{L:List (Nat×E)}{σ:Ac}{nx:Nat}{K:Env->Ac->Nat->Prop}{d:Option Tmp}{ty:TypeId}{pos:String}{af:Array Edge}{g:Option (Nat×Bool)}
theorem nL(id k:Nat)(o:O)(r:Ac):kill id ((k,o)::r)=if k=id then kill id r else (k,o)::kill id r:=by
 simp only[kill];by_cases h:k=id
 ·subst h;simp
 ·have:Nat.beq k id=false:=by
   cases hb:Nat.beq k id
   ·rfl
   ·exact absurd (i9 hb) h
  rw[this,cond_false,if_neg h]
end
end Go.Am
namespace Go.Am
theorem cX:((∀r f,DU r f []=True)/\(∀r f t e L,DU r f ((t,e)::L)=(f t=some (e.Bj r)/\DU r f L))/\(∀r σ,A7 r σ []=True)/\(∀r σ id o L,A7 r σ ((id,o)::L)=(look σ (r id)=some (o.Bj r)/\A7 r σ L)))/\
 ((∀(α:Type) (k:Nat) (x:α) (r:List (Nat×α)) (i:Nat),look ((k,x)::r) i=if k=i then some x else look r i)/\(∀l nx i,nm l nx i=match l[i]? with|some j=>j|none=>nx+i)/\(∀l nx i,ML l nx i=match l[i]? with|some j=>j|none=>nx+(i-l.length)))/\
 ((∀r c,E.Bj r (.o c)=.o (C.Bj r c))/\(∀r cs,E.Bj r (.a cs)=.a (C.Cp r cs))/\(∀r xs,E.Bj r (.t xs)=.t (xs.map λx=>(x.1,C.Cp r x.2)))/\(∀r,E.Bj r .e=.e))/\
 ((∀r x,C.Bj r (.d x)=.d x)/\(∀r id k off len,C.Bj r (.arr id k off len)=.arr (r id) k off len)/\(∀r id k i j,C.Bj r (.ptr id k i j)=.ptr (r id) k i j)/\(∀r f cap,C.Bj r (.fn f cap)=.fn f (C.Cp r cap))/\(∀r id,C.Bj r (.mp id)=.mp (r id))/\(∀r f l,C.Bj r (.mv f l)=.mv f (C.Cp r l))/\(∀r,C.Cp r []=[])/\(∀r c l,C.Cp r (c::l)=C.Bj r c::C.Cp r l))/\
 ((∀r T k rows,O.Bj r (.cells T k rows)=.cells T k (rows.map (C.Cp r)))/\(∀r es,O.Bj r (.mp es)=.mp es)/\(∀r T l,O.Bj r (.sld T l)=.sld T l)/\(∀r,Ac.Bj r []=[])/\(∀r i o σ,Ac.Bj r ((i,o)::σ)=(r i,o.Bj r)::Ac.Bj r σ))/\
 ((∀id,kill id []=[])/\(∀id k o r,kill id ((k,o)::r)=if k=id then kill id r else (k,o)::kill id r)/\(∀σ,CS [] σ=σ)/\(∀id r σ,CS (id::r) σ=CS r (kill id σ)))/\
 ((∀z,BM [] z=z)/\(∀off cs r z,BM ((off,cs)::r) z=BM r (Ae z off cs))/\(∀r j cs,Ae r j cs=r.take j++cs++r.drop (j+cs.length))/\(∀c,eC (.o c)=[c])/\(∀cs,eC (.a cs)=cs)/\(∀xs,eC (.t xs)=[])/\eC .e=[.d (.l [])])/\
 (∀k,Cw k []=[])/\(∀k e l,Cw k (e::l)=(k,e)::Cw (k+1) l)/\∀(α β δ:Type) (f:β->δ) (g:α->β),f∘g=λx=>f (g x):=by
 refine⟨⟨λ_ _=>rfl,λ_ _ _ _ _=>rfl,λ_ _=>rfl,λ_ _ _ _ _=>rfl⟩,⟨λ_=>AG,λ_ _ _=>rfl,λ_ _ _=>rfl⟩,⟨λ_ _=>rfl,λ_ _=>rfl,λ_ _=>rfl,λ_=>rfl⟩,⟨λ_ _=>by simp[C.Bj],λ_ _ _ _ _=>by simp[C.Bj],λ_ _ _ _ _=>by simp[C.Bj],λ_ _ _=>by simp[C.Bj],λ_ _=>by simp[C.Bj],λ_ _ _=>by simp[C.Bj],λ_=>by simp[C.Cp],λ_ _ _=>by simp[C.Cp]⟩,⟨λ_ _ _ _=>rfl,λ_ _=>rfl,λ_ _ _=>rfl,λ_=>rfl,λ_ _ _ _=>rfl⟩,⟨λ_=>rfl,λ_ _ _ _=>nL _ _ _ _,λ_=>rfl,λ_ _ _=>rfl⟩,⟨λ_=>rfl,λ_ _ _ _=>rfl,λ_ _ _=>rfl,λ_=>rfl,λ_=>rfl,λ_=>rfl,rfl⟩,λ_=>rfl,λ_ _ _=>rfl,λ_ _ _ _ _=>rfl⟩
def pe:List Nat->Bool
 | []=>true
 | x::r=>!(r.any (Nat.beq x)) && pe r
theorem ft:∀ {l:List Nat},pe l=true->l.Nodup
 | [],_=>ol
 | x::r,h=>by
  simp only[pe,d4,sW,List.any_eq_false]at h;exact tj.2 ⟨λa=>h.1 x a (uH x),ft h.2⟩
def pI(l:List Nat)(m:Nat):Bool:=(List.range m).all (λi=>l[i]? == some i) && pe l
theorem cA{α:Type}{a:α}{l m:List α}:a::l++m=a::(l++m):=rfl
theorem cB{α:Type}{m:List α}:[]++m=m:=rfl
theorem rl{l:List Nat}{m k:Nat}(h:k=m)(a:pI l m=true):(∀i,i<k->l[i]?=some i)/\l.Nodup:=by
 subst h;unfold pI at a;rw[d4,ge]at a;exact⟨λi hi=>by simpa using a.1 i (pi.2 hi),ft a.2⟩
theorem Fw{l:List Nat}{m k n:Nat}(h:k=m)(a:pI l m=true)(b:l.length=n):(∀i,i<k->l[i]?=some i)/\l.Nodup/\l.length=n:=⟨(rl h a).1,(rl h a).2,b⟩
theorem rg{m k n:Nat}(h:k=m)(a:Nat.ble m n=true):(∀i,i<k->(List.range n)[i]?=some i)/\(List.range n).Nodup/\(List.range n).length=n:=by
 subst h;have:=ce a;exact⟨λi hi=>tL (by omega),List.nodup_range,ut⟩
def Tt(V:View)(m:Nat):View:={ V with nx:=m }
theorem jg{V:View}{m:Nat}(h:m<=V.nx):Ext (Tt V m) V:=⟨λ_ h=>h,λ_ _=>rfl,lc _,λ_ _=>rfl,λ_ _=>rfl,λ_ _=>Iff.rfl,h⟩
theorem hX{V V1:View}{l:List Nat}{m:Nat}(d:m<=l.length)(e:Ext (Tt (V.Bj (nm l V.nx) l.length) m) V1):Ext (V.Bj (nm (l.take m) V.nx) (l.take m).length) V1:=by
 have c:(l.take m).length=m:=by rw[sL];exact Nat.min_eq_left d
 have b:∀id,id<m->nm (l.take m) V.nx id=nm l V.nx id:=λid a=>by
  unfold nm;rw[rh,if_pos a]
 refine⟨e.i,e.heap,e.size,λid a=>?_,λid a=>?_,λid a=>?_,by show (l.take m).length<=_;rw[c];exact e.nx⟩
 ·have a:id<m:=by have:id<(l.take m).length:=a;omega
  show _=V.ρ (nm (l.take m) V.nx id)
  rw[b id a];exact e.ρ id a
 ·have a:id<m:=by have:id<(l.take m).length:=a;omega
  show _=V.cap (nm (l.take m) V.nx id)
  rw[b id a];exact e.cap id a
 ·have a:id<m:=by have:id<(l.take m).length:=a;omega
  show _↔V.nl (nm (l.take m) V.nx id)
  rw[b id a];exact e.nl id a
section
variable (P:Program)(TB:BJ)
def Bd(g:FuncId)(m:Nat)(σ:Ac)(nx:Nat)(args:List E)(post:E->Ac->Nat->Prop):Prop:=
 kP P g/\∀V vs S,Good TB V σ nx S->QS V args vs->Calls P g vs V.w λe w'=>∃V' v x σ',e=.returned v/\V'.w=w'/\Inv TB (HQ V (Tt V m) σ S) V' σ'/\Bu V' x v/\post x σ' V'.nx
end
section
variable {P:Program}{TB:BJ}{U:Ctx}{d:Option Tmp}{ty:TypeId}{pos:String}{af:Array Edge}{g:Option (Nat×Bool)}{f:Env}{σ:Ac}{nx:Nat}{N:Nat}
variable {K:E->Ac->Nat->Prop}
theorem aY{V V1:View}{l:List Nat}{m:Nat}{x z:Ac}(h:Inv TB U V σ)(hl:∀i∈l,i<V.nx)(hS:A7 (nm l V.nx) σ x)(hm:m<=l.length)
 {S:Xb} (L:QT TB V σ S) (hSJ:∀b,S.J b->U.J b\/U.V.w.heap.size<=b\/U.F b) (H:∀b,S.B b->U.V.w.heap.size<=b\/U.F b)
 (u:Inv TB (HQ (V.Bj (nm l V.nx) l.length) (Tt (V.Bj (nm l V.nx) l.length) m) x S) V1 z) :
 Inv TB U (HL V V1 (l.take m)) (z.Bj (ML (l.take m) V.nx)++CS l σ)/\Ext V (HL V V1 (l.take m))/\W0 V1 (HL V V1 (l.take m)) (ML (l.take m) V.nx):=by
 have hx:=hX hm u.ext;have hp:=KL (l:=l.take m) (λi hi=>hl i (q7 hi)) hx;have hlen:(l.take m).length<=V1.nx:=hx.nx;have hsz:V.w.heap.size<=V1.w.heap.size:=u.ext.size
 have A:∀b,EF (V.Bj (nm l V.nx) l.length) x b->∃i o,i∈l/\look σ i=some o/\¬V.nl i/\FR V i o b:=by
  rintro b ⟨j,o,hj,Q,hb⟩;have a:=hS.get j o hj;have g:=VE (h.st.lt _ _ a);have d:=IL (nx:=V.nx) g;refine⟨l[j],o.Bj _,rF g,by rw[<-d];exact a,?_,?_⟩
  ·have:¬V.nl (nm l V.nx j):=Q
   rwa[d]at this
  ·have c:=C4.1 hb
   rwa[d]at c
 have G:∀b,EF (V.Bj (nm l V.nx) l.length) x b->b<V.w.heap.size/\¬V.I b/\(U.V.w.heap.size<=b\/U.F b):=by
  intro b hb;obtain⟨i,o,_,g,d,c⟩:=A b hb;exact⟨(h.st.obj i o g).blt d c,h.st.free i o g d b c,h.live i o g d b c⟩
 have t:∀i o,i∉l->look σ i=some o->¬V.nl i->∀b,FR V i o b->¬EF (V.Bj (nm l V.nx) l.length) x b:=by
  intro i o hi s Q b hb T;obtain⟨j,o',g,d,c,h6⟩:=A _ T;exact h.st.inj j i o' o d s (λe=>hi (e▸g)) c Q b h6 hb
 have N:∀b,b<V.w.heap.size->¬EF (V.Bj (nm l V.nx) l.length) x b->¬S.B b->V1.w.heap[b]?=V.w.heap[b]?:=λb hb T hB=>u.old b hb λh=>h.elim T hB
 have e:Ext V (HL V V1 (l.take m)):=by
  refine⟨λb hb=>u.ext.i b hb,λb hb=>u.ext.heap b hb,hsz,λi hi=>?_,λi hi=>?_,λi hi=>?_,Nat.le_add_right _ _⟩
  ·show (if _ then _ else _)=_;rw[if_pos hi]
  ·show (if _ then _ else _)=_;rw[if_pos hi]
  ·show (if _ then _ else _)↔_;rw[if_pos hi]
 have f:∀i o,look (z.Bj (ML (l.take m) V.nx)++CS l σ) i=some o->(∃j p,j<V1.nx/\ML (l.take m) V.nx j=i/\look z j=some p/\o=p.Bj (ML (l.take m) V.nx))\/(i∉l/\i<V.nx/\look σ i=some o):=by
  intro i o s
  rcases Jz s with a|a
  ·obtain⟨j,p,g,d,c⟩:=PO a
   exact .inl ⟨j,p,u.st.lt j p d,g,d,c⟩
  ·obtain⟨g,d⟩:=Bs l σ i o a
   exact .inr ⟨g,h.st.lt i o d,d⟩
 have n:∀i,i<V.nx->((HL V V1 (l.take m)).nl i↔V.nl i):=λi hi=>e.nl i hi
 have P:∀j p,look z j=some p->¬V1.nl j->∀i o,i∉l->look σ i=some o->¬V.nl i->∀b,FR V1 j p b->¬FR V i o b:=by
  intro j p hj hnj i o hi s R b hb q
  rcases u.live j p hj hnj b hb with a|a
  ·have:=(h.st.obj i o s).blt R q
   have a:V.w.heap.size<=b:=a;omega
  ·rcases a with a|a
   ·exact t i o hi s R b q a
   ·exact L.ap b ⟨i,o,s,R,q⟩ a
 refine⟨⟨u.os.trans h.os,u.tape.trans h.tape,u.output.trans h.output,?_,u.iLt,?_,h.ext.trans e,⟨?_,?_,?_,?_⟩,?_,u.tabs,?_⟩,e,hp⟩
 ·intro b hb T
  have:¬EF (V.Bj (nm l V.nx) l.length) x b:=λq=>by
   rcases(G b q).2.2 with a|a
   ·omega
   ·exact T a
  exact(N b (qV hb h.ext.size) this λhx=>(H b hx).elim (λh=>by omega) T).trans (h.old b hb T)
 ·intro b hb
  rcases u.iNew b hb with a|a|a
  ·exact h.iNew b a
  ·exact .inr (.inl (pm h.ext.size a))
  ·exact .inr (a.elim (λa=>(G b a).2.2) (H b))
 ·intro i o s
  rcases f i o s with ⟨j,p,a,rfl,d,rfl⟩|⟨a,g,d⟩
  ·exact(u.st.obj j p d).push hp a
  ·exact(h.st.obj i o d).A0 e g λv b hb=>N _ ((h.st.obj i o d).blt v hb) (t i o a d v b hb) (L.ap b ⟨i,o,d,v,hb⟩)
 ·intro i o s
  rcases f i o s with ⟨j,p,a,rfl,d,rfl⟩|⟨a,g,d⟩
  ·exact hp.lt j a
  ·exact qV g e.nx
 ·intro i o s v b hb hI
  rcases f i o s with ⟨j,p,a,rfl,d,rfl⟩|⟨a,g,d⟩
  ·exact u.st.free j p d (λh=>v ((hp.nl j a).2 h)) b ((CI hp a).1 hb) hI
  ·have k:¬V.nl i:=λh=>v ((n i g).2 h)
   have hb:=(AR e g).1 hb
   rcases u.iNew _ hI with c|c|c
   ·exact h.st.free i o d k b hb c
   ·have:=(h.st.obj i o d).blt k hb
    have c:V.w.heap.size<=b:=c;omega
   ·rcases c with c|c
    ·exact t i o a d k b hb c
    ·exact L.ap b ⟨i,o,d,k,hb⟩ c
 ·intro i i' o o' s ho' Y v k b hb q
  rcases f i o s with ⟨j,p,a,rfl,d,rfl⟩|⟨a,g,d⟩<;>rcases f i' o' ho' with ⟨j',X,y,rfl,K,rfl⟩|⟨y,M,K⟩
  ·exact u.st.inj j j' p X d K (λe=>Y (by rw[e])) (λh=>v ((hp.nl j a).2 h)) (λh=>k ((hp.nl j' y).2 h)) b ((CI hp a).1 hb) ((CI hp y).1 q)
  ·exact P j p d (λh=>v ((hp.nl j a).2 h)) i' o' y K (λh=>k ((n i' M).2 h)) b ((CI hp a).1 hb) ((AR e M).1 q)
  ·exact P j' X K (λh=>k ((hp.nl j' y).2 h)) i o a d (λh=>v ((n i g).2 h)) b ((CI hp y).1 q) ((AR e g).1 hb)
  ·exact h.st.inj i i' o o' d K Y (λh=>v ((n i g).2 h)) (λh=>k ((n i' M).2 h)) b ((AR e g).1 hb) ((AR e M).1 q)
 ·intro i o s v b hb
  rcases f i o s with ⟨j,p,a,rfl,d,rfl⟩|⟨a,g,d⟩
  ·rcases u.live j p d (λh=>v ((hp.nl j a).2 h)) b ((CI hp a).1 hb) with c|c
   ·exact .inl (pm h.ext.size c)
   ·exact c.elim (λc=>(G _ c).2.2) (H b)
  ·exact h.live i o d (λh=>v ((n i g).2 h)) b ((AR e g).1 hb)
 ·obtain⟨S1,Z,k2,k3⟩:=u.hid
  refine⟨S1,⟨Z.r,Z.ji,Z.bi,λb ⟨i,o,s,v,hb⟩ hB=>?_⟩,λb hb=>?_,λb hb=>?_⟩
  ·rcases f i o s with ⟨j,p,a,rfl,d,rfl⟩|⟨a,g,d⟩
   ·exact Z.ap b ⟨j,p,d,λh=>v ((hp.nl j a).2 h),(CI hp a).1 hb⟩ hB
   ·have k:¬V.nl i:=λh=>v ((n i g).2 h)
    have hb:=(AR e g).1 hb
    rcases k3 b hB with c|c|c
    ·have:=(h.st.obj i o d).blt k hb
     have c:V.w.heap.size<=b:=c;omega
    ·exact t i o a d k b hb c
    ·exact L.ap b ⟨i,o,d,k,hb⟩ c
  ·rcases k2 b hb with c|c|c|c
   ·exact hSJ b c
   ·exact .inr (.inl (pm h.ext.size c))
   ·exact .inr (G _ c).2.2
   ·exact .inr (H b c)
  ·rcases k3 b hb with c|c|c
   ·exact .inl (pm h.ext.size c)
   ·exact(G _ c).2.2
   ·exact H b c
theorem BY{x:Operand}{args:Array Operand}{tys:Array TypeId}{gg:FuncId}{cap:List C}{es M:List E}{t:Ac}{n0:Nat}{post:E->Ac->Nat->Prop}(l:List Nat)(hx:ev f x=some (.o (.fn gg cap)))(T:KS f args.toList=some es)
 (m:Nat) (hs:Bd P TB gg m t n0 M post) (hm:m<=n0) (hl:l.length=n0/\l.Nodup/\∀i∈l,i<nx) (ha:es++cap.map .o=Hd (nm l nx) M) (L:A7 (nm l nx) σ t)
 (hK:∀x0 s B,post x0 s B->m<=B->K (x0.Bj (ML (l.take m) nx)) (s.Bj (ML (l.take m) nx)++CS l σ) (nx+(B-m))) :
 Ck P TB U ⟨d,.call ⟨.value x,args,tys⟩,ty,pos,af,g⟩ f σ nx K:=by
 obtain⟨hl0,hn,u⟩:=hl;subst hl0;intro V a Z A Y;subst Y;have Z:=Z.HR;unfold Oper.wp;generalize a.eval=ρ at Z |-;obtain⟨vs,w,z⟩:=Px (Z.get (x:=x) (by simp[Op.operands,Call.operands]) hx);rw[Lw hs.1 w];have X:=C5 T
 have h:QS V (es++cap.map .o) (args.map ρ++vs):=by
  refine⟨by simp[z.1,X],λj e v H w=>?_⟩
  have F:(args.map ρ).size=es.length:=by simp[X]
  by_cases u:j<es.length
  ·rw[f9 u]at H
   rw[ru (by rw[F];exact u)]at w;exact Jj (λy hy e he=>Z.get (by simp[Op.operands,Call.operands];right;simpa using hy) he) T j e v H (by rw[<-t7];simpa using w)
  ·rw[io (by omega)]at H
   rw[sG (by rw[F];omega),F]at w;simp only[f6,d7]at H;obtain⟨c,hc,rfl⟩:=H;exact z.2 _ c v hc w
 have hr:∀id,nm l V.nx id<V.nx->id<l.length:=λid=>VE
 have J:QS (V.Bj (nm l V.nx) l.length) M (args.map ρ++vs):=by
  rw[ha]at h;refine⟨by rw[h.1,IT],λj e v H w=>?_⟩;exact(h.2 j (e.Bj (nm l V.nx)) v (by rw[Nv,H];rfl) w).Bj hr
 have n:∀id o,look t id=some o->id<l.length:=λid o q=>hr id (A.st.lt _ _ (L.get id o q));obtain⟨S,p,hSJ,hSB⟩:=A.hid
 have I:Good TB (V.Bj (nm l V.nx) l.length) t l.length S:=by
  refine⟨A.iLt,⟨λid o q=>C3.Bj hr (A.st.obj _ _ (L.get id o q)),n,λid o q k b hb=>A.st.free _ _ (L.get id o q) k b (C4.1 hb),?_⟩,A.tabs,rfl,⟨p.r,p.ji,p.bi,λb ⟨id,o,q,k,hb⟩=>p.ap b ⟨_,_,L.get id o q,k,C4.1 hb⟩⟩⟩;intro id id' o o' q N hne k Q b hb hb';refine A.st.inj _ _ _ _ (L.get id o q) (L.get id' o' N) ?_ k Q b (C4.1 hb) (C4.1 hb');have Y:=n id o q;have h4:=n id' o' N;rw[IL Y,IL h4];intro he;have hp:=q8.1 hn
  rcases ug hne with h5|h5
  ·exact hp _ _ Y h4 h5 he
  ·exact hp _ _ h4 Y h5 he.symm
 refine(hs.2 _ _ S I J).mono ?_;rintro e w' ⟨V1,v,x1,s,rfl,rfl,R,hx1,G⟩;obtain⟨hi',he',hp'⟩:=aY A u L hm p hSJ hSB R
 have hlm:(l.take m).length=m:=by rw[sL];exact Nat.min_eq_left hm
 have hnx:(HL V V1 (l.take m)).nx=V.nx+(V1.nx-m):=by show V.nx+(V1.nx-(l.take m).length)=_;rw[hlm]
 have hk:=hK x1 s V1.nx G R.ext.nx;rw[<-hnx]at hk;exact⟨HL V V1 (l.take m),v,x1.Bj (ML (l.take m) V.nx),_,rfl,rfl,he',hi',hx1.push hp',hk⟩
end
section
variable {P:Program}{TB:BJ}{U:Ctx}{d:Option Tmp}{ty:TypeId}{pos:String}{af:Array Edge}{g:Option (Nat×Bool)}{f:Env}{σ:Ac}{nx:Nat}
variable {K:E->Ac->Nat->Prop}
def dQ(f:Env):Option Operand->Option (Option (IntKind×Int))
 | none=>some none
 | some x=>match ev f x with
  | some (.o (.d (.v (.int k m))))=>some (some (k,m))
  | _=>none
theorem OG{o:Oper}{V:View}{ρ:Operand->Value}(e:NL V o f ρ){x:Option Operand}{b:Option (IntKind×Int)}(a:∀y,x=some y->y∈o.op.operands)(h:dQ f x=some b):x.map ρ=b.map λp=>.int p.1 p.2:=by
 cases x with
 | none=>injection h with h;subst h;rfl
 | some y=>
  unfold dQ at h;simp only at h;split at h
  ·rename_i k m c
   injection h with h
   subst h;have d:ρ y=.int k m:=AP.val (e.get (a y rfl) c);simp[d]
  ·cases h
def Nl:Option (IntKind×Int)->Int
 | none=>0
 | some p=>p.2
def Nc(n:Nat):Option (IntKind×Int)->Int
 | none=>n
 | some p=>p.2
theorem Pe{isS:Bool}{len cap:Nat}{lo hi:Option (IntKind×Int)}(b:0<=Nl lo)(e:Nl lo<=Nc len hi)(d:Nc len hi<=len)(c:len<=cap)(w:World) :
 (Instr.sliceBounds isS len cap (lo.map λp=>.int p.1 p.2) (hi.map λp=>.int p.1 p.2) none).run P w=.ok ((Nl lo).toNat,(Nc len hi).toNat,cap) w:=by
 cases lo with
 | none=>
  cases hi with
  | none=>simp[Instr.sliceBounds,Nl,Nc,go_sem]
  | some h=>
   simp only[Nl,Nc] at *;simp[Instr.sliceBounds,run_sliceBound w h.1 h.2 cap _ (by omega) (by omega),Nl,Nc,go_sem]
 | some l=>
  cases hi with
  | none=>
   simp only[Nl,Nc] at *;simp[Instr.sliceBounds,run_sliceBound w l.1 l.2 len _ (by omega) (by omega),Nl,Nc,go_sem]
  | some h=>
   simp only[Nl,Nc] at *;simp[Instr.sliceBounds,run_sliceBound w h.1 h.2 cap _ (by omega) (by omega),run_sliceBound w l.1 l.2 h.2.toNat _ (by omega) (by omega),Nl,Nc,go_sem];intro a;have:=a b;omega
theorem YD{t:TypeId}(ht:P.underlying t=some .string){s:ByteArray}{lo hi:Option Value}{l h m:Nat}{w:World}(hb:(Instr.sliceBounds false s.size s.size lo hi none).run P w=.ok (l,h,m) w) :
 (Instr.sliceAt t (.string s) lo hi none).run P w=.ok (.string (s.extract l h)) w:=by
 have a:(Instr.sliceAt t (.string s) lo hi none).run P w=(Instr.slice t (.string s) lo hi none).run P w:=by
  unfold Instr.sliceAt;rw[pu,run_underlying ht,lm]
 rw[a];unfold Instr.slice;rw[pu,run_underlying ht,lm];simp only[Option.isSome_none,tP,if_false];rw[pu];generalize Instr.sliceBounds false s.size s.size lo hi none=sb at hb |-;simp[hb,go_sem]
theorem YC{t e:TypeId}{i:TypeInfo}(c:P.underlying t=some (.slice e))(hi:P.info? e=some i){a:Option Addr}{len cap:Nat}{lo b:Option Value}{l h m:Nat}{w:World}(hb:(Instr.sliceBounds true len cap lo b none).run P w=.ok (l,h,m) w) :
 (Instr.sliceAt t (.slice a len cap) lo b none).run P w=.ok (.slice (if m=l then a else a.map (·.add (l*i.size))) (h-l) (m-l)) w:=by
 have d:(Instr.sliceAt t (.slice a len cap) lo b none).run P w=(Instr.slice t (.slice a len cap) lo b none).run P w:=by
  unfold Instr.sliceAt;rw[pu,run_underlying c,lm]
 rw[d];unfold Instr.slice;rw[pu,run_underlying c,lm];simp only;rw[pu];generalize Instr.sliceBounds true len cap lo b none=sb at hb |-;simp[hb,sizeOf,typeInfo,hi,go_sem]
theorem OX{t:TypeId}{x:Operand}{lo hi:Option Operand}{s:List UInt8}{l h:Option (IntKind×Int)}[ht:Dx P t](i:ev f x=some (eT s))(j:dQ f lo=some l)(k:dQ f hi=some h)
 (o:0<=Nl l) (n:Nl l<=Nc s.length h) (m:Nc s.length h<=s.length):A5 P TB U ⟨d,.slice t x lo hi none,ty,pos,af,g⟩ f σ nx (eT ((s.take (Nc s.length h).toNat).drop (Nl l).toNat)):=
 AQ λV ρ c _=>by
  have u:ρ x=.string ⟨s.toArray⟩:=AP.val (c.get (by simp[Op.operands]) i);have r:=OG c (x:=lo) (λy b=>by subst b;simp[Op.operands]) j;have q:=OG c (x:=hi) (λy b=>by subst b;simp[Op.operands]) k
  have a:(⟨s.toArray⟩:ByteArray).size=s.length:=by simp[ByteArray.size]
  have hb:=Pe (P:=P) (isS:=false) (len:=s.length) (cap:=s.length) o n m (lc _) V.w;refine⟨.string ((⟨s.toArray⟩:ByteArray).extract (Nl l).toNat (Nc s.length h).toNat),?_,?_⟩
  ·rw[<-a]at hb
   have e:=YD ht.out hb;rw[a]at e;simp only[execOp,u,r,q,Option.map_none,pu,e,lm];rfl
  ·have p:((⟨s.toArray⟩:ByteArray).extract (Nl l).toNat (Nc s.length h).toNat)=⟨((s.take (Nc s.length h).toNat).drop (Nl l).toNat).toArray⟩:=by
    apply ByteArray.ext;rw[ByteArray.data_extract];apply Array.toList_inj.1;simp[List.extract_eq_take_drop,List.drop_take]
   rw[p];exact .d (.v rfl)
theorem jJ{t e:TypeId}{k b:Nat}{x:Operand}{lo hi:Option Operand}{rows:List (List D)}{l h:Option (IntKind×Int)}[G:CE P t e k b](X:ev f x=some (.o (.d (.l rows))))(hl:dQ f lo=some l)(hh:dQ f hi=some h)(hk:∀r∈rows,r.length=k)
 (h0:0<=Nl l) (h1:Nl l<=Nc rows.length h) (h2:Nc rows.length h<=rows.length):A5 P TB U ⟨d,.slice t x lo hi none,ty,pos,af,g⟩ f σ nx (.o (.d (.l ((rows.take (Nc rows.length h).toNat).drop (Nl l).toNat)))):=
 AQ λV ρ H _=>by
  have B:=H.get (by simp[Op.operands]) X;have e2:=OG H (x:=lo) (λy F=>by subst F;simp[Op.operands]) hl;have e3:=OG H (x:=hi) (λy F=>by subst F;simp[Op.operands]) hh;generalize Y:ρ x=v at B;obtain⟨i,Z,L,hs,_⟩:=He G.out;generalize I:(Nl l).toNat=lo' at *;generalize M:(Nc rows.length h).toNat=c at *
  have A:lo'<=c/\c<=rows.length:=by omega
  have p:∀(a:Option Addr) (cap:Nat),rows.length<=cap->v=.slice a rows.length cap->(execOp ρ ⟨d,.slice t x lo hi none,ty,pos,af,g⟩).run P V.w=.ok (.value (.slice (if cap=lo' then a else a.map (·.add (lo'*i.size))) (c-lo') (cap-lo'))) V.w:=by
   intro a cap R he;have hb:=Pe (P:=P) (isS:=true) (len:=rows.length) (cap:=cap) h0 h1 h2 R V.w;rw[I,M]at hb;subst he;have s:=YC Z L (a:=a) hb;simp only[execOp,Y,e2,e3,Option.map_none,pu,s,lm];rfl
  have z:((rows.take c).drop lo').length=c-lo':=by simp;omega
  obtain⟨B⟩:=B
  cases B with
  | nil=>
   have s:lo'=0/\c=0:=by simp at A;omega
   obtain⟨rfl,rfl⟩:=s;exact⟨_,p none 0 (by simp) rfl,.d .nil⟩
  | @e a cap R=>
   have s:lo'=0/\c=0:=by simp at A;omega
   obtain⟨rfl,rfl⟩:=s;refine⟨_,p (some a) cap (by simp) rfl,?_⟩;by_cases Q:cap=0
   ·rw[if_pos Q];exact .d (.e (by omega))
   ·rw[if_neg Q];exact .d (.e (by omega))
  | @l _ b' o k' cap vs hb s Q S h6 h7=>
   refine⟨_,p (some ⟨b',o,none⟩) cap s rfl,?_⟩;by_cases T:c-lo'=0
   ·have:(rows.take c).drop lo'=[]:=List.eq_nil_of_length_eq_zero (by omega)
    rw[this,T];split
    ·exact .d (.e (by omega))
    ·exact .d (.e (by omega))
   ·have N:¬cap=lo':=by omega
    rw[if_neg N];simp only[rM,BO]
    have J:k'=i.size:=by
     have u:0<rows.length:=by omega
     have e5:=S 0 _ (d6 u);have e6:=hk _ (rF u);omega
    have m:∀(q:Nat) (r:List D),((rows.take c).drop lo')[q]?=some r->rows[lo'+q]?=some r:=λq r n=>by
     rw[rm,rh]at n;split at n
     ·exact n
     ·cases n
    rw[<-z];refine .d (.l (k:=k') (vs:=λq j=>vs (lo'+q) j) hb (by omega) (by omega) (λq r n=>S _ r (m q r n)) (λq r j dd n K=>?_) (λq r j dd n K=>h7 _ r j dd (m q r n) K));have:=h6 _ r j dd (m q r n) K;rw[<-J]
    have e7:o+lo'*k'+q*k'+j=o+(lo'+q)*k'+j:=by rw[ry];omega
    rw[e7];exact this
theorem gO{t e:TypeId}(ht:P.underlying t=some (.slice e))(a:Option Addr)(n c:Nat)(w:World):(binOp .eql t (.slice a n c) (.slice none 0 0)).run P w=.ok (.bool a.isNone) w:=by
 have h:∀d:Nat,(Op.equalIn (d+1) t (.slice a n c) (.slice none 0 0)).run P w=.ok a.isNone w:=λd=>by
  cases a<;>simp[Op.equalIn,run_underlying ht]
 simp only[binOp];simp[Op.equal,Op.maxDepth,h 9999]
theorem PT{t e yt:TypeId}{k b:Nat}{x:Operand}{rows:List (List D)}[m:CE P t e k b](q:ev f x=some (.o (.d (.l rows))))(z:∀c,(c=true->rows=[])->K (eB c) σ nx) :
 Ck P TB U ⟨d,.binOp .eql t x (.const (.slice none 0 0)) yt,ty,pos,af,g⟩ f σ nx K:=by
 intro V a H G F;subst F;have j:=H.HR.get (x:=x) (by simp[Op.operands]) q;have I:a.eval (.const (.slice none 0 0))=.slice none 0 0:=rfl;obtain⟨i,s,_,_,_⟩:=He m.out;generalize r:a.eval x=v at j
 have key:∀(p:Option Addr) (n c:Nat),v=.slice p n c->(p.isNone=true->rows=[])->Oper.wp P ⟨d,.binOp .eql t x (.const (.slice none 0 0)) yt,ty,pos,af,g⟩ a V.w (λa' w'=>∃V' v x σ',V'.w=w'/\a'=a.put d v/\Ext V V'/\Inv TB U V' σ'/\Bu V' x v/\K x σ' V'.nx) pf:=by
  intro p n c y u;unfold Oper.wp;have A:execOp a.eval ⟨d,.binOp .eql t x (.const (.slice none 0 0)) yt,ty,pos,af,g⟩=(do let v <-(do eqGuard .eql t x (.const (.slice none 0 0)) (a.eval x) (a.eval (.const (.slice none 0 0)));binOp .eql t (a.eval x) (a.eval (.const (.slice none 0 0))));pure (.value v)):=rfl;have B:eqGuard .eql t x (.const (.slice none 0 0)) (.slice p n c) (.slice none 0 0)=pure ():=rfl;rw[A,r,I,y,B];rw[pure_bind,pu,gO s,lm];exact⟨V,.bool p.isNone,eB p.isNone,σ,rfl,rfl,Ext.refl V,G,AP.d (.v rfl),z p.isNone u⟩
 obtain⟨j⟩:=j
 cases j with
 | nil=>exact key none 0 0 rfl λ_=>rfl
 | e=>exact key (some _) 0 _ rfl λh=>by cases h
 | l=>exact key (some _) _ _ rfl λh=>by cases h
def KA(l:List (List UInt8×Int)):List (Value×Value):=l.map λp=>(.string ⟨p.1.toArray⟩,.int .i64 p.2)
def Gq(l:List (List UInt8×Int))(s:List UInt8):Option Int:=(l.find? λp=>decide (p.1=s)).map (·.2)
theorem nn(a b:List UInt8):((⟨a.toArray⟩:ByteArray) == ⟨b.toArray⟩)=decide (a=b):=by
 have h:((⟨a.toArray⟩:ByteArray) == ⟨b.toArray⟩)=(a.toArray == b.toArray):=rfl;rw[h,sH];simp
theorem Pv(s:List UInt8):∀(l:List (List UInt8×Int)) (es:List MapEntry) (i:Nat),es.map (λe=>(e.key,e.val))=KA l->∃r,Instr.findNow .string (.string ⟨s.toArray⟩) es i=some r/\r.map (·.2)=(Gq l s).map (.int .i64)
 | [],es,i,h=>by
  have:es=[]:=by simpa[KA]using h
  subst this;exact⟨none,rfl,rfl⟩
 | p :: l,es,i,h=>by
  cases es with
  | nil=>simp[KA]at h
  | cons e es=>
   simp only[KA,rX,List.cons.injEq,Prod.mk.injEq]at h;obtain⟨⟨hk,b⟩,d⟩:=h
   have c:Instr.sameNow .string (.string ⟨s.toArray⟩) e.key=some (decide (s=p.1)):=by
    rw[hk]
    show some ((⟨s.toArray⟩:ByteArray) == ⟨p.1.toArray⟩)=_
    rw[nn]
   unfold Instr.findNow;rw[c];by_cases a:s=p.1
   ·refine⟨some (i,e.val),by simp[a],?_⟩
    simp[Gq,a,b]
   ·obtain⟨r,j,g⟩:=Pv s l es (i+1) d
    have f:¬p.1=s:=λe=>a e.symm;refine⟨r,by simp[a,j],?_⟩;rw[g];simp[Gq,f]
theorem J7{t:TypeId}(i:K (.o (.mp nx)) ((nx,.mp [])::σ) (nx+1)):Ck P TB U ⟨d,.makeMap t none,ty,pos,af,g⟩ f σ nx K:=
 DC λV ρ l k j=>by
  subst j
  have a:V.w.heap.size<(V.w.alloc (.map #[] 0)).heap.size:=by simp
  obtain⟨hi,h⟩:=k.alloc (c:=0) (nl:=False) (w:=V.w.alloc (.map #[] 0)) (ob:=.mp []) rfl rfl rfl rfl (uY a) (λb hb=>A6 V.w _ b hb) (by
   refine⟨by simp[Az],#[],0,?_,rfl⟩
   have e:(Az V V.w.heap.size 0 False (V.w.alloc (.map #[] 0))).ρ V.nx=V.w.heap.size:=by simp[Az]
   rw[e]
   exact BW V.w (.map #[] 0))
  refine⟨.map (some V.w.heap.size),_,_,_,?_,h,hi,?_,i⟩
  ·have:(Instr.makeMap t none).run P V.w=.ok (.map (some V.w.heap.size)) (V.w.alloc (.map #[] 0)):=rfl
   simp[execOp,this,Az,go_sem]
  ·have:=@AP.mp (Az V V.w.heap.size 0 False (V.w.alloc (.map #[] 0))) V.nx (by simp[Az])
   have e:(Az V V.w.heap.size 0 False (V.w.alloc (.map #[] 0))).ρ V.nx=V.w.heap.size:=by simp[Az]
   rw[e]at this;exact this
class KC (P:Program) (t:TypeId) (z:outParam Value):Prop where
 out:(P.info? t).bind (·.zero)=some z
class FN (P:Program) (t:TypeId) (k e:outParam TypeId):Prop where
 out:P.underlying t=some (.map k e)
theorem Pj{k:TypeId}(hk:P.underlying k=some .string)(b:Bool)(s:ByteArray)(w:World):(Instr.checkKey b 10000 k (.string s)).run P w=.ok () w:=by
 rw[show 10000=9999+1 from rfl];unfold Instr.checkKey;simp[run_underlying hk,go_sem]
theorem ga{t k e:TypeId}{x y:Operand}{id:Nat}{l:List (List UInt8×Int)}{s:List UInt8}[G:FN P t k e][hk:Dx P k][M:KC P e (.int .i64 0)](Q:ev f x=some (.o (.mp id)))(N:ev f y=some (eT s))(R:look σ id=some (.mp (KA l))) :
 A5 P TB U ⟨d,.lookup t x y true,ty,pos,af,g⟩ f σ nx (.t [(false,[.d (.v (.int .i64 ((Gq l s).getD 0)))]),(false,[.d (.v (.bool (Gq l s).isSome))])]):=
 AQ λV ρ F hi=>by
  have L:=F.get (by simp[Op.operands]) Q;have K:ρ y=.string ⟨s.toArray⟩:=AP.val (F.get (by simp[Op.operands]) N);generalize a:ρ x=v at L
  cases L with
  | mp S =>
   obtain⟨hn,ents,clock,J,X⟩:=hi.st.obj id _ R;obtain⟨r,T,p⟩:=Pv s l ents.toList 0 X;have b:=M.out;simp only[qY]at b;obtain⟨i,A,z⟩:=b
   have u:(zeroValue e).run P V.w=.ok (.int .i64 0) V.w:=by simp[zeroValue,typeInfo,A,z,go_sem]
   have h:(Instr.findKey k (.string ⟨s.toArray⟩) ents.toList).run P V.w=.ok r V.w:=by simp[Instr.findKey,run_underlying hk.out,T,go_sem]
   have m:=Pj hk.out ents.isEmpty ⟨s.toArray⟩ V.w;refine⟨.tuple #[.int .i64 ((Gq l s).getD 0),.bool (Gq l s).isSome],?_,⟨_,rfl,rfl,λj x v c a=>?_⟩⟩
   ·cases r with
    | none=>
     have B:Gq l s=none:=by simpa using p.symm
     simp[execOp,a,K,Instr.lookup,run_underlying G.out,MapKept.run_getObj_map J,m,h,u,B,go_sem]
    | some q=>
     obtain⟨n,B,I⟩:∃n,Gq l s=some n/\q.2=.int .i64 n:=by
      cases H:Gq l s with
      | none=>rw[H]at p;simp at p
      | some n=>rw[H]at p;exact⟨n,rfl,by simpa using p⟩
     obtain⟨Z,Y⟩:=q;simp only at I;subst I;simp[execOp,a,K,Instr.lookup,run_underlying G.out,MapKept.run_getObj_map J,m,h,B,go_sem]
   ·match j with
    | 0=>simp at c a;subst c;subst a;exact⟨_,rfl,.d (.v rfl)⟩
    | 1=>simp at c a;subst c;subst a;exact⟨_,rfl,.d (.v rfl)⟩
    | j+2=>simp at c
theorem nQ{t k e:TypeId}{x y z:Operand}{id:Nat}{l:List (List UInt8×Int)}{s:List UInt8}{n:Int}[X:FN P t k e][hk:Dx P k](Q:ev f x=some (.o (.mp id)))(N:ev f y=some (eT s))(M:ev f z=some (eI .i64 n))(G:look σ id=some (.mp (KA l)))
 (T:Gq l s=none) (H:K (.t []) ((id,.mp (KA (l++[(s,n)])))::σ) nx):Ck P TB U ⟨d,.mapUpdate t x y z,ty,pos,af,g⟩ f σ nx K:=by
 intro V a c J h3;have c:=c.HR;unfold Oper.wp;generalize a.eval=ρ at c |-;have L:=c.get (x:=x) (by simp[Op.operands]) Q;have e2:ρ y=.string ⟨s.toArray⟩:=AP.val (c.get (by simp[Op.operands]) N);have e3:ρ z=.int .i64 n:=AP.val (c.get (by simp[Op.operands]) M);generalize R:ρ x=v at L
 cases L with
 | mp Z=>
  obtain⟨m,ents,clock,F,B⟩:=J.st.obj id _ G;obtain⟨r,h6,I⟩:=Pv s l ents.toList 0 B;rw[T]at I
  have S:r=none:=by cases r with
   | none=>rfl
   | some q=>simp at I
  subst S
  have u:(Instr.findKey k (.string ⟨s.toArray⟩) ents.toList).run P V.w=.ok none V.w:=by simp[Instr.findKey,run_underlying hk.out,h6,go_sem]
  have A:=Pj hk.out false ⟨s.toArray⟩ V.w
  let ob:Obj:=.map (ents.push { key:=.string ⟨s.toArray⟩,val:=.int .i64 n,born:=clock }) (clock+1)
  let w':World:={ V.w with heap:=V.w.heap.setIfInBounds (V.ρ id) ob }
  have h:=MapKept.run_setObj_map (P:=P) ob F;have p:=(qZ.1 F).1
  obtain⟨hi,he⟩:=J.write G m (w:=w') (ob':=.mp (KA (l++[(s,n)]))) rfl rfl rfl rfl rfl (by simp[w']) (λb hb=>by simp[w',sg,Ne.symm hb]) (by
   refine⟨m,ents.push { key:=.string ⟨s.toArray⟩,val:=.int .i64 n,born:=clock },clock+1,?_,?_⟩
   ·show w'.heap[V.ρ id]?=some ob
    simp[w',sg,p]
   ·simp[KA]at B |-
    exact B)
  have i:(execOp ρ ⟨d,.mapUpdate t x y z,ty,pos,af,g⟩).run P V.w=.ok .skip w':=by
   simp[execOp,R,e2,e3,Instr.mapUpdate,run_underlying X.out,MapKept.run_getObj_map F,A,u,h,ob,w',go_sem]
  rw[i];exact⟨{ V with w:=w' },.tuple #[],.t [],_,rfl,rfl,he,hi,⟨#[],rfl,rfl,λj x v Y=>by simp at Y⟩,by rw[<-h3]at H;exact H⟩
end
section
variable {P:Program}{TB:BJ}
theorem Bd.ie{g:FuncId}{σ:Ac}{nx:Nat}{args:List E}{post:E->Ac->Nat->Prop}(h:Bd P TB g nx σ nx args post):Spec P TB g σ nx args post:=
 ⟨h.1,λV vs S a ha=>(h.2 V vs S a ha).mono λ_ _ ⟨V',v,x,σ',i,f,e,d,c⟩=>⟨V',v,x,σ',i,f,by have b:=a.nx;subst b;exact e,d,c⟩⟩
end
def AV(s:Int)(n:Nat):Bool:=decide (Gk .i64 (s.fdiv (2 ^ min n 64)) 1=1)
def hasB(s n:Int):Bool:=decide (0<=n) && AV s n.toNat
def A1(n:Int):Bool:=decide (0<=n/\n<=63)
abbrev iD(n:Int):D:=.v (.int .i64 n)
abbrev bD(b:Bool):D:=.v (.bool b)
abbrev tD(s:List UInt8):D:=.v (.string ⟨s.toArray⟩)
abbrev Bc(n:Int):List D:=[iD n]
abbrev Jk(b:Bool):List D:=[bD b]
abbrev Dv(s:List UInt8):List D:=[tD s]
abbrev EA(l:List Int):D:=.l (l.map Bc)
abbrev FP(l:List Bool):D:=.l (l.map Jk)
abbrev Hg(l:List (List UInt8)):D:=.l (l.map Dv)
abbrev Av(n:Int):List C:=[.d (iD n)]
abbrev AO(b:Bool):List C:=[.d (bD b)]
abbrev KJ(s:List UInt8):List C:=[.d (tD s)]
abbrev Fb(l:List Int):List D:=[EA l]
abbrev Ce(l:List (List Int)):D:=.l (l.map Fb)
abbrev Xw(l:List Int):List C:=[.d (EA l)]
abbrev KU(l:List (List Int)):List D:=[Ce l]
abbrev ja(l:List (List (List Int))):D:=.l (l.map KU)
structure Ea where
 f:Int
 l:Int
 t:Int
 deriving DecidableEq
structure Sys where
 al:Int
 st:Int
 es:List Ea
structure AK where
 al:Int
 nx:List (List Int)
 ac:List Bool
abbrev De(e:Ea):List D:=[iD e.f,iD e.l,iD e.t]
abbrev A3(e:Ea):List C:=[.d (iD e.f),.d (iD e.l),.d (iD e.t)]
abbrev Xr(e:Ea):E:=.a [.d (iD e.f),.d (iD e.l),.d (iD e.t)]
abbrev Em(l:List Ea):D:=.l (l.map De)
abbrev AF(s:Sys):List D:=[iD s.al,iD s.st,Em s.es]
abbrev BK(s:Sys):E:=.a [.d (iD s.al),.d (iD s.st),.d (Em s.es)]
abbrev JO(l:List Sys):D:=.l (l.map AF)
abbrev AE(a:AK):List D:=[iD a.al,Ce a.nx,FP a.ac]
abbrev Bh(a:AK):E:=.a [.d (iD a.al),.d (Ce a.nx),.d (FP a.ac)]
abbrev Xg(l:List AK):D:=.l (l.map AE)
abbrev Ak(l:List Int):E:=.o (.d (EA l))
abbrev lv(l:List Bool):E:=.o (.d (FP l))
abbrev EN(l:List (List Int)):E:=.o (.d (Ce l))
abbrev Cb(l:List (List UInt8)):E:=.o (.d (Hg l))
abbrev ky(l:List Ea):E:=.o (.d (Em l))
abbrev FX(l:List Sys):E:=.o (.d (JO l))
def AI(s:Int)(k:Nat):List Int:=((List.range k).filter (AV s)).map Int.ofNat
theorem AJ(s:Int)(k:Nat):(AI s k).length<=k:=by
 unfold AI;rw[gt];exact pm (tl _ _) (by simp)
theorem CU(s:Int)(k:Nat):AI s (k+1)=AI s k++if AV s k then [(k:Int)] else []:=by
 unfold AI;rw[sT,sj,rI];cases h:AV s k<;>simp[h]
abbrev Ab(s:Int):List Int:=AI s 6
def DA(al st:Int)(e:Ea):Bool:=decide (0<=e.f/\e.f<st/\0<=e.t/\e.t<st/\0<=e.l/\e.l<6) && AV al e.l.toNat
def Kz(e f:Ea):Bool:=if e.f≠f.f then decide (e.f<f.f) else if e.l≠f.l then decide (e.l<f.l) else decide (e.t<f.t)
def JP(s:Sys)(i:Nat):Bool:=match s.es[i]? with
 | none=>true
 | some e=>DA s.al s.st e && match i with
  | 0=>true
  | j+1=>match s.es[j]? with
   | none=>true
   | some p=>Kz p e
def AU(s:Sys):Bool:=A1 s.al && decide (1<=s.st/\s.st<=16) && (List.range s.es.length).all (JP s)
theorem GP{α:Type}{l:List α}{f:α->Bool}{k:Nat}{x:α}(h:l[k]?=some x)(b:(l.take k).all f=true)(a:f x=true):(l.take (k+1)).all f=true:=by
 rw[i7,h];simp[List.all_append,b,a]
theorem Iy{α:Type}{l:List α}{f:α->Bool}{k:Nat}{x:α}(h:l[k]?=some x)(a:f x=false):l.all f=false:=by
 rw[uW];exact⟨x,co h,by simp[a]⟩
theorem GO{α:Type}{l:List α}{f:α->Bool}{k:Nat}(h:(l.take k).all f=true)(hk:l.length<=k):l.all f=true:=by
 rwa[kw hk]at h
theorem get_map{α β:Type}{l:List α}{g:α->β}{k:Nat}{x:α}(h:l[k]?=some x):(l.map g)[((k:Nat):Int).toNat]?=some (g x):=by simp[h]
theorem get_some{α:Type}{l:List α}{k:Nat}(h:k<l.length):∃x,l[k]?=some x:=⟨_,d6 h⟩
def RG(n:Int)(q:Int):Bool:=decide (0<=q/\q<n)
def Fe(ls n:Int)(row:List Int):Bool:=decide ((row.length:Int)=ls) && row.all (RG n)
def AD(a:AK):Bool:=A1 a.al && decide (1<=a.nx.length/\a.nx.length<=12) && decide (a.ac.length=a.nx.length) && a.nx.all (Fe (Ab a.al).length a.nx.length)
inductive FL (σ:Ac) (ids:List Nat):List C->List C->Prop
 | nil:FL σ ids [] []
 | cons {c c':C} {cs cs':List C}:FC σ ids c c'->FL σ ids cs cs'->FL σ ids (c::cs) (c'::cs')
section
variable {P:Program}{TB:BJ}{U:Ctx}{N:Nat}{σ:Ac}
end
end Go.Am
namespace Go.Am
abbrev W:=List UInt8
structure Bl where
 rows:List W
 cols:List W
def ZA(b:Bool):UInt8:=if b then 43 else 45
theorem ZB{a b:Bool}(h:ZA a=ZA b):a=b:=by cases a<;>cases b<;>first|rfl|(simp[ZA]at h)
def marks(L:W->Bool)(cols:List W)(w:W):W:=cols.map λc=>ZA (L (w++c))
theorem fa{L:W->Bool}{cols:List W}{u w:W}:marks L cols u=marks L cols w↔∀c∈cols,L (u++c)=L (w++c):=by
 unfold marks;rw[sY];exact⟨λh c a=>ZB (h c a),λh c a=>by rw[h c a]⟩
def A2(L:W->Bool)(t:Bl):List W:=t.rows.map (marks L t.cols)
def Dm(ls:List UInt8)(rows:List W):List W:=rows.flatMap λr=>ls.map λl=>r++[l]
def Bp(L:W->Bool)(ls:List UInt8)(t:Bl):Option W:=(Dm ls t.rows).find? λw=>!(A2 L t).contains (marks L t.cols w)
def BZ(L:W->Bool)(ls:List UInt8):Nat->Bl->Option Bl
 | 0,_=>none
 | n+1,t=>match Bp L ls t with
  | none=>some t
  | some w=>if t.rows.length=12 then none else BZ L ls n ⟨t.rows++[w],t.cols⟩
def AL(ls:List UInt8)(w:W):Prop:=∀c∈w,c∈ls
structure TOk (L:W->Bool) (ls:List UInt8) (t:Bl):Prop where
 r0:t.rows[0]?=some []
 c0:t.cols[0]?=some []
 pre:∀(i:Nat) w,t.rows[i]?=some w->0<i->w≠[]/\∃j,j<i/\t.rows[j]?=some w.dropLast
 onR:∀w∈t.rows,AL ls w
 onC:∀c∈t.cols,AL ls c
 nd:(A2 L t).Nodup
 ndC:t.cols.Nodup
theorem IP{L:W->Bool}{ls:List UInt8}{t:Bl}{w:W}(h:Bp L ls t=some w):(∃r∈t.rows,∃l∈ls,w=r++[l])/\marks L t.cols w∉A2 L t:=by
 have d:=List.find?_some h;have a:=List.mem_of_find?_eq_some h;unfold Dm at a;simp only[s8,d9]at a;obtain⟨r,b,l,c,rfl⟩:=a;exact⟨⟨r,b,l,c,rfl⟩,by simpa using d⟩
theorem Ha{L:W->Bool}{ls:List UInt8}{t:Bl}(h:Bp L ls t=none):∀r∈t.rows,∀l∈ls,marks L t.cols (r++[l])∈A2 L t:=by
 intro r a l b;have c:=uj.1 h (r++[l]) (by unfold Dm;simp only[s8,d9];exact⟨r,a,l,b,rfl⟩)
 simpa using c
theorem TOk.push{L:W->Bool}{ls:List UInt8}{t:Bl}{w:W}(h:TOk L ls t)(o:Bp L ls t=some w):TOk L ls ⟨t.rows++[w],t.cols⟩:=by
 obtain⟨⟨r,n,l,q,rfl⟩,p⟩:=IP o;have y:0<t.rows.length:=(am.1 h.r0).1;refine⟨by rw[f9 y];exact h.r0,h.c0,λi w hi hp=>?_,λw d=>?_,h.onC,?_,h.ndC⟩
 ·by_cases k:i<t.rows.length
  ·rw[f9 k]at hi
   obtain⟨x,j,v,u⟩:=h.pre i w hi hp;exact⟨x,j,v,by rw[f9 (by omega)];exact u⟩
  ·rw [io (by omega)]at hi
   have m:i=t.rows.length:=by
    have:=(am.1 hi).1;simp at this;omega
   subst m;simp at hi;subst hi;obtain⟨j,g,s⟩:=q9 n;refine⟨by simp,j,g,?_⟩;rw[f9 g,List.dropLast_concat,d6 g,s]
 ·rcases gc.1 d with d|d
  ·exact h.onR w d
  ·simp at d
   subst d;intro c f
   rcases gc.1 f with f|f
   ·exact h.onR r n c f
   ·simp at f;subst f;exact q
 ·unfold A2
  rw[rI,r8];refine⟨h.nd,by simp,λa ha b hb=>?_⟩;simp at hb;subst hb;intro e;exact p (e▸ha)
structure Fin (L:W->Bool) (ls:List UInt8) (n:Nat) where
 st:W->Nat
 lt:∀w,AL ls w->st w<n
 same:∀u w v,AL ls u->AL ls w->AL ls v->st u=st w->L (u++v)=L (w++v)
theorem PX:∀(n:Nat) (l:List Nat),l.Nodup->(∀x∈l,x<n)->l.length<=n
 | 0,l,_,h=>by cases l with
  | nil=>simp
  | cons x l=>have:=h x (by simp);omega
 | n+1,l,c,h=>by
  have d:=PX n (l.erase n) (c.erase n) λx a=>by
   have g:=h x (List.mem_of_mem_erase a)
   have f:x≠n:=λe=>by subst e;exact(List.Nodup.not_mem_erase c) a
   omega
  by_cases b:n∈l
  ·rw[List.length_erase_of_mem b]at d;omega
  ·rw[List.erase_of_not_mem b]at d;omega
def En(L:W->Bool)(t:Bl)(w:W):Nat:=(A2 L t).idxOf (marks L t.cols w)
def runM(L:W->Bool)(t:Bl):Nat->W->Nat
 | i,[]=>i
 | i,c::w=>runM L t (En L t ((t.rows.getD i [])++[c])) w
theorem VV(L:W->Bool)(t:Bl):∀(u w:W) (i:Nat),runM L t i (u++w)=runM L t (runM L t i u) w
 | [],_,_=>rfl
 | c::u,w,i=>VV L t u w _
structure Ci (L:W->Bool) (ls:List UInt8) (t:Bl):Prop extends TOk L ls t where
 cl:∀r∈t.rows,∀l∈ls,marks L t.cols (r++[l])∈A2 L t
theorem Ci.idx{L:W->Bool}{ls:List UInt8}{t:Bl}(h:Ci L ls t){i:Nat}{r:W}{l:UInt8}(hi:t.rows[i]?=some r)(b:l∈ls):∃r',t.rows[En L t (r++[l])]?=some r'/\marks L t.cols r'=marks L t.cols (r++[l]):=by
 have e:=h.cl r (co hi) l b;have a:En L t (r++[l])<(A2 L t).length:=rJ.2 e;have d:(A2 L t)[En L t (r++[l])]'a=marks L t.cols (r++[l]):=ti a
 have c:En L t (r++[l])<t.rows.length:=by simpa[A2]using a
 refine⟨t.rows[En L t (r++[l])],d6 c,?_⟩;rw[<-d];simp[A2]
theorem Ci.run{L:W->Bool}{ls:List UInt8}{t:Bl}(h:Ci L ls t):∀(w:W) (i:Nat),AL ls w->i<t.rows.length->runM L t i w<t.rows.length
 | [],_,_,hi=>hi
 | c::w,i,a,hi=>by
  have b:t.rows[i]?=some t.rows[i]:=d6 hi;obtain⟨_,f,_⟩:=h.idx b (a c (by simp))
  have e:t.rows.getD i []=t.rows[i]:=by simp[b]
  show runM L t (En L t (t.rows.getD i []++[c])) w<_
  rw[e];exact h.run w _ (λx d=>a x (by simp[d])) (am.1 f).1
def splitAt(L:W->Bool)(t:Bl)(b:Bool):Nat->W->Option W
 | _,[]=>none
 | i,c::v=>if L (t.rows.getD (En L t ((t.rows.getD i [])++[c])) []++v)≠b then some v else splitAt L t b (En L t ((t.rows.getD i [])++[c])) v
theorem bY(L:W->Bool)(cols:List W)(v w:W):marks L (cols++[v]) w=marks L cols w++[ZA (L (w++v))]:=by simp[marks]
theorem Ci.row{L:W->Bool}{ls:List UInt8}{t:Bl}(h:Ci L ls t){i j:Nat}{r s:W}(hi:t.rows[i]?=some r)(f:t.rows[j]?=some s)(g:marks L t.cols r=marks L t.cols s):i=j:=by
 have c:(A2 L t)[i]?=some (marks L t.cols r):=by simp[A2,hi]
 have b:(A2 L t)[j]?=some (marks L t.cols r):=by simp[A2,f,g]
 have l1:=(am.1 c).1;have l2:=(am.1 b).1;have e:=(am.1 c).2;have d:=(am.1 b).2;have hp:=q8.1 h.nd
 rcases uu i j with a|a|a
 ·exact absurd (e.trans d.symm) (hp i j l1 l2 a)
 ·exact a
 ·exact absurd (d.trans e.symm) (hp j i l2 l1 a)
structure Split (L:W->Bool) (ls:List UInt8) (t:Bl) (u v:W):Prop where
 suf:∃p,p≠[]/\u=p++v
 new:v∉t.cols
 opens:∃r∈t.rows,∃c∈ls,marks L (t.cols++[v]) (r++[c])∉A2 L ⟨t.rows,t.cols++[v]⟩
theorem Wz{L:W->Bool}{ls:List UInt8}{t:Bl}(h:Ci L ls t)(b:Bool):∀(u:W) (i:Nat) (r:W),AL ls u->t.rows[i]?=some r->L (r++u)=b->L (t.rows.getD (runM L t i u) [])≠b->∃v,splitAt L t b i u=some v/\Split L ls t u v
 | [],i,r,_,hi,hb,z=>by
  have a:t.rows.getD i []=r:=by simp[hi]
  rw[rv]at hb;exact absurd (by show L (t.rows.getD i [])=b;rw[a];exact hb) z
 | c :: v,i,r,A,hi,hb,z=>by
  have F:c∈ls:=A c (by simp)
  have j:t.rows.getD i []=r:=by simp[hi]
  obtain⟨r',a,G⟩:=h.idx hi F
  have g:t.rows.getD (En L t (r++[c])) []=r':=by simp[a]
  unfold splitAt;rw[j,g];by_cases k:L (r'++v)≠b
  ·rw[if_pos k]
   have n:r++c::v=(r++[c])++v:=by simp
   have f:L ((r++[c])++v)≠L (r'++v):=by rw[<-n,hb];exact λe=>k e.symm
   refine⟨v,rfl,⟨[c],by simp,rfl⟩,λl=>f ((fa.1 G v l).symm),r,co hi,c,F,λl=>?_⟩;unfold A2 at l;obtain⟨s,I,B⟩:=d9.1 l;simp only[bY]at B;obtain⟨S,R⟩:=List.append_inj' B rfl;obtain⟨q,J,o⟩:=q9 I
   have d:t.rows[q]?=some s:=by rw[d6 J,o]
   have:=h.row d a (S.trans G.symm);subst this;rw[d]at a
   injection a with a
   subst a
   have Q:ZA (L (s++v))=ZA (L (r++[c]++v)):=by simpa using R
   exact f (ZB Q).symm
  ·rw [if_neg k]
   have m:L (r'++v)=b:=by simpa using k
   have y:L (t.rows.getD (runM L t (En L t (r++[c])) v) [])≠b:=by
    have:runM L t i (c::v)=runM L t (En L t (r++[c])) v:=by show runM L t (En L t (t.rows.getD i []++[c])) v=_;rw[j]
    rwa[this]at z
   obtain⟨w,P,⟨p,hp,N⟩,M,K⟩:=Wz h b v _ r' (λx H=>A x (by simp[H])) a m y;exact⟨w,P,⟨c::p,by simp,by rw[N];rfl⟩,M,K⟩
theorem jx{L:W->Bool}{ls:List UInt8}{t:Bl}{r:W}{c:UInt8}(a:r∈t.rows)(d:c∈ls)(b:marks L t.cols (r++[c])∉A2 L t):Bp L ls t≠none:=λh=>b (Ha h r a c d)
def QV(L:W->Bool)(t:Bl)(w:W):Bool:=L (t.rows.getD (runM L t 0 w) [])
def nT(L:W->Bool)(ls:List UInt8)(t:Bl)(w:W):Option Bl:=(splitAt L t (L w) 0 w).bind λv=>BZ L ls 13 ⟨t.rows,t.cols++[v]⟩
structure Next (L:W->Bool) (ls:List UInt8) (t:Bl) (w v:W) (t':Bl):Prop where
 split:splitAt L t (L w) 0 w=some v
 close:BZ L ls 13 ⟨t.rows,t.cols++[v]⟩=some t'
 next:nT L ls t w=some t'
 ok:Ci L ls t'
 cols:t'.cols=t.cols++[v]
 new:v∉t.cols
 suf:∃p,p≠[]/\w=p++v
 more:t.rows.length<t'.rows.length
 pre:t.rows <+: t'.rows
structure Wr (L:W->Bool) (ls:List UInt8) (wr:Bl->Option W):Prop where
 on:∀t w,wr t=some w->Ci L ls t->AL ls w/\QV L t w≠L w
end Go.Am
