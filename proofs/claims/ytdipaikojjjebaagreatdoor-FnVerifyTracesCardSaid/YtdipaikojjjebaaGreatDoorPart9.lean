/-
  More quiet operations: closures, checks for nil, tables, pieces of slices and strings, text out of bytes.
-/
import Derived.Test.YtdipaikojjjebaaGreatDoorPart8
import Derived.Laws.BytesArg
import Derived.Laws.Slices
import Derived.MapKept
set_option linter.all false
namespace Go.Am
open Go
def br:List E->Option (List C)
 | []=>some []
 | .o c::l=>(br l).map (c :: ·)
 | _=>none
theorem OQ:∀ {l:List E} {cs:List C},br l=some cs->l=cs.map .o
 | [],cs,h=>by injection h with h;subst h;rfl
 | e::l,cs,h=>by
  cases e<;>simp only[br]at h<;>try cases h
  simp only[d6]at h;obtain⟨ds',a,rfl⟩:=h;simp[OQ a]
class TE (P:Program) (t:TypeId):Prop where
 out:∃e,P.underlying t=some (.pointer e)
class La (TB:BA) (b:Nat) (vals:outParam (List Value)):Prop where
 out:(∃(cur:Array Value) (T:TypeId) (fr:_),(b,Obj.cells cur T fr)∈TB/\∀(i:Nat) v,vals[i]?=some v->cur[i]?=some v)/\vals.all OA=true
section
variable {P:Program}{TB:BA}{Γ:Ctx}{d:Option Tmp}{ty:TypeId}{pos:String}{af:Array Edge}{g:Option (Nat×Bool)}{f:Env}{σ:Ab}{nx:Nat}
variable {K:E->Ab->Nat->Prop}
theorem fC{α:Type}{t e:TypeId}{x:Operand}{l:List α}{c:α->List D}{k b:Nat}[h:CM P t e k b](a:ev f x=some (.o (.d (.l (l.map c))))):A1 P TB Γ ⟨d,.call ⟨.builtin .len,#[x],#[t]⟩,ty,pos,af,g⟩ f σ nx (eI .i64 l.length):=by
 have:=ZX (t:=t) (P:=P) (TB:=TB) (Γ:=Γ) (d:=d) (ty:=ty) (pos:=pos) (af:=af) (g:=g) (σ:=σ) (nx:=nx) a;rwa[f7]at this
theorem fJ{t yt:TypeId}{x y:Operand}{k:IntKind}{m n:Int}(b:ev f x=some (eI k m))(a:ev f y=some (eI k n))(c:0<=m)(e:0<n) :
 A1 P TB Γ ⟨d,.binOp .rem t x y yt,ty,pos,af,g⟩ f σ nx (eI k (m%n)):=iZ b a (by omega) (Int.tmod_eq_emod_of_nonneg c)
theorem fI{t yt:TypeId}{x y:Operand}{m n:Int}(c:ev f x=some (eI .i64 m))(b:ev f y=some (eI .i64 n))(a:0<=m)(h:m<=9223372036854775807)(e:0<n) :
 A1 P TB Γ ⟨d,.binOp .quo t x y yt,ty,pos,af,g⟩ f σ nx (eI .i64 (m / n)):=iY c b (by omega) (by
  rw[Int.tdiv_eq_ediv_of_nonneg a];have j:0<=m / n:=mS a (by omega);have i:m / n<=m:=nA _ a
  exact IntWalk.i64_in _ (by omega))
def notNil:Operand->Bool
 | .const (.slice none 0 0)=>false
 | _=>true
theorem ka{gg:FuncId}{caps:Array Operand}{es:List E}{cs:List C}(a:I6 f caps.toList=some es)(h:br es=some cs):A1 P TB Γ ⟨d,.makeFunc (.func gg) #[] caps,ty,pos,af,g⟩ f σ nx (.o (.fn gg cs)):=
 AI λV ρ p _=>by
  refine⟨.func (.func gg) #[] (caps.map ρ),by simp[execOp,Instr.makeFunc,go_sem],AF.fn ?_ λj c v l k=>?_⟩
  ·have b:=CJ a
   have n:=congrArg List.length (OQ h);simp at b n |-;omega
  ·have b:=GJ (f:=f) (V:=V) (ρ:=ρ) (λy i e m=>p.get (by simp[Op.operands];simpa using i) m) a j (.o c) v (by rw[OQ h];simp[l]) (by rw[<-nz];simpa using k)
   exact b
theorem da{x:Operand}{cs:List D}(b:ev f x=some (.o (.ip cs))):A1 P TB Γ ⟨d,.nilCheck x,ty,pos,af,g⟩ f σ nx (.o (.ip cs)):=
 AI λV ρ e _=>by
  have a:=e.get (by simp[Op.operands]) b;generalize c:ρ x=v at a;refine⟨v,?_,a⟩;obtain⟨a⟩:=a;cases a;simp[execOp,c,go_sem]
theorem fG{x:Operand}{id k i j:Nat}(b:ev f x=some (.o (.ptr id k i j))):A1 P TB Γ ⟨d,.nilCheck x,ty,pos,af,g⟩ f σ nx (.o (.ptr id k i j)):=
 AI λV ρ e _=>by
  have a:=e.get (by simp[Op.operands]) b;generalize c:ρ x=v at a;refine⟨v,?_,a⟩;cases a;simp[execOp,c,go_sem]
theorem c8{x:Operand}{gg:FuncId}{cs:List C}(b:ev f x=some (.o (.fn gg cs))):A1 P TB Γ ⟨d,.nilCheck x,ty,pos,af,g⟩ f σ nx (.o (.fn gg cs)):=
 AI λV ρ e _=>by
  have a:=e.get (by simp[Op.operands]) b;generalize c:ρ x=v at a;refine⟨v,?_,a⟩;obtain⟨vs,rfl,_⟩:=NG a;simp[execOp,c,go_sem]
theorem SW{t e:TypeId}{a:Option Addr}(b:P.underlying t=some (.pointer e))(w:World):(Op.equal t (.pointer a) (.pointer none)).run P w=.ok a.isNone w:=by
 unfold Op.equal Op.maxDepth;rw[show 10000=9999+1 from rfl,Op.equalIn];cases a<;>simp[run_underlying b,go_sem]
theorem XB{t yt:TypeId}{x y:Operand}{cs:List D}[l:TE P t](j:ev f x=some (.o (.ip cs)))(i:ev f y=some (.o (.d (.v (.pointer none))))):A1 P TB Γ ⟨d,.binOp .eql t x y yt,ty,pos,af,g⟩ f σ nx (eB false):=
 AI λV ρ h _=>by
  have c:=h.get (by simp[Op.operands]) j;have s:ρ y=.pointer none:=AF.val (h.get (by simp[Op.operands]) i);generalize k:ρ x=v at c;obtain⟨c⟩:=c;obtain⟨e,m⟩:=l.out;cases c;rename_i b o vs hb z u;refine⟨.bool false,?_,.d (.v rfl)⟩;have r:binOp .eql t (.pointer (some ⟨b,o,none⟩)) (.pointer none)=(do pure (.bool (<-Op.equal t (.pointer (some ⟨b,o,none⟩)) (.pointer none)))):=rfl;have q:eqGuard .eql t x y (.pointer (some ⟨b,o,none⟩)) (.pointer none)=pure ():=rfl;have p:=SW (a:=some ⟨b,o,none⟩) m V.w;have n:execOp ρ ⟨d,.binOp .eql t x y yt,ty,pos,af,g⟩=(do let v <-(do eqGuard .eql t x y (ρ x) (ρ y);binOp .eql t (ρ x) (ρ y));pure (.value v)):=rfl;rw[n,k,s,r,q];simp[p,go_sem]
theorem Uv{t yt:TypeId}{x y:Operand}[h:TE P t](c:ev f x=some (.o (.d (.v (.pointer none)))))(b:ev f y=some (.o (.d (.v (.pointer none))))):A1 P TB Γ ⟨d,.binOp .eql t x y yt,ty,pos,af,g⟩ f σ nx (eB true):=
 BI c b rfl λw=>by
  obtain⟨e,i⟩:=h.out;have l:binOp .eql t (.pointer none) (.pointer none)=(do pure (.bool (<-Op.equal t (.pointer none) (.pointer none)))):=rfl;have k:eqGuard .eql t x y (.pointer none) (.pointer none)=pure ():=rfl;have j:=SW (a:=none) i w;rw[l,k];simp[j,go_sem]
theorem ZT{t:TypeId}{b:Nat}{y:Operand}{vals:List Value}{v:Value}{n:Int}{len:Nat}{ik:IntKind}[A:Pm P t len 1][ht:La TB b vals](q:ev f y=some (eI ik n))
 (J:0<=n) (u:n<len) (k:vals[n.toNat]?=some v):A1 P TB Γ ⟨d,.indexAddr t (.global b) y,ty,pos,af,g⟩ f σ nx (.o (.ip [.v v])):=by
 intro V a I p H;have m:a.eval y=.int ik n:=AF.val (I.GN.get (by simp[Op.operands]) q);have l:a.eval (.global b)=.pointer (some ⟨b,0,none⟩):=rfl;obtain⟨e,i,r,hi,hs⟩:=TL A.out;obtain⟨⟨cur,T,fr,z,B⟩,h⟩:=ht.out;obtain⟨G,F⟩:=p.tabs _ z;unfold Oper.wp;generalize a.eval=ρ at m l |-
 have s:(execOp ρ ⟨d,.indexAddr t (.global b) y,ty,pos,af,g⟩).run P V.w=.ok (.value (.pointer (some ⟨b,n.toNat,none⟩))) V.w:=by
  simp[execOp,m,l,Instr.indexAt,asIntOf,run_underlying r,Instr.sureAddr,J,u,sizeOf,typeInfo,hi,hs,BD,go_sem]
 rw[s];refine⟨V,_,rfl,rfl,Ext.refl V,p,H,AF.ip (vs:=λ_=>v) G (λj x c=>?_) (λj x c=>?_)⟩
 ·match j with
  | 0=>simp only[World.cell?,F];simpa using B _ _ k
  | j+1=>simp at c
 ·match j with
  | 0=>simp at c;subst c;exact .v (ge.1 h v (co k))
  | j+1=>simp at c
def gU(c:UInt8):List D:=[.v (.int .u8 c.toNat)]
def Fo(c:UInt8):List C:=[.d (.v (.int .u8 c.toNat))]
class UW (P:Program) (t:TypeId):Prop where
 out:∃e,P.underlying t=some (.slice e)/\P.underlying e=some (.int .u8)
theorem JX{src dst:TypeId}(hs:UW P src)(a:DE P dst)(w:World):(convert src dst (.slice none 0 0)).run P w=.ok (.string ⟨#[]⟩) w:=by
 obtain⟨e,c,b⟩:=hs.out;exact run_convert_bytes_nil w src e c b 0 0 dst a.out
theorem Rr{src dst:TypeId}{x:Operand}{rows:List (List D)}(bs:List UInt8)[hs:UW P src][r:DE P dst](y:ev f x=some (.o (.d (.l rows))))(n:rows=bs.map gU) :
 A1 P TB Γ ⟨d,.convert src dst x,ty,pos,af,g⟩ f σ nx (.o (.d (.v (.string ⟨bs.toArray⟩)))):=
 AI λV ρ J _=>by
  have p:=J.get (by simp[Op.operands]) y;generalize z:ρ x=v at p;refine⟨.string ⟨bs.toArray⟩,?_,.d (.v rfl)⟩;have B:execOp ρ ⟨d,.convert src dst x,ty,pos,af,g⟩=(do let v <-convert src dst (ρ x);pure (.value v)):=rfl;rw[B,z];obtain⟨p⟩:=p
  cases p with
  | nil=>
   have:bs=[]:=by simpa using n.symm
   subst this;simp[JX hs r,go_sem]
  | @e a cap I=>
   have:bs=[]:=by simpa using n.symm
   subst this;obtain⟨e,s,i⟩:=hs.out
   have h:=run_convert_bytes_back (P:=P) V.w src dst e a cap [] s i r.out λj q=>by simp at q
   have h:(convert src dst (.slice (some a) 0 cap)).run P V.w=_:=h;simp[h,go_sem]
  | @l _ b o k cap vs hb I K H G F=>
   obtain⟨e,s,i⟩:=hs.out
   have A:rows.length=bs.length:=by rw[n];simp
   have h:=run_convert_bytes_back (P:=P) V.w src dst e ⟨b,o,none⟩ cap bs s i r.out λj q=>by
    have c:rows[j]?=some (gU bs[j]):=by rw[n];simp[q]
    have m:=G j _ 0 _ c rfl;have u:=F j _ 0 _ c rfl;have hk:k=1:=(H j _ c).symm;subst hk;rw[BD];have t:vs j 0=.int .u8 (bs[j].toNat:Int):=u.val;rw[t]at m
    simpa using m
   rw[A];simp[h,go_sem]
theorem Rq{src dst:TypeId}{x:Operand}{id off len:Nat}{T:TypeId}{rows:List (List C)}(bs:List UInt8)[hs:UW P src][t:DE P dst](y:ev f x=some (.o (.arr id 1 off len)))(A:look σ id=some (.cells T 1 rows))
 (B:off+len<=rows.length) (r:(rows.drop off).take len=bs.map Fo):A1 P TB Γ ⟨d,.convert src dst x,ty,pos,af,g⟩ f σ nx (.o (.d (.v (.string ⟨bs.toArray⟩)))):=
 AI λV ρ J hi=>by
  have i:=J.get (by simp[Op.operands]) y;generalize z:ρ x=v at i;refine⟨.string ⟨bs.toArray⟩,?_,.d (.v rfl)⟩;have F:execOp ρ ⟨d,.convert src dst x,ty,pos,af,g⟩=(do let v <-convert src dst (ρ x);pure (.value v)):=rfl;rw[F,z]
  have b:bs.length=len:=by
   have:=congrArg List.length r;simp at this;omega
  have i:AF V (.arr id 1 off len) v:=i
  cases i with
  | nil H G=>
   have:bs=[]:=lL.1 b;subst this;simp[JX hs t,go_sem]
  | arr H k G=>
   rcases hi.st.obj id _ A with ⟨l,_⟩|⟨_,cur,l,M,L,K,I,q⟩
   ·exact absurd l k
   ·obtain⟨e,p,n⟩:=hs.out
    subst b
    have m:=run_convert_bytes_back (P:=P) V.w src dst e ⟨V.ρ id,off*1,none⟩ (V.cap id-off) bs p n t.out λj s=>by
     have h:rows[off+j]?=some (Fo bs[j]):=by
      have a:((rows.drop off).take bs.length)[j]?=some (Fo bs[j]):=by rw[r];simp[s]
      rw[lW,if_pos s,lY]at a;exact a
     obtain⟨u,a,c⟩:=q _ _ 0 _ h rfl;have c:=c.val;subst c;rw[BD]
     simpa[World.cell?,l]using a
    rw[lK,m];rfl
end
inductive Ys (e:D):D->Prop
 | refl:Ys e e
 | l {rows:List (List D)} {i j:Nat} {r:List D} {x:D}:rows[i]?=some r->r[j]?=some x->Ys e x->Ys e (.l rows)
 | p {cs:List D} {j:Nat} {x:D}:cs[j]?=some x->Ys e x->Ys e (.p cs)
theorem Ys.len{I:Nat->Prop}{w:World}{rows:List (List D)}{d:D}(h:Ys (.l rows) d):∀ {v:Value},Dj I w d v->rows.length<=maxLen:=by
 induction h with
 | refl=>
  intro v h
  cases h with
  | nil=>simp
  | e=>simp
  | l _ i f=>omega
 | l c b _ a=>
  intro v h
  cases h with
  | nil=>simp at c
  | e=>simp at c
  | l _ _ _ _ _ g=>exact a (g _ _ _ _ c b)
 | p b _ a=>
  intro v h
  cases h with
  | p _ _ f=>exact a (f _ _ b)
def jI(d:D):E->Prop
 | .o (.d x)=>Ys d x
 | .a cs=>∃(j:Nat) (x:D),cs[j]?=some (.d x)/\Ys d x
 | _=>False
theorem jI.len{V:View}{rows:List (List D)}{e:E}{v:Value}(h:jI (.l rows) e)(b:Bd V e v):rows.length<=maxLen:=by
 cases e with
 | o c=>
  cases c with
  | d x=>cases b with|d b=>exact Ys.len h b
  | _=>exact h.elim
 | a cs=>
  obtain⟨j,x,g,i⟩:=h;obtain⟨vs,_,n,m⟩:=b
  have f:j<vs.size:=by rw[n];exact(am.1 g).1
  cases m j _ _ g (lI f) with
  | d k=>exact Ys.len i k
 | t=>exact h.elim
 | e=>exact h.elim
theorem Aj.bound{P:Program}{TB:BA}{Γ:Ctx}{N:Nat}{c:Code}{Q:Exit->Env->Ab->Nat->Prop}{f:Env}{σ:Ab}{nx:Nat}(t:Nat){e:E}(ht:f t=some e)
 (h:(∀rows,jI (.l rows) e->rows.length<=9223372036854775807)->Aj P TB Γ N c Q f σ nx):Aj P TB Γ N c Q f σ nx:=by
 intro V a b;exact h (λrows hi=>hi.len (b.env t e ht)) V a b
section
variable {P:Program}{TB:BA}{Γ:Ctx}{ops:Array Oper}{fl:Fl}{i n:Nat}{L:List (Nat×E)}{σ:Ab}{nx:Nat}{K:Env->Ab->Nat->Prop}{d:Option Tmp}{ty:TypeId}{pos:String}{af:Array Edge}{g:Option (Nat×Bool)}
theorem ij(id k:Nat)(o:O)(r:Ab):kill id ((k,o)::r)=if k=id then kill id r else (k,o)::kill id r:=by
 simp only[kill];by_cases h:k=id
 ·subst h;simp
 ·have:Nat.beq k id=false:=by
   cases hb:Nat.beq k id
   ·rfl
   ·exact absurd (gc hb) h
  rw[this,cond_false,if_neg h]
end
end Go.Am
namespace Go.Am
theorem cX:((∀r f,C9 r f []=True)/\(∀r f t e L,C9 r f ((t,e)::L)=(f t=some (e.A3 r)/\C9 r f L))/\(∀r σ,AM r σ []=True)/\(∀r σ id o L,AM r σ ((id,o)::L)=(look σ (r id)=some (o.A3 r)/\AM r σ L)))/\
 ((∀(α:Type) (k:Nat) (x:α) (r:List (Nat×α)) (i:Nat),look ((k,x)::r) i=if k=i then some x else look r i)/\(∀l nx i,nm l nx i=match l[i]? with|some j=>j|none=>nx+i)/\(∀l nx i,HO l nx i=match l[i]? with|some j=>j|none=>nx+(i-l.length)))/\
 ((∀r c,E.A3 r (.o c)=.o (C.A3 r c))/\(∀r cs,E.A3 r (.a cs)=.a (C.Ch r cs))/\(∀r xs,E.A3 r (.t xs)=.t (xs.map λx=>(x.1,C.Ch r x.2)))/\(∀r,E.A3 r .e=.e))/\
 ((∀r x,C.A3 r (.d x)=.d x)/\(∀r id k off len,C.A3 r (.arr id k off len)=.arr (r id) k off len)/\(∀r id k i j,C.A3 r (.ptr id k i j)=.ptr (r id) k i j)/\(∀r f cap,C.A3 r (.fn f cap)=.fn f (C.Ch r cap))/\(∀r id,C.A3 r (.mp id)=.mp (r id))/\(∀r f l,C.A3 r (.mv f l)=.mv f (C.Ch r l))/\(∀r,C.Ch r []=[])/\(∀r c l,C.Ch r (c::l)=C.A3 r c::C.Ch r l))/\
 ((∀r T k rows,O.A3 r (.cells T k rows)=.cells T k (rows.map (C.Ch r)))/\(∀r es,O.A3 r (.mp es)=.mp es)/\(∀r T l,O.A3 r (.sld T l)=.sld T l)/\(∀r,Ab.A3 r []=[])/\(∀r i o σ,Ab.A3 r ((i,o)::σ)=(r i,o.A3 r)::Ab.A3 r σ))/\
 ((∀id,kill id []=[])/\(∀id k o r,kill id ((k,o)::r)=if k=id then kill id r else (k,o)::kill id r)/\(∀σ,BW [] σ=σ)/\(∀id r σ,BW (id::r) σ=BW r (kill id σ)))/\
 ((∀z,Bt [] z=z)/\(∀off cs r z,Bt ((off,cs)::r) z=Bt r (Ae z off cs))/\(∀r j cs,Ae r j cs=r.take j++cs++r.drop (j+cs.length))/\(∀c,eC (.o c)=[c])/\(∀cs,eC (.a cs)=cs)/\(∀xs,eC (.t xs)=[])/\eC .e=[.d (.l [])])/\
 (∀k,Cb k []=[])/\(∀k e l,Cb k (e::l)=(k,e)::Cb (k+1) l)/\∀(α β δ:Type) (f:β->δ) (g:α->β),f∘g=λx=>f (g x):=by
 refine⟨⟨λ_ _=>rfl,λ_ _ _ _ _=>rfl,λ_ _=>rfl,λ_ _ _ _ _=>rfl⟩,⟨λ_=>Ax,λ_ _ _=>rfl,λ_ _ _=>rfl⟩,⟨λ_ _=>rfl,λ_ _=>rfl,λ_ _=>rfl,λ_=>rfl⟩,⟨λ_ _=>by simp[C.A3],λ_ _ _ _ _=>by simp[C.A3],λ_ _ _ _ _=>by simp[C.A3],λ_ _ _=>by simp[C.A3],λ_ _=>by simp[C.A3],λ_ _ _=>by simp[C.A3],λ_=>by simp[C.Ch],λ_ _ _=>by simp[C.Ch]⟩,⟨λ_ _ _ _=>rfl,λ_ _=>rfl,λ_ _ _=>rfl,λ_=>rfl,λ_ _ _ _=>rfl⟩,⟨λ_=>rfl,λ_ _ _ _=>ij _ _ _ _,λ_=>rfl,λ_ _ _=>rfl⟩,⟨λ_=>rfl,λ_ _ _ _=>rfl,λ_ _ _=>rfl,λ_=>rfl,λ_=>rfl,λ_=>rfl,rfl⟩,λ_=>rfl,λ_ _ _=>rfl,λ_ _ _ _ _=>rfl⟩
def jE:List Nat->Bool
 | []=>true
 | x::r=>!(r.any (Nat.beq x)) && jE r
theorem Zx:∀ {l:List Nat},jE l=true->l.Nodup
 | [],_=>kw
 | x::r,h=>by
  simp only[jE,d4,nc,List.any_eq_false]at h;exact List.nodup_cons.2 ⟨λa=>h.1 x a (oN x),Zx h.2⟩
def jY(l:List Nat)(m:Nat):Bool:=(List.range m).all (λi=>l[i]? == some i) && jE l
theorem cA{α:Type}{a:α}{l m:List α}:a::l++m=a::(l++m):=rfl
theorem cB{α:Type}{m:List α}:[]++m=m:=rfl
theorem rl{l:List Nat}{m k:Nat}(h:k=m)(a:jY l m=true):(∀i,i<k->l[i]?=some i)/\l.Nodup:=by
 subst h;unfold jY at a;rw[d4,ge]at a;exact⟨λi hi=>by simpa using a.1 i (lS.2 hi),Zx a.2⟩
theorem GX{l:List Nat}{m k n:Nat}(h:k=m)(a:jY l m=true)(b:l.length=n):(∀i,i<k->l[i]?=some i)/\l.Nodup/\l.length=n:=⟨(rl h a).1,(rl h a).2,b⟩
theorem rg{m k n:Nat}(h:k=m)(a:Nat.ble m n=true):(∀i,i<k->(List.range n)[i]?=some i)/\(List.range n).Nodup/\(List.range n).length=n:=by
 subst h;have:=ce a;exact⟨λi hi=>nB (by omega),List.nodup_range,List.length_range⟩
def Jw(V:View)(m:Nat):View:={ V with nx:=m }
theorem VE{V:View}{m:Nat}(h:m<=V.nx):Ext (Jw V m) V:=⟨λ_ h=>h,λ_ _=>rfl,i9 _,λ_ _=>rfl,λ_ _=>rfl,λ_ _=>Iff.rfl,h⟩
theorem bk{V V1:View}{l:List Nat}{m:Nat}(d:m<=l.length)(e:Ext (Jw (V.A3 (nm l V.nx) l.length) m) V1):Ext (V.A3 (nm (l.take m) V.nx) (l.take m).length) V1:=by
 have c:(l.take m).length=m:=by rw[nR];exact Nat.min_eq_left d
 have b:∀id,id<m->nm (l.take m) V.nx id=nm l V.nx id:=λid a=>by
  unfold nm;rw[lW,if_pos a]
 refine⟨e.i,e.heap,e.size,λid a=>?_,λid a=>?_,λid a=>?_,by show (l.take m).length<=_;rw[c];exact e.nx⟩
 ·have a:id<m:=by have:id<(l.take m).length:=a;omega
  show _=V.ρ (nm (l.take m) V.nx id)
  rw[b id a];exact e.ρ id a
 ·have a:id<m:=by have:id<(l.take m).length:=a;omega
  show _=V.cap (nm (l.take m) V.nx id)
  rw[b id a];exact e.cap id a
 ·have a:id<m:=by have:id<(l.take m).length:=a;omega
  show _↔V.nl (nm (l.take m) V.nx id)
  rw[b id a];exact e.nl id a
section
variable (P:Program)(TB:BA)
def AH(g:FuncId)(m:Nat)(σ:Ab)(nx:Nat)(args:List E)(post:E->Ab->Nat->Prop):Prop:=
 Yv P g/\∀V vs S,Good TB V σ nx S->MB V args vs->Calls P g vs V.w λe w'=>∃V' v x σ',e=.returned v/\V'.w=w'/\Inv TB (EN V (Jw V m) σ S) V' σ'/\Bd V' x v/\post x σ' V'.nx
end
section
variable {P:Program}{TB:BA}{Γ:Ctx}{d:Option Tmp}{ty:TypeId}{pos:String}{af:Array Edge}{g:Option (Nat×Bool)}{f:Env}{σ:Ab}{nx:Nat}{N:Nat}
variable {K:E->Ab->Nat->Prop}
theorem WV{V V1:View}{l:List Nat}{m:Nat}{y A:Ab}(h:Inv TB Γ V σ)(hl:∀i∈l,i<V.nx)(hS:AM (nm l V.nx) σ y)(hm:m<=l.length)
 {S:RO} (M:MD TB V σ S) (hSJ:∀b,S.J b->Γ.J b\/Γ.V.w.heap.size<=b\/Γ.F b) (K:∀b,S.B b->Γ.V.w.heap.size<=b\/Γ.F b)
 (u:Inv TB (EN (V.A3 (nm l V.nx) l.length) (Jw (V.A3 (nm l V.nx) l.length) m) y S) V1 A) :
 Inv TB Γ (GL V V1 (l.take m)) (A.A3 (HO (l.take m) V.nx)++BW l σ)/\Ext V (GL V V1 (l.take m))/\TG V1 (GL V V1 (l.take m)) (HO (l.take m) V.nx):=by
 have hx:=bk hm u.ext;have v:=Jk (l:=l.take m) (λi hi=>hl i (ma hi)) hx;have hlen:(l.take m).length<=V1.nx:=hx.nx;have hsz:V.w.heap.size<=V1.w.heap.size:=u.ext.size
 have G:∀b,Du (V.A3 (nm l V.nx) l.length) y b->∃i o,i∈l/\look σ i=some o/\¬V.nl i/\En V i o b:=by
  rintro b ⟨j,o,hj,R,hb⟩;have a:=hS.get j o hj;have g:=PN (h.st.lt _ _ a);have d:=Fk (nx:=V.nx) g;refine⟨l[j],o.A3 _,l7 g,by rw[<-d];exact a,?_,?_⟩
  ·have:¬V.nl (nm l V.nx j):=R
   rwa[d]at this
  ·have c:=BB.1 hb
   rwa[d]at c
 have H:∀b,Du (V.A3 (nm l V.nx) l.length) y b->b<V.w.heap.size/\¬V.I b/\(Γ.V.w.heap.size<=b\/Γ.F b):=by
  intro b hb;obtain⟨i,o,_,g,d,c⟩:=G b hb;exact⟨(h.st.obj i o g).blt d c,h.st.free i o g d b c,h.live i o g d b c⟩
 have t:∀i o,i∉l->look σ i=some o->¬V.nl i->∀b,En V i o b->¬Du (V.A3 (nm l V.nx) l.length) y b:=by
  intro i o hi s R b hb U;obtain⟨j,o',g,d,c,h6⟩:=G _ U;exact h.st.inj j i o' o d s (λe=>hi (e▸g)) c R b h6 hb
 have P:∀b,b<V.w.heap.size->¬Du (V.A3 (nm l V.nx) l.length) y b->¬S.B b->V1.w.heap[b]?=V.w.heap[b]?:=λb hb U hB=>u.old b hb λh=>h.elim U hB
 have e:Ext V (GL V V1 (l.take m)):=by
  refine⟨λb hb=>u.ext.i b hb,λb hb=>u.ext.heap b hb,hsz,λi hi=>?_,λi hi=>?_,λi hi=>?_,Nat.le_add_right _ _⟩
  ·show (if _ then _ else _)=_;rw[if_pos hi]
  ·show (if _ then _ else _)=_;rw[if_pos hi]
  ·show (if _ then _ else _)↔_;rw[if_pos hi]
 have f:∀i o,look (A.A3 (HO (l.take m) V.nx)++BW l σ) i=some o->(∃j p,j<V1.nx/\HO (l.take m) V.nx j=i/\look A j=some p/\o=p.A3 (HO (l.take m) V.nx))\/(i∉l/\i<V.nx/\look σ i=some o):=by
  intro i o s
  rcases Cm s with a|a
  ·obtain⟨j,p,g,d,c⟩:=N0 a
   exact .inl ⟨j,p,u.st.lt j p d,g,d,c⟩
  ·obtain⟨g,d⟩:=A0 l σ i o a
   exact .inr ⟨g,h.st.lt i o d,d⟩
 have n:∀i,i<V.nx->((GL V V1 (l.take m)).nl i↔V.nl i):=λi hi=>e.nl i hi
 have Q:∀j p,look A j=some p->¬V1.nl j->∀i o,i∉l->look σ i=some o->¬V.nl i->∀b,En V1 j p b->¬En V i o b:=by
  intro j p hj hnj i o hi s T b hb q
  rcases u.live j p hj hnj b hb with a|a
  ·have:=(h.st.obj i o s).blt T q
   have a:V.w.heap.size<=b:=a;omega
  ·rcases a with a|a
   ·exact t i o hi s T b q a
   ·exact M.ap b ⟨i,o,s,T,q⟩ a
 refine⟨⟨u.os.trans h.os,u.tape.trans h.tape,u.output.trans h.output,?_,u.iLt,?_,h.ext.trans e,⟨?_,?_,?_,?_⟩,?_,u.tabs,?_⟩,e,v⟩
 ·intro b hb U
  have:¬Du (V.A3 (nm l V.nx) l.length) y b:=λq=>by
   rcases(H b q).2.2 with a|a
   ·omega
   ·exact U a
  exact(P b (lG hb h.ext.size) this λhx=>(K b hx).elim (λh=>by omega) U).trans (h.old b hb U)
 ·intro b hb
  rcases u.iNew b hb with a|a|a
  ·exact h.iNew b a
  ·exact .inr (.inl (lm h.ext.size a))
  ·exact .inr (a.elim (λa=>(H b a).2.2) (K b))
 ·intro i o s
  rcases f i o s with ⟨j,p,a,rfl,d,rfl⟩|⟨a,g,d⟩
  ·exact(u.st.obj j p d).push v a
  ·exact(h.st.obj i o d).AR e g λx b hb=>P _ ((h.st.obj i o d).blt x hb) (t i o a d x b hb) (M.ap b ⟨i,o,d,x,hb⟩)
 ·intro i o s
  rcases f i o s with ⟨j,p,a,rfl,d,rfl⟩|⟨a,g,d⟩
  ·exact v.lt j a
  ·exact lG g e.nx
 ·intro i o s x b hb hI
  rcases f i o s with ⟨j,p,a,rfl,d,rfl⟩|⟨a,g,d⟩
  ·exact u.st.free j p d (λh=>x ((v.nl j a).2 h)) b ((CA v a).1 hb) hI
  ·have k:¬V.nl i:=λh=>x ((n i g).2 h)
   have hb:=(AA e g).1 hb
   rcases u.iNew _ hI with c|c|c
   ·exact h.st.free i o d k b hb c
   ·have:=(h.st.obj i o d).blt k hb
    have c:V.w.heap.size<=b:=c;omega
   ·rcases c with c|c
    ·exact t i o a d k b hb c
    ·exact M.ap b ⟨i,o,d,k,hb⟩ c
 ·intro i i' o o' s ho' Y x k b hb q
  rcases f i o s with ⟨j,p,a,rfl,d,rfl⟩|⟨a,g,d⟩<;>rcases f i' o' ho' with ⟨j',X,z,rfl,L,rfl⟩|⟨z,N,L⟩
  ·exact u.st.inj j j' p X d L (λe=>Y (by rw[e])) (λh=>x ((v.nl j a).2 h)) (λh=>k ((v.nl j' z).2 h)) b ((CA v a).1 hb) ((CA v z).1 q)
  ·exact Q j p d (λh=>x ((v.nl j a).2 h)) i' o' z L (λh=>k ((n i' N).2 h)) b ((CA v a).1 hb) ((AA e N).1 q)
  ·exact Q j' X L (λh=>k ((v.nl j' z).2 h)) i o a d (λh=>x ((n i g).2 h)) b ((CA v z).1 q) ((AA e g).1 hb)
  ·exact h.st.inj i i' o o' d L Y (λh=>x ((n i g).2 h)) (λh=>k ((n i' N).2 h)) b ((AA e g).1 hb) ((AA e N).1 q)
 ·intro i o s x b hb
  rcases f i o s with ⟨j,p,a,rfl,d,rfl⟩|⟨a,g,d⟩
  ·rcases u.live j p d (λh=>x ((v.nl j a).2 h)) b ((CA v a).1 hb) with c|c
   ·exact .inl (lm h.ext.size c)
   ·exact c.elim (λc=>(H _ c).2.2) (K b)
  ·exact h.live i o d (λh=>x ((n i g).2 h)) b ((AA e g).1 hb)
 ·obtain⟨S1,Z,k2,k3⟩:=u.hid
  refine⟨S1,⟨Z.r,Z.ji,Z.bi,λb ⟨i,o,s,x,hb⟩ hB=>?_⟩,λb hb=>?_,λb hb=>?_⟩
  ·rcases f i o s with ⟨j,p,a,rfl,d,rfl⟩|⟨a,g,d⟩
   ·exact Z.ap b ⟨j,p,d,λh=>x ((v.nl j a).2 h),(CA v a).1 hb⟩ hB
   ·have k:¬V.nl i:=λh=>x ((n i g).2 h)
    have hb:=(AA e g).1 hb
    rcases k3 b hB with c|c|c
    ·have:=(h.st.obj i o d).blt k hb
     have c:V.w.heap.size<=b:=c;omega
    ·exact t i o a d k b hb c
    ·exact M.ap b ⟨i,o,d,k,hb⟩ c
  ·rcases k2 b hb with c|c|c|c
   ·exact hSJ b c
   ·exact .inr (.inl (lm h.ext.size c))
   ·exact .inr (H _ c).2.2
   ·exact .inr (K b c)
  ·rcases k3 b hb with c|c|c
   ·exact .inl (lm h.ext.size c)
   ·exact(H _ c).2.2
   ·exact K b c
theorem BR{x:Operand}{args:Array Operand}{tys:Array TypeId}{gg:FuncId}{cap:List C}{es M:List E}{t:Ab}{n0:Nat}{post:E->Ab->Nat->Prop}(l:List Nat)(hx:ev f x=some (.o (.fn gg cap)))(T:I6 f args.toList=some es)
 (m:Nat) (hs:AH P TB gg m t n0 M post) (hm:m<=n0) (hl:l.length=n0/\l.Nodup/\∀i∈l,i<nx) (ha:es++cap.map .o=Ey (nm l nx) M) (L:AM (nm l nx) σ t)
 (hK:∀x0 s B,post x0 s B->m<=B->K (x0.A3 (HO (l.take m) nx)) (s.A3 (HO (l.take m) nx)++BW l σ) (nx+(B-m))) :
 Cr P TB Γ ⟨d,.call ⟨.value x,args,tys⟩,ty,pos,af,g⟩ f σ nx K:=by
 obtain⟨hl0,hn,u⟩:=hl;subst hl0;intro V a Y A X;subst X;have Y:=Y.GN;unfold Oper.wp;generalize a.eval=ρ at Y |-;obtain⟨vs,w,z⟩:=NG (Y.get (x:=x) (by simp[Op.operands,Call.operands]) hx);rw[JT hs.1 w];have U:=CJ T
 have h:MB V (es++cap.map .o) (args.map ρ++vs):=by
  refine⟨by simp[z.1,U],λj e v H w=>?_⟩
  have F:(args.map ρ).size=es.length:=by simp[U]
  by_cases u:j<es.length
  ·rw[d9 u]at H
   rw[lR (by rw[F];exact u)]at w;exact GJ (λy hy e Z=>Y.get (by simp[Op.operands,Call.operands];right;simpa using hy) Z) T j e v H (by rw[<-nz];simpa using w)
  ·rw[f9 (by omega)]at H
   rw[mH (by rw[F];omega),F]at w;simp only[io,d6]at H;obtain⟨c,hc,rfl⟩:=H;exact z.2 _ c v hc w
 have hr:∀id,nm l V.nx id<V.nx->id<l.length:=λid=>PN
 have J:MB (V.A3 (nm l V.nx) l.length) M (args.map ρ++vs):=by
  rw[ha]at h;refine⟨by rw[h.1,Hu],λj e v H w=>?_⟩;exact(h.2 j (e.A3 (nm l V.nx)) v (by rw[LJ,H];rfl) w).A3 hr
 have n:∀id o,look t id=some o->id<l.length:=λid o q=>hr id (A.st.lt _ _ (L.get id o q));obtain⟨S,p,hSJ,hSB⟩:=A.hid
 have I:Good TB (V.A3 (nm l V.nx) l.length) t l.length S:=by
  refine⟨A.iLt,⟨λid o q=>Ci.A3 hr (A.st.obj _ _ (L.get id o q)),n,λid o q k b hb=>A.st.free _ _ (L.get id o q) k b (BB.1 hb),?_⟩,A.tabs,rfl,⟨p.r,p.ji,p.bi,λb ⟨id,o,q,k,hb⟩=>p.ap b ⟨_,_,L.get id o q,k,BB.1 hb⟩⟩⟩;intro id id' o o' q N hne k Q b hb hb';refine A.st.inj _ _ _ _ (L.get id o q) (L.get id' o' N) ?_ k Q b (BB.1 hb) (BB.1 hb');have X:=n id o q;have h4:=n id' o' N;rw[Fk X,Fk h4];intro Z;have hp:=lN.1 hn
  rcases nD hne with h5|h5
  ·exact hp _ _ X h4 h5 Z
  ·exact hp _ _ h4 X h5 Z.symm
 refine(hs.2 _ _ S I J).mono ?_;rintro e w' ⟨V1,v,x1,s,rfl,rfl,R,hx1,G⟩;obtain⟨hi',he',hp'⟩:=WV A u L hm p hSJ hSB R
 have hlm:(l.take m).length=m:=by rw[nR];exact Nat.min_eq_left hm
 have hnx:(GL V V1 (l.take m)).nx=V.nx+(V1.nx-m):=by show V.nx+(V1.nx-(l.take m).length)=_;rw[hlm]
 have hk:=hK x1 s V1.nx G R.ext.nx;rw[<-hnx]at hk;exact⟨GL V V1 (l.take m),v,x1.A3 (HO (l.take m) V.nx),_,rfl,rfl,he',hi',hx1.push hp',hk⟩
end
section
variable {P:Program}{TB:BA}{Γ:Ctx}{d:Option Tmp}{ty:TypeId}{pos:String}{af:Array Edge}{g:Option (Nat×Bool)}{f:Env}{σ:Ab}{nx:Nat}
variable {K:E->Ab->Nat->Prop}
theorem Uw{s t:TypeId}{k:IntKind}{x:Operand}{n:Int}[hs:Ji P s k][ht:DE P t](b:ev f x=some (eI k n))(l:0<=n)(j:n<128):A1 P TB Γ ⟨d,.convert s t x,ty,pos,af,g⟩ f σ nx (eT [UInt8.ofNat n.toNat]):=
 AI λV ρ a _=>⟨.string ⟨#[UInt8.ofNat n.toNat]⟩,by
  have i:ρ x=.int k n:=AF.val (a.get (by simp[Op.operands]) b)
  have h:Utf8.valid n=true:=by simp[Utf8.valid];omega
  have e:n.toNat<128:=by omega
  have c:Utf8.encode n=⟨#[UInt8.ofNat n.toNat]⟩:=by simp[Utf8.encode,h,e]
  simp[execOp,i,convert,run_underlying hs.out,run_underlying ht.out,Conv.intToString,c,go_sem],.d (.v rfl)⟩
def bS(f:Env):Option Operand->Option (Option (IntKind×Int))
 | none=>some none
 | some x=>match ev f x with
  | some (.o (.d (.v (.int k m))))=>some (some (k,m))
  | _=>none
theorem MR{o:Oper}{V:View}{ρ:Operand->Value}(e:LZ V o f ρ){x:Option Operand}{b:Option (IntKind×Int)}(a:∀y,x=some y->y∈o.op.operands)(h:bS f x=some b):x.map ρ=b.map λp=>.int p.1 p.2:=by
 cases x with
 | none=>injection h with h;subst h;rfl
 | some y=>
  unfold bS at h;simp only at h;split at h
  ·rename_i k m c
   injection h with h
   subst h;have d:ρ y=.int k m:=AF.val (e.get (a y rfl) c);simp[d]
  ·cases h
def Mn:Option (IntKind×Int)->Int
 | none=>0
 | some p=>p.2
def Mk(n:Nat):Option (IntKind×Int)->Int
 | none=>n
 | some p=>p.2
theorem Nn{isS:Bool}{len cap:Nat}{lo hi:Option (IntKind×Int)}(b:0<=Mn lo)(e:Mn lo<=Mk len hi)(d:Mk len hi<=len)(c:len<=cap)(w:World) :
 (Instr.sliceBounds isS len cap (lo.map λp=>.int p.1 p.2) (hi.map λp=>.int p.1 p.2) none).run P w=.ok ((Mn lo).toNat,(Mk len hi).toNat,cap) w:=by
 cases lo with
 | none=>
  cases hi with
  | none=>simp[Instr.sliceBounds,Mn,Mk,go_sem]
  | some h=>
   simp only[Mn,Mk] at *;simp[Instr.sliceBounds,run_sliceBound w h.1 h.2 cap _ (by omega) (by omega),Mn,Mk,go_sem]
 | some l=>
  cases hi with
  | none=>
   simp only[Mn,Mk] at *;simp[Instr.sliceBounds,run_sliceBound w l.1 l.2 len _ (by omega) (by omega),Mn,Mk,go_sem]
  | some h=>
   simp only[Mn,Mk] at *;simp[Instr.sliceBounds,run_sliceBound w h.1 h.2 cap _ (by omega) (by omega),run_sliceBound w l.1 l.2 h.2.toNat _ (by omega) (by omega),Mn,Mk,go_sem];intro a;have:=a b;omega
theorem UE{t:TypeId}(ht:P.underlying t=some .string){s:ByteArray}{lo hi:Option Value}{l h m:Nat}{w:World}(hb:(Instr.sliceBounds false s.size s.size lo hi none).run P w=.ok (l,h,m) w) :
 (Instr.sliceAt t (.string s) lo hi none).run P w=.ok (.string (s.extract l h)) w:=by
 have a:(Instr.sliceAt t (.string s) lo hi none).run P w=(Instr.slice t (.string s) lo hi none).run P w:=by
  unfold Instr.sliceAt;rw[lK,run_underlying ht,lc]
 rw[a];unfold Instr.slice;rw[lK,run_underlying ht,lc];simp only[Option.isSome_none,nF,if_false];rw[lK];generalize Instr.sliceBounds false s.size s.size lo hi none=sb at hb |-;simp[hb,go_sem]
theorem UD{t e:TypeId}{i:TypeInfo}(c:P.underlying t=some (.slice e))(hi:P.info? e=some i){a:Option Addr}{len cap:Nat}{lo b:Option Value}{l h m:Nat}{w:World}(hb:(Instr.sliceBounds true len cap lo b none).run P w=.ok (l,h,m) w) :
 (Instr.sliceAt t (.slice a len cap) lo b none).run P w=.ok (.slice (if m=l then a else a.map (·.add (l*i.size))) (h-l) (m-l)) w:=by
 have d:(Instr.sliceAt t (.slice a len cap) lo b none).run P w=(Instr.slice t (.slice a len cap) lo b none).run P w:=by
  unfold Instr.sliceAt;rw[lK,run_underlying c,lc]
 rw[d];unfold Instr.slice;rw[lK,run_underlying c,lc];simp only;rw[lK];generalize Instr.sliceBounds true len cap lo b none=sb at hb |-;simp[hb,sizeOf,typeInfo,hi,go_sem]
theorem Rp{t:TypeId}{x:Operand}{lo hi:Option Operand}{s:List UInt8}{l h:Option (IntKind×Int)}[ht:DE P t](i:ev f x=some (eT s))(j:bS f lo=some l)(k:bS f hi=some h)
 (o:0<=Mn l) (n:Mn l<=Mk s.length h) (m:Mk s.length h<=s.length):A1 P TB Γ ⟨d,.slice t x lo hi none,ty,pos,af,g⟩ f σ nx (eT ((s.take (Mk s.length h).toNat).drop (Mn l).toNat)):=
 AI λV ρ c _=>by
  have u:ρ x=.string ⟨s.toArray⟩:=AF.val (c.get (by simp[Op.operands]) i);have r:=MR c (x:=lo) (λy b=>by subst b;simp[Op.operands]) j;have q:=MR c (x:=hi) (λy b=>by subst b;simp[Op.operands]) k
  have a:(⟨s.toArray⟩:ByteArray).size=s.length:=by simp[ByteArray.size]
  have hb:=Nn (P:=P) (isS:=false) (len:=s.length) (cap:=s.length) o n m (i9 _) V.w;refine⟨.string ((⟨s.toArray⟩:ByteArray).extract (Mn l).toNat (Mk s.length h).toNat),?_,?_⟩
  ·rw[<-a]at hb
   have e:=UE ht.out hb;rw[a]at e;simp only[execOp,u,r,q,Option.map_none,lK,e,lc];rfl
  ·have p:((⟨s.toArray⟩:ByteArray).extract (Mn l).toNat (Mk s.length h).toNat)=⟨((s.take (Mk s.length h).toNat).drop (Mn l).toNat).toArray⟩:=by
    apply ByteArray.ext;rw[ByteArray.data_extract];apply Array.toList_inj.1;simp[List.extract_eq_take_drop,List.drop_take]
   rw[p];exact .d (.v rfl)
theorem db{t e:TypeId}{k b:Nat}{x:Operand}{lo hi:Option Operand}{rows:List (List D)}{l h:Option (IntKind×Int)}[G:CM P t e k b](U:ev f x=some (.o (.d (.l rows))))(Z:bS f lo=some l)(hh:bS f hi=some h)(hk:∀r∈rows,r.length=k)
 (h0:0<=Mn l) (h1:Mn l<=Mk rows.length h) (h2:Mk rows.length h<=rows.length):A1 P TB Γ ⟨d,.slice t x lo hi none,ty,pos,af,g⟩ f σ nx (.o (.d (.l ((rows.take (Mk rows.length h).toNat).drop (Mn l).toNat)))):=
 AI λV ρ H _=>by
  have B:=H.get (by simp[Op.operands]) U;have e2:=MR H (x:=lo) (λy F=>by subst F;simp[Op.operands]) Z;have e3:=MR H (x:=hi) (λy F=>by subst F;simp[Op.operands]) hh;generalize X:ρ x=v at B;obtain⟨i,Y,L,hs,_⟩:=GA G.out;generalize I:(Mn l).toNat=lo' at *;generalize M:(Mk rows.length h).toNat=c at *
  have A:lo'<=c/\c<=rows.length:=by omega
  have p:∀(a:Option Addr) (cap:Nat),rows.length<=cap->v=.slice a rows.length cap->(execOp ρ ⟨d,.slice t x lo hi none,ty,pos,af,g⟩).run P V.w=.ok (.value (.slice (if cap=lo' then a else a.map (·.add (lo'*i.size))) (c-lo') (cap-lo'))) V.w:=by
   intro a cap R he;have hb:=Nn (P:=P) (isS:=true) (len:=rows.length) (cap:=cap) h0 h1 h2 R V.w;rw[I,M]at hb;subst he;have s:=UD Y L (a:=a) hb;simp only[execOp,X,e2,e3,Option.map_none,lK,s,lc];rfl
  have z:((rows.take c).drop lo').length=c-lo':=by simp;omega
  obtain⟨B⟩:=B
  cases B with
  | nil=>
   have s:lo'=0/\c=0:=by simp at A;omega
   obtain⟨rfl,rfl⟩:=s;exact⟨_,p none 0 (by simp) rfl,.d .nil⟩
  | @e a cap R=>
   have s:lo'=0/\c=0:=by simp at A;omega
   obtain⟨rfl,rfl⟩:=s;refine⟨_,p (some a) cap (by simp) rfl,?_⟩;by_cases Q:cap=0
   ·rw[if_pos Q];exact .d (.e (by omega))
   ·rw[if_neg Q];exact .d (.e (by omega))
  | @l _ b' o k' cap vs hb s Q S h6 h7=>
   refine⟨_,p (some ⟨b',o,none⟩) cap s rfl,?_⟩;by_cases T:c-lo'=0
   ·have:(rows.take c).drop lo'=[]:=oT (by omega)
    rw[this,T];split
    ·exact .d (.e (by omega))
    ·exact .d (.e (by omega))
   ·have N:¬cap=lo':=by omega
    rw[if_neg N];simp only[nq,BD]
    have J:k'=i.size:=by
     have u:0<rows.length:=by omega
     have e5:=S 0 _ (d5 u);have e6:=hk _ (l7 u);omega
    have m:∀(q:Nat) (r:List D),((rows.take c).drop lo')[q]?=some r->rows[lo'+q]?=some r:=λq r n=>by
     rw[lY,lW]at n;split at n
     ·exact n
     ·cases n
    rw[<-z];refine .d (.l (k:=k') (vs:=λq j=>vs (lo'+q) j) hb (by omega) (by omega) (λq r n=>S _ r (m q r n)) (λq r j dd n K=>?_) (λq r j dd n K=>h7 _ r j dd (m q r n) K));have:=h6 _ r j dd (m q r n) K;rw[<-J]
    have e7:o+lo'*k'+q*k'+j=o+(lo'+q)*k'+j:=by rw[l6];omega
    rw[e7];exact this
theorem aM{t e:TypeId}(ht:P.underlying t=some (.slice e))(a:Option Addr)(n c:Nat)(w:World):(binOp .eql t (.slice a n c) (.slice none 0 0)).run P w=.ok (.bool a.isNone) w:=by
 have h:∀d:Nat,(Op.equalIn (d+1) t (.slice a n c) (.slice none 0 0)).run P w=.ok a.isNone w:=λd=>by
  cases a<;>simp[Op.equalIn,run_underlying ht]
 simp only[binOp];simp[Op.equal,Op.maxDepth,h 9999]
theorem Kq{t e yt:TypeId}{k b:Nat}{x:Operand}{rows:List (List D)}[m:CM P t e k b](q:ev f x=some (.o (.d (.l rows))))(z:∀c,(c=true->rows=[])->K (eB c) σ nx) :
 Cr P TB Γ ⟨d,.binOp .eql t x (.const (.slice none 0 0)) yt,ty,pos,af,g⟩ f σ nx K:=by
 intro V a H G F;subst F;have j:=H.GN.get (x:=x) (by simp[Op.operands]) q;have I:a.eval (.const (.slice none 0 0))=.slice none 0 0:=rfl;obtain⟨i,s,_,_,_⟩:=GA m.out;generalize r:a.eval x=v at j
 have key:∀(p:Option Addr) (n c:Nat),v=.slice p n c->(p.isNone=true->rows=[])->Oper.wp P ⟨d,.binOp .eql t x (.const (.slice none 0 0)) yt,ty,pos,af,g⟩ a V.w (λa' w'=>∃V' v x σ',V'.w=w'/\a'=a.put d v/\Ext V V'/\Inv TB Γ V' σ'/\Bd V' x v/\K x σ' V'.nx) jF:=by
  intro p n c y u;unfold Oper.wp;have A:execOp a.eval ⟨d,.binOp .eql t x (.const (.slice none 0 0)) yt,ty,pos,af,g⟩=(do let v <-(do eqGuard .eql t x (.const (.slice none 0 0)) (a.eval x) (a.eval (.const (.slice none 0 0)));binOp .eql t (a.eval x) (a.eval (.const (.slice none 0 0))));pure (.value v)):=rfl;have B:eqGuard .eql t x (.const (.slice none 0 0)) (.slice p n c) (.slice none 0 0)=pure ():=rfl;rw[A,r,I,y,B];rw[pure_bind,lK,aM s,lc];exact⟨V,.bool p.isNone,eB p.isNone,σ,rfl,rfl,Ext.refl V,G,AF.d (.v rfl),z p.isNone u⟩
 obtain⟨j⟩:=j
 cases j with
 | nil=>exact key none 0 0 rfl λ_=>rfl
 | e=>exact key (some _) 0 _ rfl λh=>by cases h
 | l=>exact key (some _) _ _ rfl λh=>by cases h
def HN(l:List (List UInt8×Int)):List (Value×Value):=l.map λp=>(.string ⟨p.1.toArray⟩,.int .i64 p.2)
def CB(l:List (List UInt8×Int))(s:List UInt8):Option Int:=(l.find? λp=>decide (p.1=s)).map (·.2)
theorem gP(a b:List UInt8):((⟨a.toArray⟩:ByteArray) == ⟨b.toArray⟩)=decide (a=b):=by
 have h:((⟨a.toArray⟩:ByteArray) == ⟨b.toArray⟩)=(a.toArray == b.toArray):=rfl;rw[h,mZ];simp
theorem JY(s:List UInt8):∀(l:List (List UInt8×Int)) (es:List MapEntry) (i:Nat),es.map (λe=>(e.key,e.val))=HN l->∃r,Instr.findNow .string (.string ⟨s.toArray⟩) es i=some r/\r.map (·.2)=(CB l s).map (.int .i64)
 | [],es,i,h=>by
  have:es=[]:=by simpa[HN]using h
  subst this;exact⟨none,rfl,rfl⟩
 | p :: l,es,i,h=>by
  cases es with
  | nil=>simp[HN]at h
  | cons e es=>
   simp only[HN,mP,List.cons.injEq,Prod.mk.injEq]at h;obtain⟨⟨hk,b⟩,c⟩:=h
   have hs:Instr.sameNow .string (.string ⟨s.toArray⟩) e.key=some (decide (s=p.1)):=by
    rw[hk]
    show some ((⟨s.toArray⟩:ByteArray) == ⟨p.1.toArray⟩)=_
    rw[gP]
   unfold Instr.findNow;rw[hs];by_cases a:s=p.1
   ·refine⟨some (i,e.val),by simp[a],?_⟩
    simp[CB,a,b]
   ·obtain⟨r,g,f⟩:=JY s l es (i+1) c
    have d:¬p.1=s:=λe=>a e.symm;refine⟨r,by simp[a,g],?_⟩;rw[f];simp[CB,d]
theorem PM{t:TypeId}(i:K (.o (.mp nx)) ((nx,.mp [])::σ) (nx+1)):Cr P TB Γ ⟨d,.makeMap t none,ty,pos,af,g⟩ f σ nx K:=
 Dp λV ρ l k j=>by
  subst j
  have a:V.w.heap.size<(V.w.alloc (.map #[] 0)).heap.size:=by simp
  obtain⟨hi,h⟩:=k.alloc (c:=0) (nl:=False) (w:=V.w.alloc (.map #[] 0)) (ob:=.mp []) rfl rfl rfl rfl (Nat.le_of_lt a) (λb hb=>Bb V.w _ b hb) (by
   refine⟨by simp[Au],#[],0,?_,rfl⟩
   have e:(Au V V.w.heap.size 0 False (V.w.alloc (.map #[] 0))).ρ V.nx=V.w.heap.size:=by simp[Au]
   rw[e]
   exact Ck V.w (.map #[] 0))
  refine⟨.map (some V.w.heap.size),_,_,_,?_,h,hi,?_,i⟩
  ·have:(Instr.makeMap t none).run P V.w=.ok (.map (some V.w.heap.size)) (V.w.alloc (.map #[] 0)):=rfl
   simp[execOp,this,Au,go_sem]
  ·have:=@AF.mp (Au V V.w.heap.size 0 False (V.w.alloc (.map #[] 0))) V.nx (by simp[Au])
   have e:(Au V V.w.heap.size 0 False (V.w.alloc (.map #[] 0))).ρ V.nx=V.w.heap.size:=by simp[Au]
   rw[e]at this;exact this
class Pn (P:Program) (t:TypeId) (z:outParam Value):Prop where
 out:(P.info? t).bind (·.zero)=some z
class JJ (P:Program) (t:TypeId) (k e:outParam TypeId):Prop where
 out:P.underlying t=some (.map k e)
theorem Jm{k:TypeId}(hk:P.underlying k=some .string)(b:Bool)(s:ByteArray)(w:World):(Instr.checkKey b 10000 k (.string s)).run P w=.ok () w:=by
 rw[show 10000=9999+1 from rfl];unfold Instr.checkKey;simp[run_underlying hk,go_sem]
theorem ZZ{t k e:TypeId}{x y:Operand}{id:Nat}{l:List (List UInt8×Int)}{s:List UInt8}[G:JJ P t k e][hk:DE P k][M:Pn P e (.int .i64 0)](Q:ev f x=some (.o (.mp id)))(N:ev f y=some (eT s))(R:look σ id=some (.mp (HN l))) :
 A1 P TB Γ ⟨d,.lookup t x y true,ty,pos,af,g⟩ f σ nx (.t [(false,[.d (.v (.int .i64 ((CB l s).getD 0)))]),(false,[.d (.v (.bool (CB l s).isSome))])]):=
 AI λV ρ F hi=>by
  have L:=F.get (by simp[Op.operands]) Q;have K:ρ y=.string ⟨s.toArray⟩:=AF.val (F.get (by simp[Op.operands]) N);generalize a:ρ x=v at L
  cases L with
  | mp S =>
   obtain⟨Z,ents,clock,J,U⟩:=hi.st.obj id _ R;obtain⟨r,T,p⟩:=JY s l ents.toList 0 U;have b:=M.out;simp only[lM]at b;obtain⟨i,A,z⟩:=b
   have u:(zeroValue e).run P V.w=.ok (.int .i64 0) V.w:=by simp[zeroValue,typeInfo,A,z,go_sem]
   have h:(Instr.findKey k (.string ⟨s.toArray⟩) ents.toList).run P V.w=.ok r V.w:=by simp[Instr.findKey,run_underlying hk.out,T,go_sem]
   have m:=Jm hk.out ents.isEmpty ⟨s.toArray⟩ V.w;refine⟨.tuple #[.int .i64 ((CB l s).getD 0),.bool (CB l s).isSome],?_,⟨_,rfl,rfl,λj x v c a=>?_⟩⟩
   ·cases r with
    | none=>
     have B:CB l s=none:=by simpa using p.symm
     simp[execOp,a,K,Instr.lookup,run_underlying G.out,MapKept.run_getObj_map J,m,h,u,B,go_sem]
    | some q=>
     obtain⟨n,B,I⟩:∃n,CB l s=some n/\q.2=.int .i64 n:=by
      cases H:CB l s with
      | none=>rw[H]at p;simp at p
      | some n=>rw[H]at p;exact⟨n,rfl,by simpa using p⟩
     obtain⟨Y,X⟩:=q;simp only at I;subst I;simp[execOp,a,K,Instr.lookup,run_underlying G.out,MapKept.run_getObj_map J,m,h,B,go_sem]
   ·match j with
    | 0=>simp at c a;subst c;subst a;exact⟨_,rfl,.d (.v rfl)⟩
    | 1=>simp at c a;subst c;subst a;exact⟨_,rfl,.d (.v rfl)⟩
    | j+2=>simp at c
theorem iv{t k e:TypeId}{x y z:Operand}{id:Nat}{l:List (List UInt8×Int)}{s:List UInt8}{n:Int}[U:JJ P t k e][hk:DE P k](Q:ev f x=some (.o (.mp id)))(N:ev f y=some (eT s))(M:ev f z=some (eI .i64 n))(G:look σ id=some (.mp (HN l)))
 (T:CB l s=none) (H:K (.t []) ((id,.mp (HN (l++[(s,n)])))::σ) nx):Cr P TB Γ ⟨d,.mapUpdate t x y z,ty,pos,af,g⟩ f σ nx K:=by
 intro V a c J h3;have c:=c.GN;unfold Oper.wp;generalize a.eval=ρ at c |-;have L:=c.get (x:=x) (by simp[Op.operands]) Q;have e2:ρ y=.string ⟨s.toArray⟩:=AF.val (c.get (by simp[Op.operands]) N);have e3:ρ z=.int .i64 n:=AF.val (c.get (by simp[Op.operands]) M);generalize R:ρ x=v at L
 cases L with
 | mp Y=>
  obtain⟨m,ents,clock,F,B⟩:=J.st.obj id _ G;obtain⟨r,h6,I⟩:=JY s l ents.toList 0 B;rw[T]at I
  have S:r=none:=by cases r with
   | none=>rfl
   | some q=>simp at I
  subst S
  have u:(Instr.findKey k (.string ⟨s.toArray⟩) ents.toList).run P V.w=.ok none V.w:=by simp[Instr.findKey,run_underlying hk.out,h6,go_sem]
  have A:=Jm hk.out false ⟨s.toArray⟩ V.w
  let ob:Obj:=.map (ents.push { key:=.string ⟨s.toArray⟩,val:=.int .i64 n,born:=clock }) (clock+1)
  let w':World:={ V.w with heap:=V.w.heap.setIfInBounds (V.ρ id) ob }
  have h:=MapKept.run_setObj_map (P:=P) ob F;have p:=(lQ.1 F).1
  obtain⟨hi,Z⟩:=J.write G m (w:=w') (ob':=.mp (HN (l++[(s,n)]))) rfl rfl rfl rfl rfl (by simp[w']) (λb hb=>by simp[w',nk,Ne.symm hb]) (by
   refine⟨m,ents.push { key:=.string ⟨s.toArray⟩,val:=.int .i64 n,born:=clock },clock+1,?_,?_⟩
   ·show w'.heap[V.ρ id]?=some ob
    simp[w',nk,p]
   ·simp[HN]at B |-
    exact B)
  have i:(execOp ρ ⟨d,.mapUpdate t x y z,ty,pos,af,g⟩).run P V.w=.ok .skip w':=by
   simp[execOp,R,e2,e3,Instr.mapUpdate,run_underlying U.out,MapKept.run_getObj_map F,A,u,h,ob,w',go_sem]
  rw[i];exact⟨{ V with w:=w' },.tuple #[],.t [],_,rfl,rfl,Z,hi,⟨#[],rfl,rfl,λj x v X=>by simp at X⟩,by rw[<-h3]at H;exact H⟩
end
section
variable {P:Program}{TB:BA}
def Vp(f:Env)(t:Tmp)(n:Nat):Option (Bool×List C):=match f t with
 | some (.o (.d (.p cs)))=>match Nat.beq cs.length n with
  | true=>some (true,cs.map .d)
  | false=>none
 | _=>none
def ax(n:Nat)(rs:Array ResultVar)(f:Env):Option E:=match rs.toList with
 | [.cell t _]=>match Vp f t n with
  | some (_,cs)=>some (.a cs)
  | none=>none
 | [.cell t _,.tmp u]=>match Vp f t n,(f u).bind LB with
  | some x,some y=>some (.t [x,y])
  | _,_=>none
 | _=>none
def gH(n:Nat)(rs:Array ResultVar)(post:E->Ab->Nat->Prop):Exit->Env->Ab->Nat->Prop
 | .ret,f,σ,nx|.normal,f,σ,nx=>∃x,ax n rs f=some x/\post x σ nx
 | _,_,_,_=>False
theorem Ps{V:View}{f:Env}{a:Act}{t:Tmp}{T':TypeId}{n:Nat}{x:Bool×List C}(l:DB P T' true n)(u:DW V f a.tmps)(h:Vp f t n=some x) :
 ∃v,((do loadVar T' (<-asAddr (a.tmps.getD t undef))):Sem Value).run P V.w=.ok v V.w/\∃cs,x=(true,cs)/\Bd V (.a cs) v:=by
 unfold Vp at h;split at h
 ·rename_i ds s
  split at h
  ·rename_i i
   have i:=gc i
   injection h with h
   subst h;have e:AF V (.d (.p ds)) (a.tmps.getD t undef):=u t _ s;generalize B:a.tmps.getD t undef=A at e;obtain⟨e⟩:=e
   cases e with
   | @p _ b o vs hb z y=>
    refine⟨.agg ((List.range n).map λq=>vs q).toArray,?_,_,rfl,_,rfl,by simp[i],λj c v m g=>?_⟩
    ·have:(loadCells ⟨b,o,none⟩ n).run P V.w=.ok ((List.range n).map λq=>vs q).toArray V.w:=run_loadCells V.w _ n _ λq k=>by
      rw[BD];exact z q ds[q] (d5 (by omega))
     unfold loadCells at this;simp[asAddr,loadVar,(BG l.out V.w).1,(BG l.out V.w).2,this,go_sem]
    ·rw[io,d6]at m
     obtain⟨dd,r,rfl⟩:=m
     have k:j<n:=by have:=(am.1 r).1;omega
     have:v=vs j:=by simpa[k]using g.symm
     subst this;exact .d (y j dd r)
  ·cases h
 ·cases h
theorem ay{fn:Func}{V:View}{f:Env}{a:Act}{x:E}{T':TypeId}{n:Nat}{t:Tmp}(I:DB P T' true n)(p:fn.results.toList.head? = some (.cell t T'))(A:DW V f a.tmps)(h:ax n fn.results f=some x):∃v,(results fn a.tmps).run P V.w=.ok v V.w/\Bd V x v:=by
 have key : ∀ l:List ResultVar,fn.results=l.toArray->l.head? = some (.cell t T')->ax n l.toArray f=some x->∃v,(results fn a.tmps).run P V.w=.ok v V.w/\Bd V x v:=by
  intro l e c h;unfold ax at h;simp only at h;split at h
  ·rename_i m T1
   simp at c;obtain⟨rfl,rfl⟩:=c;split at h
   ·rename_i b cs q
    injection h with h
    subst h;obtain⟨v,G,cs',k,B⟩:=Ps I A q
    injection k with k L
    subst L;refine⟨v,?_,B⟩
    have d:(results fn a.tmps).run P V.w=((do loadVar T1 (<-asAddr (a.tmps.getD m undef))):Sem Value).run P V.w:=by simp[results,e,-Array.getD_eq_getD_getElem?,go_sem]
    rw[d,G]
   ·cases h
  ·rename_i m T1 u
   simp at c;obtain⟨rfl,rfl⟩:=c;split at h
   ·rename_i N M q H
    injection h with h
    subst h;obtain⟨v,G,cs',k,B⟩:=Ps I A q;subst k;simp only[lM]at H;obtain⟨y,J,o⟩:=H;refine⟨.tuple #[v,a.tmps.getD u undef],?_,_,rfl,rfl,λj x v' g i=>?_⟩
    ·obtain⟨F,K,z,s⟩:∃F:ResultVar->Sem Value,results fn a.tmps=(do let vs <-fn.results.mapM F;pure (if h:vs.size=1 then vs[0] else .tuple vs))/\(F (.cell m T1)).run P V.w=.ok v V.w/\(F (.tmp u)).run P V.w=.ok (a.tmps.getD u undef) V.w:=
      ⟨λr=>match r with
       | .tmp t=>pure (a.tmps.getD t undef)
       | .cell b t=>do loadVar t (<-asAddr (a.tmps.getD b undef)),rfl,G,rfl⟩
     rw[K,e];simp[z,s,-Array.getD_eq_getD_getElem?,go_sem]
    ·match j with
     | 0=>simp at g i;subst g;subst i;exact B
     | 1=>simp at g i;subst g;subst i;exact E9 o (by simpa using A u y J)
     | j+2=>simp at g
   ·cases h
  ·cases h
 exact key fn.results.toList (by simp) p (by simpa using h)
theorem AH.ofM {g:FuncId} {fn:Func} {c:Code} {m:Nat} {σ:Ab} {nx:Nat} {args:List E} {post:E->Ab->Nat->Prop} (n:Nat) {t:Tmp} {T':TypeId} (F:m<=nx) [G:DB P T' true n] (s:P.funcs[g]?=some fn) (hb:fn.body=some c) (q:fn.results.toList.head? = some (.cell t T')) (f:(fn.name == "runtime.NumGoroutine")=false)
 (j:args.length<=fn.ntmps) (h:∀Γ:Ctx,Γ.V.nx=m->Aj P TB Γ fn.ntmps c (gH n fn.results post) (look (Cb 0 args)) σ nx):AH P TB g m σ nx args post:=by
 refine⟨⟨fn,s,f,by rw[hb];rfl⟩,?_⟩;intro V vs S hg ha;refine calls_of_wp s hb ?_
 have hs:vs.size<=fn.ntmps:=by rw[ha.1];exact j
 have hi:Inv TB (EN V (Jw V m) σ S) V σ:=
  ⟨rfl,rfl,rfl,λ_ _ _=>rfl,hg.iLt,λ_ h=>.inl h,VE (by rw[hg.nx];exact F),hg.st,λid o B r b hb=>.inr (.inl ⟨id,o,B,r,hb⟩),hg.tabs,⟨S,hg.hid,λb hb=>.inl hb,λb hb=>.inr (.inr hb)⟩⟩
 have z:BS TB (EN V (Jw V m) σ S) fn.ntmps V (look (Cb 0 args)) σ nx { tmps:=vs++Array.replicate (fn.ntmps-vs.size) undef,defers:=[] } := by
  refine⟨?_,?_,by simp;omega,hi,hg.nx,rfl⟩
  ·intro t e p
   obtain⟨_,a⟩:=BX args 0 t e p
   have a:args[t]?=some e:=by simpa using a
   have i:t<vs.size:=by rw[ha.1];exact(am.1 a).1
   have H:=ha.2 t e vs[t] a (lI i)
   simpa[lR i,i]using H
  ·intro t e p
   obtain⟨_,a⟩:=BX args 0 t e p
   have a:args[t]?=some e:=by simpa using a
   have:=(am.1 a).1;omega
 refine wp_mono (h (EN V (Jw V m) σ S) rfl V _ z) ?_;rintro e a' w' ⟨V',f',σ',rfl,k,d⟩
 have fin:(∃x,ax n fn.results f'=some x/\post x σ' V'.nx)->a'.defers=[]/\∃v,(results fn a'.tmps).run P V'.w=.ok v V'.w/\∃V'' v' x σ'',Ending.returned v=.returned v'/\V''.w=V'.w/\Inv TB (EN V (Jw V m) σ S) V'' σ''/\Bd V'' x v'/\post x σ'' V''.nx:=by
  rintro⟨x,u,A⟩;obtain⟨v,y,p⟩:=ay (P:=P) G q d.env u;exact⟨d.defers,v,y,V',v,x,σ',rfl,rfl,d.inv,p,A⟩
 cases e with
 | normal=>exact fin k
 | ret=>exact fin k
 | exit id=>exact k.elim
 | goto l=>exact k.elim
 | panic ch=>exact k.elim
 | outgrown=>exact k.elim
theorem AH.GB{g:FuncId}{σ:Ab}{nx:Nat}{args:List E}{post:E->Ab->Nat->Prop}(h:AH P TB g nx σ nx args post):Spec P TB g σ nx args post:=
 ⟨h.1,λV vs S hg ha=>(h.2 V vs S hg ha).mono λ_ _ ⟨V',v,x,σ',f,e,d,c,b⟩=>⟨V',v,x,σ',f,e,by have a:=hg.nx;subst a;exact d,c,b⟩⟩
end
def AT(s:Int)(n:Nat):Bool:=decide (I7 .i64 (s.fdiv (2 ^ min n 64)) 1=1)
def hasB(s n:Int):Bool:=decide (0<=n) && AT s n.toNat
def Bn(n:Int):Bool:=decide (0<=n/\n<=63)
abbrev iD(n:Int):D:=.v (.int .i64 n)
abbrev bD(b:Bool):D:=.v (.bool b)
abbrev tD(s:List UInt8):D:=.v (.string ⟨s.toArray⟩)
abbrev DJ(n:Int):List D:=[iD n]
abbrev MF(b:Bool):List D:=[bD b]
abbrev FX(s:List UInt8):List D:=[tD s]
abbrev HH(l:List Int):D:=.l (l.map DJ)
abbrev GK(l:List Bool):D:=.l (l.map MF)
abbrev CE(l:List (List UInt8)):D:=.l (l.map FX)
abbrev A8(n:Int):List C:=[.d (iD n)]
abbrev AN(b:Bool):List C:=[.d (bD b)]
abbrev ED(s:List UInt8):List C:=[.d (tD s)]
abbrev Ib(l:List Int):List D:=[HH l]
abbrev Er(l:List (List Int)):D:=.l (l.map Ib)
abbrev Zc(l:List Int):List C:=[.d (HH l)]
structure DM where
 f:Int
 l:Int
 t:Int
 deriving DecidableEq
structure Sys where
 al:Int
 st:Int
 es:List DM
structure A5 where
 al:Int
 nx:List (List Int)
 ac:List Bool
abbrev Dk(e:DM):List D:=[iD e.f,iD e.l,iD e.t]
abbrev A2(e:DM):List C:=[.d (iD e.f),.d (iD e.l),.d (iD e.t)]
abbrev TV(e:DM):E:=.a [.d (iD e.f),.d (iD e.l),.d (iD e.t)]
abbrev DY(l:List DM):D:=.l (l.map Dk)
abbrev Av(s:Sys):List D:=[iD s.al,iD s.st,DY s.es]
abbrev Bi(s:Sys):E:=.a [.d (iD s.al),.d (iD s.st),.d (DY s.es)]
abbrev OH(l:List Sys):D:=.l (l.map Av)
abbrev AU(a:A5):List D:=[iD a.al,Er a.nx,GK a.ac]
abbrev Bp(a:A5):E:=.a [.d (iD a.al),.d (Er a.nx),.d (GK a.ac)]
abbrev AX(l:List Int):E:=.o (.d (HH l))
abbrev Ny(l:List Bool):E:=.o (.d (GK l))
abbrev NA(l:List (List Int)):E:=.o (.d (Er l))
abbrev Fi(l:List (List UInt8)):E:=.o (.d (CE l))
abbrev gZ(l:List DM):E:=.o (.d (DY l))
abbrev GM(l:List Sys):E:=.o (.d (OH l))
def AK(s:Int)(k:Nat):List Int:=((List.range k).filter (AT s)).map Int.ofNat
theorem AQ(s:Int)(k:Nat):(AK s k).length<=k:=by
 unfold AK;rw[f7];exact lm (nr _ _) (by simp)
theorem Dn(s:Int)(k:Nat):AK s (k+1)=AK s k++if AT s k then [(k:Int)] else []:=by
 unfold AK;rw[oO,mO,mE];cases h:AT s k<;>simp[h]
abbrev Ac(s:Int):List Int:=AK s 6
def CI(al st:Int)(e:DM):Bool:=decide (0<=e.f/\e.f<st/\0<=e.t/\e.t<st/\0<=e.l/\e.l<6) && AT al e.l.toNat
def I0(e f:DM):Bool:=if e.f≠f.f then decide (e.f<f.f) else if e.l≠f.l then decide (e.l<f.l) else decide (e.t<f.t)
def Ir(s:Sys)(i:Nat):Bool:=match s.es[i]? with
 | none=>true
 | some e=>CI s.al s.st e && match i with
  | 0=>true
  | j+1=>match s.es[j]? with
   | none=>true
   | some p=>I0 p e
def Ay(s:Sys):Bool:=Bn s.al && decide (1<=s.st/\s.st<=16) && (List.range s.es.length).all (Ir s)
theorem JR{α:Type}{l:List α}{f:α->Bool}{k:Nat}{x:α}(h:l[k]?=some x)(b:(l.take k).all f=true)(a:f x=true):(l.take (k+1)).all f=true:=by
 rw[gt,h];simp[List.all_append,b,a]
theorem MP{α:Type}{l:List α}{f:α->Bool}{k:Nat}{x:α}(h:l[k]?=some x)(a:f x=false):l.all f=false:=by
 rw[List.all_eq_false];exact⟨x,co h,by simp[a]⟩
theorem JO{α:Type}{l:List α}{f:α->Bool}{k:Nat}(h:(l.take k).all f=true)(hk:l.length<=k):l.all f=true:=by
 rwa[lF hk]at h
theorem get_map{α β:Type}{l:List α}{g:α->β}{k:Nat}{x:α}(h:l[k]?=some x):(l.map g)[((k:Nat):Int).toNat]?=some (g x):=by simp[h]
theorem get_some{α:Type}{l:List α}{k:Nat}(h:k<l.length):∃x,l[k]?=some x:=⟨_,d5 h⟩
def Rz(n:Int)(q:Int):Bool:=decide (0<=q/\q<n)
def Ft(ls n:Int)(row:List Int):Bool:=decide ((row.length:Int)=ls) && row.all (Rz n)
def AJ(a:A5):Bool:=Bn a.al && decide (1<=a.nx.length/\a.nx.length<=12) && decide (a.ac.length=a.nx.length) && a.nx.all (Ft (Ac a.al).length a.nx.length)
end Go.Am
namespace Go.Am
abbrev W:=List UInt8
structure A9 where
 rows:List W
 cols:List W
def Uk(b:Bool):UInt8:=if b then 43 else 45
theorem VH{a b:Bool}(h:Uk a=Uk b):a=b:=by cases a<;>cases b<;>first|rfl|(simp[Uk]at h)
def marks(L:W->Bool)(cols:List W)(w:W):W:=cols.map λc=>Uk (L (w++c))
theorem Zn{L:W->Bool}{cols:List W}{u w:W}:marks L cols u=marks L cols w↔∀c∈cols,L (u++c)=L (w++c):=by
 unfold marks;rw[nu];exact⟨λh c a=>VH (h c a),λh c a=>by rw[h c a]⟩
def AW(L:W->Bool)(t:A9):List W:=t.rows.map (marks L t.cols)
def C4(ls:List UInt8)(rows:List W):List W:=rows.flatMap λr=>ls.map λl=>r++[l]
def Bx(L:W->Bool)(ls:List UInt8)(t:A9):Option W:=(C4 ls t.rows).find? λw=>!(AW L t).contains (marks L t.cols w)
def BJ(L:W->Bool)(ls:List UInt8):Nat->A9->Option A9
 | 0,_=>none
 | n+1,t=>match Bx L ls t with
  | none=>some t
  | some w=>if t.rows.length=12 then none else BJ L ls n ⟨t.rows++[w],t.cols⟩
def AO(ls:List UInt8)(w:W):Prop:=∀c∈w,c∈ls
structure TOk (L:W->Bool) (ls:List UInt8) (t:A9):Prop where
 r0:t.rows[0]?=some []
 c0:t.cols[0]?=some []
 pre:∀(i:Nat) w,t.rows[i]?=some w->0<i->w≠[]/\∃j,j<i/\t.rows[j]?=some w.dropLast
 onR:∀w∈t.rows,AO ls w
 onC:∀c∈t.cols,AO ls c
 nd:(AW L t).Nodup
 ndC:t.cols.Nodup
theorem Jy{L:W->Bool}{ls:List UInt8}{t:A9}{w:W}(h:Bx L ls t=some w):(∃r∈t.rows,∃l∈ls,w=r++[l])/\marks L t.cols w∉AW L t:=by
 have d:=List.find?_some h;have a:=List.mem_of_find?_eq_some h;unfold C4 at a;simp only[mL,d8]at a;obtain⟨r,b,l,c,rfl⟩:=a;exact⟨⟨r,b,l,c,rfl⟩,by simpa using d⟩
theorem Hr{L:W->Bool}{ls:List UInt8}{t:A9}(h:Bx L ls t=none):∀r∈t.rows,∀l∈ls,marks L t.cols (r++[l])∈AW L t:=by
 intro r a l b;have c:=nG.1 h (r++[l]) (by unfold C4;simp only[mL,d8];exact⟨r,a,l,b,rfl⟩)
 simpa using c
theorem TOk.push{L:W->Bool}{ls:List UInt8}{t:A9}{w:W}(h:TOk L ls t)(p:Bx L ls t=some w):TOk L ls ⟨t.rows++[w],t.cols⟩:=by
 obtain⟨⟨r,n,l,s,rfl⟩,q⟩:=Jy p;have z:0<t.rows.length:=(am.1 h.r0).1;refine⟨by rw[d9 z];exact h.r0,h.c0,λi w hi o=>?_,λw d=>?_,h.onC,?_,h.ndC⟩
 ·by_cases k:i<t.rows.length
  ·rw[d9 k]at hi
   obtain⟨y,j,x,v⟩:=h.pre i w hi o;exact⟨y,j,x,by rw[d9 (by omega)];exact v⟩
  ·rw [f9 (by omega)]at hi
   have m:i=t.rows.length:=by
    have:=(am.1 hi).1;simp at this;omega
   subst m;simp at hi;subst hi;obtain⟨j,g,u⟩:=lO n;refine⟨by simp,j,g,?_⟩;rw[d9 g,List.dropLast_concat,d5 g,u]
 ·rcases f6.1 d with d|d
  ·exact h.onR w d
  ·simp at d
   subst d;intro c f
   rcases f6.1 f with f|f
   ·exact h.onR r n c f
   ·simp at f;subst f;exact s
 ·unfold AW
  rw[mE,nJ];refine⟨h.nd,by simp,λa ha b hb=>?_⟩;simp at hb;subst hb;intro e;exact q (e▸ha)
structure Fin (L:W->Bool) (ls:List UInt8) (n:Nat) where
 st:W->Nat
 lt:∀w,AO ls w->st w<n
 same:∀u w v,AO ls u->AO ls w->AO ls v->st u=st w->L (u++v)=L (w++v)
theorem SA:∀(n:Nat) (l:List Nat),l.Nodup->(∀x∈l,x<n)->l.length<=n
 | 0,l,_,h=>by cases l with
  | nil=>simp
  | cons x l=>have:=h x (by simp);omega
 | n+1,l,c,h=>by
  have d:=SA n (l.erase n) (c.erase n) λx a=>by
   have g:=h x (List.mem_of_mem_erase a)
   have f:x≠n:=λe=>by subst e;exact(List.Nodup.not_mem_erase c) a
   omega
  by_cases b:n∈l
  ·rw[List.length_erase_of_mem b]at d;omega
  ·rw[List.erase_of_not_mem b]at d;omega
def DN(L:W->Bool)(t:A9)(w:W):Nat:=(AW L t).idxOf (marks L t.cols w)
def runM(L:W->Bool)(t:A9):Nat->W->Nat
 | i,[]=>i
 | i,c::w=>runM L t (DN L t ((t.rows.getD i [])++[c])) w
theorem SV(L:W->Bool)(t:A9):∀(u w:W) (i:Nat),runM L t i (u++w)=runM L t (runM L t i u) w
 | [],_,_=>rfl
 | c::u,w,i=>SV L t u w _
structure BZ (L:W->Bool) (ls:List UInt8) (t:A9):Prop extends TOk L ls t where
 cl:∀r∈t.rows,∀l∈ls,marks L t.cols (r++[l])∈AW L t
theorem BZ.idx{L:W->Bool}{ls:List UInt8}{t:A9}(h:BZ L ls t){i:Nat}{r:W}{l:UInt8}(hi:t.rows[i]?=some r)(b:l∈ls):∃r',t.rows[DN L t (r++[l])]?=some r'/\marks L t.cols r'=marks L t.cols (r++[l]):=by
 have e:=h.cl r (co hi) l b;have a:DN L t (r++[l])<(AW L t).length:=List.idxOf_lt_length_iff.2 e;have d:(AW L t)[DN L t (r++[l])]'a=marks L t.cols (r++[l]):=List.getElem_idxOf a
 have c:DN L t (r++[l])<t.rows.length:=by simpa[AW]using a
 refine⟨t.rows[DN L t (r++[l])],d5 c,?_⟩;rw[<-d];simp[AW]
theorem BZ.run{L:W->Bool}{ls:List UInt8}{t:A9}(h:BZ L ls t):∀(w:W) (i:Nat),AO ls w->i<t.rows.length->runM L t i w<t.rows.length
 | [],_,_,hi=>hi
 | c::w,i,a,hi=>by
  have b:t.rows[i]?=some t.rows[i]:=d5 hi;obtain⟨_,f,_⟩:=h.idx b (a c (by simp))
  have e:t.rows.getD i []=t.rows[i]:=by simp[b]
  show runM L t (DN L t (t.rows.getD i []++[c])) w<_
  rw[e];exact h.run w _ (λx d=>a x (by simp[d])) (am.1 f).1
def splitAt(L:W->Bool)(t:A9)(b:Bool):Nat->W->Option W
 | _,[]=>none
 | i,c::v=>if L (t.rows.getD (DN L t ((t.rows.getD i [])++[c])) []++v)≠b then some v else splitAt L t b (DN L t ((t.rows.getD i [])++[c])) v
end Go.Am
namespace Go.Am
open Go
variable {P:Program}{TB:BA}{Γ:Ctx}{d:Option Tmp}{ty:TypeId}{pos:String}{af:Array Edge}{g:Option (Nat×Bool)}{f:Env}{σ:Ab}{nx:Nat}
variable {K:E->Ab->Nat->Prop}
end Go.Am
