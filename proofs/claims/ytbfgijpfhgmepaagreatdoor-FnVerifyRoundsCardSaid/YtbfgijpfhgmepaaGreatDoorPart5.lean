/-
  More quiet operations: closures, checks for nil, tables, pieces of slices and strings, text out of bytes.
-/
import Derived.Test.YtbfgijpfhgmepaaGreatDoorPart4
import Derived.Laws.IdiomStrings
import Derived.Laws.BytesArg
import Derived.Laws.Slices
import Derived.MapKept
set_option linter.constructorNameAsVariable false
set_option linter.unusedSectionVars false
set_option linter.unusedSimpArgs false
set_option linter.unusedVariables false
namespace Go.Am
open Go
def dK:List E->Option (List C)
 | []=>some []
 | .o c::l=>(dK l).map (c :: ·)
 | _=>none
theorem PE:∀ {l:List E} {cs:List C},dK l=some cs->l=cs.map .o
 | [],cs,h=>by injection h with h;subst h;rfl
 | e::l,cs,h=>by
  cases e<;>simp only [dK] at h<;>try cases h
  simp only [d7] at h;obtain⟨ds',a,rfl⟩:=h;simp [PE a]
class Vq (P:Program) (t:TypeId):Prop where
 out:∃e,P.underlying t=some (.pointer e)
class Mb (TB:Bz) (b:Nat) (vals:outParam (List Value)):Prop where
 out:(∃(cur:Array Value) (T:TypeId) (fr:_),(b,Obj.cells cur T fr)∈TB/\∀(i:Nat) v,vals[i]? = some v->cur[i]? = some v)/\vals.all Pr=true
section
variable {P:Program}{TB:Bz}{Z:Ctx}{d:Option Tmp}{ty:TypeId}{pos:String}{af:Array Edge}{g:Option (Nat×Bool)}{f:Env}{σ:Ab}{nx:Nat}
variable {K:E->Ab->Nat->Prop}
theorem iR{α:Type}{t e:TypeId}{x:Operand}{l:List α}{c:α->List D}{k b:Nat}[h:CO P t e k b](a:ev f x=some (.o (.d (.l (l.map c))))):AX P TB Z ⟨d,.call ⟨.builtin .len,#[x],#[t]⟩,ty,pos,af,g⟩ f σ nx (eI .i64 l.length):=by
 have:=cQ (t:=t) (P:=P) (TB:=TB) (Z:=Z) (d:=d) (ty:=ty) (pos:=pos) (af:=af) (g:=g) (σ:=σ) (nx:=nx) a;rwa [gt] at this
theorem iY{t yt:TypeId}{x y:Operand}{k:IntKind}{m n:Int}(b:ev f x=some (eI k m))(a:ev f y=some (eI k n))(c:0<=m)(e:0 < n) :
 AX P TB Z ⟨d,.binOp .rem t x y yt,ty,pos,af,g⟩ f σ nx (eI k (m % n)):=kJ b a (by omega) (Int.tmod_eq_emod_of_nonneg c)
theorem iX{t yt:TypeId}{x y:Operand}{m n:Int}(c:ev f x=some (eI .i64 m))(b:ev f y=some (eI .i64 n))(a:0<=m)(h:m<=9223372036854775807)(e:0 < n) :
 AX P TB Z ⟨d,.binOp .quo t x y yt,ty,pos,af,g⟩ f σ nx (eI .i64 (m / n)):=kI c b (by omega) (by
  rw [Int.tdiv_eq_ediv_of_nonneg a];have j:0<=m / n:=pg a (by omega);have i:m / n<=m:=o7 _ a
  exact IntWalk.i64_in _ (by omega))
def notNil:Operand->Bool
 | .const (.slice none 0 0)=>false
 | _=>true
theorem lR{gg:FuncId}{caps:Array Operand}{es:List E}{cs:List C}(a:JP f caps.toList=some es)(h:dK es=some cs):AX P TB Z ⟨d,.makeFunc (.func gg) #[] caps,ty,pos,af,g⟩ f σ nx (.o (.fn gg cs)):=
 AO λV ρ p _=>by
  refine⟨.func (.func gg) #[] (caps.map ρ),by simp [execOp,Instr.makeFunc,go_sem],AG.fn ?_ λj c v l k=>?_⟩
  ·have b:=CU a
   have n:=congrArg List.length (PE h);simp at b n |-;omega
  ·have b:=Hu (f:=f) (V:=V) (ρ:=ρ) (λy i e m=>p.get (by simp [Op.operands];simpa using i) m) a j (.o c) v (by rw [PE h];simp [l]) (by rw [<-pz];simpa using k)
   exact b
theorem fy{x:Operand}{cs:List D}(b:ev f x=some (.o (.ip cs))):AX P TB Z ⟨d,.nilCheck x,ty,pos,af,g⟩ f σ nx (.o (.ip cs)):=
 AO λV ρ e _=>by
  have a:=e.get (by simp [Op.operands]) b;generalize c:ρ x=v at a;refine⟨v,?_,a⟩;obtain⟨a⟩:=a;cases a;simp [execOp,c,go_sem]
theorem iV{x:Operand}{id k i j:Nat}(b:ev f x=some (.o (.ptr id k i j))):AX P TB Z ⟨d,.nilCheck x,ty,pos,af,g⟩ f σ nx (.o (.ptr id k i j)):=
 AO λV ρ e _=>by
  have a:=e.get (by simp [Op.operands]) b;generalize c:ρ x=v at a;refine⟨v,?_,a⟩;cases a;simp [execOp,c,go_sem]
theorem fx{x:Operand}{gg:FuncId}{cs:List C}(b:ev f x=some (.o (.fn gg cs))):AX P TB Z ⟨d,.nilCheck x,ty,pos,af,g⟩ f σ nx (.o (.fn gg cs)):=
 AO λV ρ e _=>by
  have a:=e.get (by simp [Op.operands]) b;generalize c:ρ x=v at a;refine⟨v,?_,a⟩;obtain⟨vs,rfl,_⟩:=OJ a;simp [execOp,c,go_sem]
theorem UG{t e:TypeId}{a:Option Addr}(b:P.underlying t=some (.pointer e))(w:World):(Op.equal t (.pointer a) (.pointer none)).run P w=.ok a.isNone w:=by
 unfold Op.equal Op.maxDepth;rw [show 10000=9999+1 from rfl,Op.equalIn];cases a<;>simp [run_underlying b,go_sem]
theorem ZE{t yt:TypeId}{x y:Operand}{cs:List D}[l:Vq P t](j:ev f x=some (.o (.ip cs)))(i:ev f y=some (.o (.d (.v (.pointer none))))):AX P TB Z ⟨d,.binOp .eql t x y yt,ty,pos,af,g⟩ f σ nx (eB false):=
 AO λV ρ h _=>by
  have c:=h.get (by simp [Op.operands]) j;have s:ρ y=.pointer none:=AG.val (h.get (by simp [Op.operands]) i);generalize k:ρ x=v at c;obtain⟨c⟩:=c;obtain⟨e,m⟩:=l.out;cases c;rename_i b o vs hb z u;refine⟨.bool false,?_,.d (.v rfl)⟩;have r:binOp .eql t (.pointer (some ⟨b,o,none⟩)) (.pointer none)=(do pure (.bool (<-Op.equal t (.pointer (some ⟨b,o,none⟩)) (.pointer none)))):=rfl;have q:eqGuard .eql t x y (.pointer (some ⟨b,o,none⟩)) (.pointer none)=pure ():=rfl;have p:=UG (a:=some ⟨b,o,none⟩) m V.w;have n:execOp ρ ⟨d,.binOp .eql t x y yt,ty,pos,af,g⟩=(do let v <-(do eqGuard .eql t x y (ρ x) (ρ y);binOp .eql t (ρ x) (ρ y));pure (.value v)):=rfl;rw [n,k,s,r,q];simp [p,go_sem]
theorem WE{t yt:TypeId}{x y:Operand}[h:Vq P t](c:ev f x=some (.o (.d (.v (.pointer none)))))(b:ev f y=some (.o (.d (.v (.pointer none))))):AX P TB Z ⟨d,.binOp .eql t x y yt,ty,pos,af,g⟩ f σ nx (eB true):=
 BK c b rfl λw=>by
  obtain⟨e,i⟩:=h.out;have l:binOp .eql t (.pointer none) (.pointer none)=(do pure (.bool (<-Op.equal t (.pointer none) (.pointer none)))):=rfl;have k:eqGuard .eql t x y (.pointer none) (.pointer none)=pure ():=rfl;have j:=UG (a:=none) i w;rw [l,k];simp [j,go_sem]
theorem cK{t:TypeId}{b:Nat}{y:Operand}{vals:List Value}{v:Value}{n:Int}{len:Nat}{ik:IntKind}[B:Qp P t len 1][ht:Mb TB b vals](q:ev f y=some (eI ik n))
 (K:0<=n) (z:n < len) (k:vals[n.toNat]? = some v):AX P TB Z ⟨d,.indexAddr t (.global b) y,ty,pos,af,g⟩ f σ nx (.o (.ip [.v v])):=by
 intro V a J p I;have m:a.eval y=.int ik n:=AG.val (J.Hz.get (by simp [Op.operands]) q);have l:a.eval (.global b)=.pointer (some ⟨b,0,none⟩):=rfl;obtain⟨e,i,r,hi,s⟩:=Vx B.out;obtain⟨⟨cur,T,fr,A,F⟩,h⟩:=ht.out;obtain⟨H,G⟩:=p.tabs _ A;unfold Oper.wp;generalize a.eval=ρ at m l |-
 have u:(execOp ρ ⟨d,.indexAddr t (.global b) y,ty,pos,af,g⟩).run P V.w=.ok (.value (.pointer (some ⟨b,n.toNat,none⟩))) V.w:=by
  simp [execOp,m,l,Instr.indexAt,asIntOf,run_underlying r,Instr.sureAddr,K,z,sizeOf,typeInfo,hi,s,BF,go_sem]
 rw [u];refine⟨V,_,rfl,rfl,Ext.refl V,p,I,AG.ip (vs:=λ_=>v) H (λj x c=>?_) (λj x c=>?_)⟩
 ·match j with
  | 0=>simp only [World.cell?,G];simpa using F _ _ k
  | j+1=>simp at c
 ·match j with
  | 0=>simp at c;subst c;exact .v (f9.1 h v (co k))
  | j+1=>simp at c
def jK(c:UInt8):List D:=[.v (.int .u8 c.toNat)]
def Fz(c:UInt8):List C:=[.d (.v (.int .u8 c.toNat))]
class Xi (P:Program) (t:TypeId):Prop where
 out:∃e,P.underlying t=some (.slice e)/\P.underlying e=some (.int .u8)
theorem KS{src dst:TypeId}(a:Xi P src)(b:DQ P dst)(w:World):(convert src dst (.slice none 0 0)).run P w=.ok (.string ⟨#[]⟩) w:=by
 obtain⟨e,d,c⟩:=a.out;exact run_convert_bytes_nil w src e d c 0 0 dst b.out
theorem SC{src dst:TypeId}{x:Operand}{rows:List (List D)}(bs:List UInt8)[q:Xi P src][s:DQ P dst](z:ev f x=some (.o (.d (.l rows))))(n:rows=bs.map jK) :
 AX P TB Z ⟨d,.convert src dst x,ty,pos,af,g⟩ f σ nx (.o (.d (.v (.string ⟨bs.toArray⟩)))):=
 AO λV ρ K _=>by
  have p:=K.get (by simp [Op.operands]) z;generalize A:ρ x=v at p;refine⟨.string ⟨bs.toArray⟩,?_,.d (.v rfl)⟩;have F:execOp ρ ⟨d,.convert src dst x,ty,pos,af,g⟩=(do let v <-convert src dst (ρ x);pure (.value v)):=rfl;rw [F,A];obtain⟨p⟩:=p
  cases p with
  | nil=>
   have:bs=[]:=by simpa using n.symm
   subst this;simp [KS q s,go_sem]
  | @e a cap J=>
   have:bs=[]:=by simpa using n.symm
   subst this;obtain⟨e,t,i⟩:=q.out
   have h:=run_convert_bytes_back (P:=P) V.w src dst e a cap [] t i s.out λj r=>by simp at r
   have h:(convert src dst (.slice (some a) 0 cap)).run P V.w=_:=h;simp [h,go_sem]
  | @l _ b o k cap vs hb J L I H G=>
   obtain⟨e,t,i⟩:=q.out
   have B:rows.length=bs.length:=by rw [n];simp
   have h:=run_convert_bytes_back (P:=P) V.w src dst e ⟨b,o,none⟩ cap bs t i s.out λj r=>by
    have c:rows[j]? = some (jK bs[j]):=by rw [n];simp [r]
    have m:=H j _ 0 _ c rfl;have y:=G j _ 0 _ c rfl;have hk:k=1:=(I j _ c).symm;subst hk;rw [BF];have u:vs j 0=.int .u8 (bs[j].toNat:Int):=y.val;rw [u] at m
    simpa using m
   rw [B];simp [h,go_sem]
theorem Of{src dst:TypeId}{x:Operand}{id off len:Nat}{T:TypeId}{rows:List (List C)}(bs:List UInt8)[r:Xi P src][y:DQ P dst](z:ev f x=some (.o (.arr id 1 off len)))(B:look σ id=some (.cells T 1 rows))
 (F:off+len<=rows.length) (s:(rows.drop off).take len=bs.map Fz):AX P TB Z ⟨d,.convert src dst x,ty,pos,af,g⟩ f σ nx (.o (.d (.v (.string ⟨bs.toArray⟩)))):=
 AO λV ρ K hi=>by
  have i:=K.get (by simp [Op.operands]) z;generalize A:ρ x=v at i;refine⟨.string ⟨bs.toArray⟩,?_,.d (.v rfl)⟩;have G:execOp ρ ⟨d,.convert src dst x,ty,pos,af,g⟩=(do let v <-convert src dst (ρ x);pure (.value v)):=rfl;rw [G,A]
  have b:bs.length=len:=by
   have:=congrArg List.length s;simp at this;omega
  have i:AG V (.arr id 1 off len) v:=i
  cases i with
  | nil I H=>
   have:bs=[]:=ms.1 b;subst this;simp [KS r y,go_sem]
  | arr I k H=>
   rcases hi.st.obj id _ B with ⟨l,_⟩|⟨_,cur,l,N,M,L,J,q⟩
   ·exact absurd l k
   ·obtain⟨e,p,n⟩:=r.out
    subst b
    have m:=run_convert_bytes_back (P:=P) V.w src dst e ⟨V.ρ id,off*1,none⟩ (V.cap id - off) bs p n y.out λj t=>by
     have h:rows[off+j]? = some (Fz bs[j]):=by
      have a:((rows.drop off).take bs.length)[j]? = some (Fz bs[j]):=by rw [s];simp [t]
      rw [nz,if_pos t,nA] at a;exact a
     obtain⟨u,a,c⟩:=q _ _ 0 _ h rfl;have c:=c.val;subst c;rw [BF]
     simpa [World.cell?,l] using a
    rw [nc,m];rfl
end
inductive av (e:D):D->Prop
 | refl:av e e
 | l {rows:List (List D)} {i j:Nat} {r:List D} {x:D}:rows[i]? = some r->r[j]? = some x->av e x->av e (.l rows)
 | p {cs:List D} {j:Nat} {x:D}:cs[j]? = some x->av e x->av e (.p cs)
theorem av.len{I:Nat->Prop}{w:World}{rows:List (List D)}{d:D}(h:av (.l rows) d):∀ {v:Value},Dd I w d v->rows.length<=maxLen:=by
 induction h with
 | refl=>
  intro v h
  cases h with
  | nil=>simp
  | e=>simp
  | l _ i f=>omega
 | l c b _ a=>
  intro v h
  cases h with
  | nil=>simp at c
  | e=>simp at c
  | l _ _ _ _ _ g=>exact a (g _ _ _ _ c b)
 | p b _ a=>
  intro v h
  cases h with
  | p _ _ f=>exact a (f _ _ b)
def lr(d:D):E->Prop
 | .o (.d x)=>av d x
 | .a cs=>∃(j:Nat) (x:D),cs[j]? = some (.d x)/\av d x
 | _=>False
theorem lr.len{V:View}{rows:List (List D)}{e:E}{v:Value}(h:lr (.l rows) e)(b:Bl V e v):rows.length<=maxLen:=by
 cases e with
 | o c=>
  cases c with
  | d x=>cases b with|d b=>exact av.len h b
  | _=>exact h.elim
 | a cs=>
  obtain⟨j,x,g,i⟩:=h;obtain⟨vs,_,n,m⟩:=b
  have f:j < vs.size:=by rw [n];exact(ce.1 g).1
  cases m j _ _ g (mt f) with
  | d k=>exact av.len i k
 | t=>exact h.elim
 | e=>exact h.elim
theorem Aj.bound{P:Program}{TB:Bz}{Z:Ctx}{N:Nat}{c:Code}{Q:Exit->Env->Ab->Nat->Prop}{f:Env}{σ:Ab}{nx:Nat}(t:Nat){e:E}(ht:f t=some e)
 (h:(∀rows,lr (.l rows) e->rows.length<=9223372036854775807)->Aj P TB Z N c Q f σ nx):Aj P TB Z N c Q f σ nx:=by
 intro V a b;exact h (λrows hi=>hi.len (b.env t e ht)) V a b
section
variable {P:Program}{TB:Bz}{Z:Ctx}{ops:Array Oper}{fl:Fl}{i n:Nat}{L:List (Nat×E)}{σ:Ab}{nx:Nat}{K:Env->Ab->Nat->Prop}{d:Option Tmp}{ty:TypeId}{pos:String}{af:Array Edge}{g:Option (Nat×Bool)}
theorem jV(id k:Nat)(o:O)(r:Ab):kill id ((k,o)::r)=if k=id then kill id r else (k,o)::kill id r:=by
 simp only [kill];by_cases h:k=id
 ·subst h;simp
 ·have:Nat.beq k id=false:=by
   cases hb:Nat.beq k id
   ·rfl
   ·exact absurd (i8 hb) h
  rw [this,cond_false,if_neg h]
end
end Go.Am
namespace Go.Am
theorem cX:((∀r f,DO r f []=True)/\(∀r f t e L,DO r f ((t,e)::L)=(f t=some (e.Be r)/\DO r f L))/\(∀r σ,A8 r σ []=True)/\(∀r σ id o L,A8 r σ ((id,o)::L)=(look σ (r id)=some (o.Be r)/\A8 r σ L)))/\
 ((∀(α:Type) (k:Nat) (x:α) (r:List (Nat×α)) (i:Nat),look ((k,x)::r) i=if k=i then some x else look r i)/\(∀l nx i,nm l nx i=match l[i]? with|some j=>j|none=>nx+i)/\(∀l nx i,IA l nx i=match l[i]? with|some j=>j|none=>nx+(i - l.length)))/\
 ((∀r c,E.Be r (.o c)=.o (C.Be r c))/\(∀r cs,E.Be r (.a cs)=.a (C.Cv r cs))/\(∀r xs,E.Be r (.t xs)=.t (xs.map λx=>(x.1,C.Cv r x.2)))/\(∀r,E.Be r .e=.e))/\
 ((∀r x,C.Be r (.d x)=.d x)/\(∀r id k off len,C.Be r (.arr id k off len)=.arr (r id) k off len)/\(∀r id k i j,C.Be r (.ptr id k i j)=.ptr (r id) k i j)/\(∀r f cap,C.Be r (.fn f cap)=.fn f (C.Cv r cap))/\(∀r id,C.Be r (.mp id)=.mp (r id))/\(∀r f l,C.Be r (.mv f l)=.mv f (C.Cv r l))/\(∀r,C.Cv r []=[])/\(∀r c l,C.Cv r (c::l)=C.Be r c::C.Cv r l))/\
 ((∀r T k rows,O.Be r (.cells T k rows)=.cells T k (rows.map (C.Cv r)))/\(∀r es,O.Be r (.mp es)=.mp es)/\(∀r T l,O.Be r (.sld T l)=.sld T l)/\(∀r,Ab.Be r []=[])/\(∀r i o σ,Ab.Be r ((i,o)::σ)=(r i,o.Be r)::Ab.Be r σ))/\
 ((∀id,kill id []=[])/\(∀id k o r,kill id ((k,o)::r)=if k=id then kill id r else (k,o)::kill id r)/\(∀σ,BU [] σ=σ)/\(∀id r σ,BU (id::r) σ=BU r (kill id σ)))/\
 ((∀z,BN [] z=z)/\(∀off cs r z,BN ((off,cs)::r) z=BN r (Ae z off cs))/\(∀r j cs,Ae r j cs=r.take j++cs++r.drop (j+cs.length))/\(∀c,eC (.o c)=[c])/\(∀cs,eC (.a cs)=cs)/\(∀xs,eC (.t xs)=[])/\eC .e=[.d (.l [])])/\
 (∀k,Ck k []=[])/\(∀k e l,Ck k (e::l)=(k,e)::Ck (k+1) l)/\∀(α β δ:Type) (f:β->δ) (g:α->β),f∘g=λx=>f (g x):=by
 refine⟨⟨λ_ _=>rfl,λ_ _ _ _ _=>rfl,λ_ _=>rfl,λ_ _ _ _ _=>rfl⟩,⟨λ_=>Az,λ_ _ _=>rfl,λ_ _ _=>rfl⟩,⟨λ_ _=>rfl,λ_ _=>rfl,λ_ _=>rfl,λ_=>rfl⟩,⟨λ_ _=>by simp [C.Be],λ_ _ _ _ _=>by simp [C.Be],λ_ _ _ _ _=>by simp [C.Be],λ_ _ _=>by simp [C.Be],λ_ _=>by simp [C.Be],λ_ _ _=>by simp [C.Be],λ_=>by simp [C.Cv],λ_ _ _=>by simp [C.Cv]⟩,⟨λ_ _ _ _=>rfl,λ_ _=>rfl,λ_ _ _=>rfl,λ_=>rfl,λ_ _ _ _=>rfl⟩,⟨λ_=>rfl,λ_ _ _ _=>jV _ _ _ _,λ_=>rfl,λ_ _ _=>rfl⟩,⟨λ_=>rfl,λ_ _ _ _=>rfl,λ_ _ _=>rfl,λ_=>rfl,λ_=>rfl,λ_=>rfl,rfl⟩,λ_=>rfl,λ_ _ _=>rfl,λ_ _ _ _ _=>rfl⟩
def lk:List Nat->Bool
 | []=>true
 | x::r=>!(r.any (Nat.beq x)) && lk r
theorem ca:∀ {l:List Nat},lk l=true->l.Nodup
 | [],_=>lm
 | x::r,h=>by
  simp only [lk,d4,oX,List.any_eq_false] at h;exact List.nodup_cons.2 ⟨λa=>h.1 x a (qt x),ca h.2⟩
def lN(l:List Nat)(m:Nat):Bool:=(List.range m).all (λi=>l[i]? == some i) && lk l
theorem cA{α:Type}{a:α}{l m:List α}:a::l++m=a::(l++m):=rfl
theorem cB{α:Type}{m:List α}:[]++m=m:=rfl
theorem rl{l:List Nat}{m k:Nat}(h:k=m)(a:lN l m=true):(∀i,i < k->l[i]? = some i)/\l.Nodup:=by
 subst h;unfold lN at a;rw [d4,f9] at a;exact⟨λi hi=>by simpa using a.1 i (nk.2 hi),ca a.2⟩
theorem DV{l:List Nat}{m k n:Nat}(h:k=m)(a:lN l m=true)(b:l.length=n):(∀i,i < k->l[i]? = some i)/\l.Nodup/\l.length=n:=⟨(rl h a).1,(rl h a).2,b⟩
theorem rg{m k n:Nat}(h:k=m)(a:Nat.ble m n=true):(∀i,i < k->(List.range n)[i]? = some i)/\(List.range n).Nodup/\(List.range n).length=n:=by
 subst h;have:=am a;exact⟨λi hi=>pC (by omega),List.nodup_range,List.length_range⟩
def Ko(V:View)(m:Nat):View:={ V with nx:=m }
theorem XK{V:View}{m:Nat}(h:m<=V.nx):Ext (Ko V m) V:=⟨λ_ h=>h,λ_ _=>rfl,jp _,λ_ _=>rfl,λ_ _=>rfl,λ_ _=>Iff.rfl,h⟩
theorem dF{V V1:View}{l:List Nat}{m:Nat}(d:m<=l.length)(e:Ext (Ko (V.Be (nm l V.nx) l.length) m) V1):Ext (V.Be (nm (l.take m) V.nx) (l.take m).length) V1:=by
 have c:(l.take m).length=m:=by rw [oO];exact Nat.min_eq_left d
 have b:∀id,id < m->nm (l.take m) V.nx id=nm l V.nx id:=λid a=>by
  unfold nm;rw [nz,if_pos a]
 refine⟨e.i,e.heap,e.size,λid a=>?_,λid a=>?_,λid a=>?_,by show (l.take m).length<=_;rw [c];exact e.nx⟩
 ·have a:id < m:=by have:id < (l.take m).length:=a;omega
  show _=V.ρ (nm (l.take m) V.nx id)
  rw [b id a];exact e.ρ id a
 ·have a:id < m:=by have:id < (l.take m).length:=a;omega
  show _=V.cap (nm (l.take m) V.nx id)
  rw [b id a];exact e.cap id a
 ·have a:id < m:=by have:id < (l.take m).length:=a;omega
  show _↔V.nl (nm (l.take m) V.nx id)
  rw [b id a];exact e.nl id a
section
variable (P:Program)(TB:Bz)
def AR(g:FuncId)(m:Nat)(σ:Ab)(nx:Nat)(args:List E)(post:E->Ab->Nat->Prop):Prop:=
 ay P g/\∀V vs S,Good TB V σ nx S->NA V args vs->Calls P g vs V.w λe w'=>∃V' v x σ',e=.returned v/\V'.w=w'/\Inv TB (Fg V (Ko V m) σ S) V' σ'/\Bl V' x v/\post x σ' V'.nx
end
section
variable {P:Program}{TB:Bz}{Z:Ctx}{d:Option Tmp}{ty:TypeId}{pos:String}{af:Array Edge}{g:Option (Nat×Bool)}{f:Env}{σ:Ab}{nx:Nat}{N:Nat}
variable {K:E->Ab->Nat->Prop}
theorem YV{V V1:View}{l:List Nat}{m:Nat}{y A:Ab}(h:Inv TB Z V σ)(hl:∀i∈l,i < V.nx)(hS:A8 (nm l V.nx) σ y)(hm:m<=l.length)
 {S:Tj} (M:ND TB V σ S) (hSJ:∀b,S.J b->Z.J b\/Z.V.w.heap.size<=b\/Z.F b) (K:∀b,S.B b->Z.V.w.heap.size<=b\/Z.F b)
 (u:Inv TB (Fg (V.Be (nm l V.nx) l.length) (Ko (V.Be (nm l V.nx) l.length) m) y S) V1 A) :
 Inv TB Z (Hw V V1 (l.take m)) (A.Be (IA (l.take m) V.nx)++BU l σ)/\Ext V (Hw V V1 (l.take m))/\Vs V1 (Hw V V1 (l.take m)) (IA (l.take m) V.nx):=by
 have hx:=dF hm u.ext;have v:=J9 (l:=l.take m) (λi hi=>hl i (nt hi)) hx;have hlen:(l.take m).length<=V1.nx:=hx.nx;have hsz:V.w.heap.size<=V1.w.heap.size:=u.ext.size
 have G:∀b,DE (V.Be (nm l V.nx) l.length) y b->∃i o,i∈l/\look σ i=some o/\¬V.nl i/\EJ V i o b:=by
  rintro b ⟨j,o,hj,R,hb⟩;have a:=hS.get j o hj;have g:=QV (h.st.lt _ _ a);have d:=FX (nx:=V.nx) g;refine⟨l[j],o.Be _,nJ g,by rw [<-d];exact a,?_,?_⟩
  ·have:¬V.nl (nm l V.nx j):=R
   rwa [d] at this
  ·have c:=Cr.1 hb
   rwa [d] at c
 have H:∀b,DE (V.Be (nm l V.nx) l.length) y b->b < V.w.heap.size/\¬V.I b/\(Z.V.w.heap.size<=b\/Z.F b):=by
  intro b hb;obtain⟨i,o,_,g,d,c⟩:=G b hb;exact⟨(h.st.obj i o g).blt d c,h.st.free i o g d b c,h.live i o g d b c⟩
 have t:∀i o,i∉l->look σ i=some o->¬V.nl i->∀b,EJ V i o b->¬DE (V.Be (nm l V.nx) l.length) y b:=by
  intro i o hi s R b hb U;obtain⟨j,o',g,d,c,h6⟩:=G _ U;exact h.st.inj j i o' o d s (λe=>hi (e ▸ g)) c R b h6 hb
 have P:∀b,b < V.w.heap.size->¬DE (V.Be (nm l V.nx) l.length) y b->¬S.B b->V1.w.heap[b]? = V.w.heap[b]?:=λb hb U hB=>u.old b hb λh=>h.elim U hB
 have e:Ext V (Hw V V1 (l.take m)):=by
  refine⟨λb hb=>u.ext.i b hb,λb hb=>u.ext.heap b hb,hsz,λi hi=>?_,λi hi=>?_,λi hi=>?_,Nat.le_add_right _ _⟩
  ·show (if _ then _ else _)=_;rw [if_pos hi]
  ·show (if _ then _ else _)=_;rw [if_pos hi]
  ·show (if _ then _ else _)↔_;rw [if_pos hi]
 have f:∀i o,look (A.Be (IA (l.take m) V.nx)++BU l σ) i=some o->(∃j p,j < V1.nx/\IA (l.take m) V.nx j=i/\look A j=some p/\o=p.Be (IA (l.take m) V.nx))\/(i∉l/\i < V.nx/\look σ i=some o):=by
  intro i o s
  rcases Cz s with a|a
  ·obtain⟨j,p,g,d,c⟩:=O0 a
   exact .inl ⟨j,p,u.st.lt j p d,g,d,c⟩
  ·obtain⟨g,d⟩:=A4 l σ i o a
   exact .inr ⟨g,h.st.lt i o d,d⟩
 have n:∀i,i < V.nx->((Hw V V1 (l.take m)).nl i↔V.nl i):=λi hi=>e.nl i hi
 have Q:∀j p,look A j=some p->¬V1.nl j->∀i o,i∉l->look σ i=some o->¬V.nl i->∀b,EJ V1 j p b->¬EJ V i o b:=by
  intro j p hj hnj i o hi s T b hb q
  rcases u.live j p hj hnj b hb with a|a
  ·have:=(h.st.obj i o s).blt T q
   have a:V.w.heap.size<=b:=a;omega
  ·rcases a with a|a
   ·exact t i o hi s T b q a
   ·exact M.ap b ⟨i,o,s,T,q⟩ a
 refine⟨⟨u.os.trans h.os,u.tape.trans h.tape,u.output.trans h.output,?_,u.iLt,?_,h.ext.trans e,⟨?_,?_,?_,?_⟩,?_,u.tabs,?_⟩,e,v⟩
 ·intro b hb U
  have:¬DE (V.Be (nm l V.nx) l.length) y b:=λq=>by
   rcases(H b q).2.2 with a|a
   ·omega
   ·exact U a
  exact(P b (lw hb h.ext.size) this λhx=>(K b hx).elim (λh=>by omega) U).trans (h.old b hb U)
 ·intro b hb
  rcases u.iNew b hb with a|a|a
  ·exact h.iNew b a
  ·exact .inr (.inl (li h.ext.size a))
  ·exact .inr (a.elim (λa=>(H b a).2.2) (K b))
 ·intro i o s
  rcases f i o s with ⟨j,p,a,rfl,d,rfl⟩|⟨a,g,d⟩
  ·exact(u.st.obj j p d).push v a
  ·exact(h.st.obj i o d).AQ e g λx b hb=>P _ ((h.st.obj i o d).blt x hb) (t i o a d x b hb) (M.ap b ⟨i,o,d,x,hb⟩)
 ·intro i o s
  rcases f i o s with ⟨j,p,a,rfl,d,rfl⟩|⟨a,g,d⟩
  ·exact v.lt j a
  ·exact lw g e.nx
 ·intro i o s x b hb hI
  rcases f i o s with ⟨j,p,a,rfl,d,rfl⟩|⟨a,g,d⟩
  ·exact u.st.free j p d (λh=>x ((v.nl j a).2 h)) b ((CP v a).1 hb) hI
  ·have k:¬V.nl i:=λh=>x ((n i g).2 h)
   have hb:=(AB e g).1 hb
   rcases u.iNew _ hI with c|c|c
   ·exact h.st.free i o d k b hb c
   ·have:=(h.st.obj i o d).blt k hb
    have c:V.w.heap.size<=b:=c;omega
   ·rcases c with c|c
    ·exact t i o a d k b hb c
    ·exact M.ap b ⟨i,o,d,k,hb⟩ c
 ·intro i i' o o' s ho' Y x k b hb q
  rcases f i o s with ⟨j,p,a,rfl,d,rfl⟩|⟨a,g,d⟩<;>rcases f i' o' ho' with ⟨j',X,z,rfl,L,rfl⟩|⟨z,N,L⟩
  ·exact u.st.inj j j' p X d L (λe=>Y (by rw [e])) (λh=>x ((v.nl j a).2 h)) (λh=>k ((v.nl j' z).2 h)) b ((CP v a).1 hb) ((CP v z).1 q)
  ·exact Q j p d (λh=>x ((v.nl j a).2 h)) i' o' z L (λh=>k ((n i' N).2 h)) b ((CP v a).1 hb) ((AB e N).1 q)
  ·exact Q j' X L (λh=>k ((v.nl j' z).2 h)) i o a d (λh=>x ((n i g).2 h)) b ((CP v z).1 q) ((AB e g).1 hb)
  ·exact h.st.inj i i' o o' d L Y (λh=>x ((n i g).2 h)) (λh=>k ((n i' N).2 h)) b ((AB e g).1 hb) ((AB e N).1 q)
 ·intro i o s x b hb
  rcases f i o s with ⟨j,p,a,rfl,d,rfl⟩|⟨a,g,d⟩
  ·rcases u.live j p d (λh=>x ((v.nl j a).2 h)) b ((CP v a).1 hb) with c|c
   ·exact .inl (li h.ext.size c)
   ·exact c.elim (λc=>(H _ c).2.2) (K b)
  ·exact h.live i o d (λh=>x ((n i g).2 h)) b ((AB e g).1 hb)
 ·obtain⟨S1,k1,k2,k3⟩:=u.hid
  refine⟨S1,⟨k1.r,k1.ji,k1.bi,λb ⟨i,o,s,x,hb⟩ hB=>?_⟩,λb hb=>?_,λb hb=>?_⟩
  ·rcases f i o s with ⟨j,p,a,rfl,d,rfl⟩|⟨a,g,d⟩
   ·exact k1.ap b ⟨j,p,d,λh=>x ((v.nl j a).2 h),(CP v a).1 hb⟩ hB
   ·have k:¬V.nl i:=λh=>x ((n i g).2 h)
    have hb:=(AB e g).1 hb
    rcases k3 b hB with c|c|c
    ·have:=(h.st.obj i o d).blt k hb
     have c:V.w.heap.size<=b:=c;omega
    ·exact t i o a d k b hb c
    ·exact M.ap b ⟨i,o,d,k,hb⟩ c
  ·rcases k2 b hb with c|c|c|c
   ·exact hSJ b c
   ·exact .inr (.inl (li h.ext.size c))
   ·exact .inr (H _ c).2.2
   ·exact .inr (K b c)
  ·rcases k3 b hb with c|c|c
   ·exact .inl (li h.ext.size c)
   ·exact(H _ c).2.2
   ·exact K b c
theorem Ci{x:Operand}{args:Array Operand}{tys:Array TypeId}{gg:FuncId}{cap:List C}{es M:List E}{t:Ab}{n0:Nat}{post:E->Ab->Nat->Prop}(l:List Nat)(hx:ev f x=some (.o (.fn gg cap)))(T:JP f args.toList=some es)
 (m:Nat) (hs:AR P TB gg m t n0 M post) (hm:m<=n0) (hl:l.length=n0/\l.Nodup/\∀i∈l,i < nx) (ha:es++cap.map .o=EP (nm l nx) M) (L:A8 (nm l nx) σ t)
 (hK:∀x0 s B,post x0 s B->m<=B->K (x0.Be (IA (l.take m) nx)) (s.Be (IA (l.take m) nx)++BU l σ) (nx+(B - m))) :
 Cb P TB Z ⟨d,.call ⟨.value x,args,tys⟩,ty,pos,af,g⟩ f σ nx K:=by
 obtain⟨hl0,hn,u⟩:=hl;subst hl0;intro V a Y A X;subst X;have Y:=Y.Hz;unfold Oper.wp;generalize a.eval=ρ at Y |-;obtain⟨vs,w,z⟩:=OJ (Y.get (x:=x) (by simp [Op.operands,Call.operands]) hx);rw [KQ hs.1 w];have U:=CU T
 have h:NA V (es++cap.map .o) (args.map ρ++vs):=by
  refine⟨by simp [z.1,U],λj e v H w=>?_⟩
  have F:(args.map ρ).size=es.length:=by simp [U]
  by_cases u:j < es.length
  ·rw [f7 u] at H
   rw [nv (by rw [F];exact u)] at w;exact Hu (λy hy e he=>Y.get (by simp [Op.operands,Call.operands];right;simpa using hy) he) T j e v H (by rw [<-pz];simpa using w)
  ·rw [gc (by omega)] at H
   rw [oo (by rw [F];omega),F] at w;simp only [i9,d7] at H;obtain⟨c,hc,rfl⟩:=H;exact z.2 _ c v hc w
 have hr:∀id,nm l V.nx id < V.nx->id < l.length:=λid=>QV
 have J:NA (V.Be (nm l V.nx) l.length) M (args.map ρ++vs):=by
  rw [ha] at h;refine⟨by rw [h.1,Iq],λj e v H w=>?_⟩;exact(h.2 j (e.Be (nm l V.nx)) v (by rw [MH,H];rfl) w).Be hr
 have n:∀id o,look t id=some o->id < l.length:=λid o q=>hr id (A.st.lt _ _ (L.get id o q));obtain⟨S,p,hSJ,hSB⟩:=A.hid
 have I:Good TB (V.Be (nm l V.nx) l.length) t l.length S:=by
  refine⟨A.iLt,⟨λid o q=>CE.Be hr (A.st.obj _ _ (L.get id o q)),n,λid o q k b hb=>A.st.free _ _ (L.get id o q) k b (Cr.1 hb),?_⟩,A.tabs,rfl,⟨p.r,p.ji,p.bi,λb ⟨id,o,q,k,hb⟩=>p.ap b ⟨_,_,L.get id o q,k,Cr.1 hb⟩⟩⟩;intro id id' o o' q N hne k Q b hb hb';refine A.st.inj _ _ _ _ (L.get id o q) (L.get id' o' N) ?_ k Q b (Cr.1 hb) (Cr.1 hb');have X:=n id o q;have h4:=n id' o' N;rw [FX X,FX h4];intro he;have hp:=nn.1 hn
  rcases pF hne with h5|h5
  ·exact hp _ _ X h4 h5 he
  ·exact hp _ _ h4 X h5 he.symm
 refine(hs.2 _ _ S I J).mono ?_;rintro e w' ⟨V1,v,x1,s,rfl,rfl,R,hx1,G⟩;obtain⟨hi',he',hp'⟩:=YV A u L hm p hSJ hSB R
 have hlm:(l.take m).length=m:=by rw [oO];exact Nat.min_eq_left hm
 have hnx:(Hw V V1 (l.take m)).nx=V.nx+(V1.nx - m):=by show V.nx+(V1.nx - (l.take m).length)=_;rw [hlm]
 have hk:=hK x1 s V1.nx G R.ext.nx;rw [<-hnx] at hk;exact⟨Hw V V1 (l.take m),v,x1.Be (IA (l.take m) V.nx),_,rfl,rfl,he',hi',hx1.push hp',hk⟩
end
section
variable {P:Program}{TB:Bz}{Z:Ctx}{d:Option Tmp}{ty:TypeId}{pos:String}{af:Array Edge}{g:Option (Nat×Bool)}{f:Env}{σ:Ab}{nx:Nat}
variable {K:E->Ab->Nat->Prop}
theorem WG{s t:TypeId}{k:IntKind}{x:Operand}{n:Int}[c:J7 P s k][ht:DQ P t](b:ev f x=some (eI k n))(m:0<=n)(l:n < 128):AX P TB Z ⟨d,.convert s t x,ty,pos,af,g⟩ f σ nx (eT [UInt8.ofNat n.toNat]):=
 AO λV ρ a _=>⟨.string ⟨#[UInt8.ofNat n.toNat]⟩,by
  have j:ρ x=.int k n:=AG.val (a.get (by simp [Op.operands]) b)
  have i:Utf8.valid n=true:=by simp [Utf8.valid];omega
  have h:n.toNat < 128:=by omega
  have e:Utf8.encode n=⟨#[UInt8.ofNat n.toNat]⟩:=by simp [Utf8.encode,i,h]
  simp [execOp,j,convert,run_underlying c.out,run_underlying ht.out,Conv.intToString,e,go_sem],.d (.v rfl)⟩
def ei(f:Env):Option Operand->Option (Option (IntKind×Int))
 | none=>some none
 | some x=>match ev f x with
  | some (.o (.d (.v (.int k m))))=>some (some (k,m))
  | _=>none
theorem NV{o:Oper}{V:View}{ρ:Operand->Value}(e:MW V o f ρ){x:Option Operand}{b:Option (IntKind×Int)}(a:∀y,x=some y->y∈o.op.operands)(h:ei f x=some b):x.map ρ=b.map λp=>.int p.1 p.2:=by
 cases x with
 | none=>injection h with h;subst h;rfl
 | some y=>
  unfold ei at h;simp only at h;split at h
  ·rename_i k m c
   injection h with h
   subst h;have d:ρ y=.int k m:=AG.val (e.get (a y rfl) c);simp [d]
  ·cases h
def Nl:Option (IntKind×Int)->Int
 | none=>0
 | some p=>p.2
def Nh(n:Nat):Option (IntKind×Int)->Int
 | none=>n
 | some p=>p.2
theorem Ou{isS:Bool}{len cap:Nat}{lo hi:Option (IntKind×Int)}(b:0<=Nl lo)(e:Nl lo<=Nh len hi)(d:Nh len hi<=len)(c:len<=cap)(w:World) :
 (Instr.sliceBounds isS len cap (lo.map λp=>.int p.1 p.2) (hi.map λp=>.int p.1 p.2) none).run P w=.ok ((Nl lo).toNat,(Nh len hi).toNat,cap) w:=by
 cases lo with
 | none=>
  cases hi with
  | none=>simp [Instr.sliceBounds,Nl,Nh,go_sem]
  | some h=>
   simp only [Nl,Nh] at *;simp [Instr.sliceBounds,run_sliceBound w h.1 h.2 cap _ (by omega) (by omega),Nl,Nh,go_sem]
 | some l=>
  cases hi with
  | none=>
   simp only [Nl,Nh] at *;simp [Instr.sliceBounds,run_sliceBound w l.1 l.2 len _ (by omega) (by omega),Nl,Nh,go_sem]
  | some h=>
   simp only [Nl,Nh] at *;simp [Instr.sliceBounds,run_sliceBound w h.1 h.2 cap _ (by omega) (by omega),run_sliceBound w l.1 l.2 h.2.toNat _ (by omega) (by omega),Nl,Nh,go_sem];intro a;have:=a b;omega
theorem WO{t:TypeId}(ht:P.underlying t=some .string){s:ByteArray}{lo hi:Option Value}{l h m:Nat}{w:World}(hb:(Instr.sliceBounds false s.size s.size lo hi none).run P w=.ok (l,h,m) w) :
 (Instr.sliceAt t (.string s) lo hi none).run P w=.ok (.string (s.extract l h)) w:=by
 have a:(Instr.sliceAt t (.string s) lo hi none).run P w=(Instr.slice t (.string s) lo hi none).run P w:=by
  unfold Instr.sliceAt;rw [nc,run_underlying ht,kw]
 rw [a];unfold Instr.slice;rw [nc,run_underlying ht,kw];simp only [Option.isSome_none,pG,if_false];rw [nc];generalize Instr.sliceBounds false s.size s.size lo hi none=sb at hb |-;simp [hb,go_sem]
theorem WN{t e:TypeId}{i:TypeInfo}(c:P.underlying t=some (.slice e))(hi:P.info? e=some i){a:Option Addr}{len cap:Nat}{lo b:Option Value}{l h m:Nat}{w:World}(hb:(Instr.sliceBounds true len cap lo b none).run P w=.ok (l,h,m) w) :
 (Instr.sliceAt t (.slice a len cap) lo b none).run P w=.ok (.slice (if m=l then a else a.map (·.add (l*i.size))) (h - l) (m - l)) w:=by
 have d:(Instr.sliceAt t (.slice a len cap) lo b none).run P w=(Instr.slice t (.slice a len cap) lo b none).run P w:=by
  unfold Instr.sliceAt;rw [nc,run_underlying c,kw]
 rw [d];unfold Instr.slice;rw [nc,run_underlying c,kw];simp only;rw [nc];generalize Instr.sliceBounds true len cap lo b none=sb at hb |-;simp [hb,sizeOf,typeInfo,hi,go_sem]
theorem SB{t:TypeId}{x:Operand}{lo hi:Option Operand}{s:List UInt8}{l h:Option (IntKind×Int)}[ht:DQ P t](i:ev f x=some (eT s))(j:ei f lo=some l)(k:ei f hi=some h)
 (o:0<=Nl l) (n:Nl l<=Nh s.length h) (m:Nh s.length h<=s.length):AX P TB Z ⟨d,.slice t x lo hi none,ty,pos,af,g⟩ f σ nx (eT ((s.take (Nh s.length h).toNat).drop (Nl l).toNat)):=
 AO λV ρ c _=>by
  have u:ρ x=.string ⟨s.toArray⟩:=AG.val (c.get (by simp [Op.operands]) i);have r:=NV c (x:=lo) (λy b=>by subst b;simp [Op.operands]) j;have q:=NV c (x:=hi) (λy b=>by subst b;simp [Op.operands]) k
  have a:(⟨s.toArray⟩:ByteArray).size=s.length:=by simp [ByteArray.size]
  have hb:=Ou (P:=P) (isS:=false) (len:=s.length) (cap:=s.length) o n m (jp _) V.w;refine⟨.string ((⟨s.toArray⟩:ByteArray).extract (Nl l).toNat (Nh s.length h).toNat),?_,?_⟩
  ·rw [<-a] at hb
   have e:=WO ht.out hb;rw [a] at e;simp only [execOp,u,r,q,Option.map_none,nc,e,kw];rfl
  ·have p:((⟨s.toArray⟩:ByteArray).extract (Nl l).toNat (Nh s.length h).toNat)=⟨((s.take (Nh s.length h).toNat).drop (Nl l).toNat).toArray⟩:=by
    apply ByteArray.ext;rw [ByteArray.data_extract];apply Array.toList_inj.1;simp [List.extract_eq_take_drop,List.drop_take]
   rw [p];exact .d (.v rfl)
theorem fz{t e:TypeId}{k b:Nat}{x:Operand}{lo hi:Option Operand}{rows:List (List D)}{l h:Option (IntKind×Int)}[G:CO P t e k b](U:ev f x=some (.o (.d (.l rows))))(hl:ei f lo=some l)(hh:ei f hi=some h)(hk:∀r∈rows,r.length=k)
 (h0:0<=Nl l) (h1:Nl l<=Nh rows.length h) (h2:Nh rows.length h<=rows.length):AX P TB Z ⟨d,.slice t x lo hi none,ty,pos,af,g⟩ f σ nx (.o (.d (.l ((rows.take (Nh rows.length h).toNat).drop (Nl l).toNat)))):=
 AO λV ρ H _=>by
  have B:=H.get (by simp [Op.operands]) U;have e2:=NV H (x:=lo) (λy F=>by subst F;simp [Op.operands]) hl;have e3:=NV H (x:=hi) (λy F=>by subst F;simp [Op.operands]) hh;generalize X:ρ x=v at B;obtain⟨i,Y,L,hs,_⟩:=GP G.out;generalize I:(Nl l).toNat=lo' at *;generalize M:(Nh rows.length h).toNat=c at *
  have A:lo'<=c/\c<=rows.length:=by omega
  have p:∀(a:Option Addr) (cap:Nat),rows.length<=cap->v=.slice a rows.length cap->(execOp ρ ⟨d,.slice t x lo hi none,ty,pos,af,g⟩).run P V.w=.ok (.value (.slice (if cap=lo' then a else a.map (·.add (lo'*i.size))) (c - lo') (cap - lo'))) V.w:=by
   intro a cap R he;have hb:=Ou (P:=P) (isS:=true) (len:=rows.length) (cap:=cap) h0 h1 h2 R V.w;rw [I,M] at hb;subst he;have s:=WN Y L (a:=a) hb;simp only [execOp,X,e2,e3,Option.map_none,nc,s,kw];rfl
  have z:((rows.take c).drop lo').length=c - lo':=by simp;omega
  obtain⟨B⟩:=B
  cases B with
  | nil=>
   have s:lo'=0/\c=0:=by simp at A;omega
   obtain⟨rfl,rfl⟩:=s;exact⟨_,p none 0 (by simp) rfl,.d .nil⟩
  | @e a cap R=>
   have s:lo'=0/\c=0:=by simp at A;omega
   obtain⟨rfl,rfl⟩:=s;refine⟨_,p (some a) cap (by simp) rfl,?_⟩;by_cases Q:cap=0
   ·rw [if_pos Q];exact .d (.e (by omega))
   ·rw [if_neg Q];exact .d (.e (by omega))
  | @l _ b' o k' cap vs hb s Q S h6 h7=>
   refine⟨_,p (some ⟨b',o,none⟩) cap s rfl,?_⟩;by_cases T:c - lo'=0
   ·have:(rows.take c).drop lo'=[]:=List.eq_nil_of_length_eq_zero (by omega)
    rw [this,T];split
    ·exact .d (.e (by omega))
    ·exact .d (.e (by omega))
   ·have N:¬cap=lo':=by omega
    rw [if_neg N];simp only [pf,BF]
    have J:k'=i.size:=by
     have u:0 < rows.length:=by omega
     have e5:=S 0 _ (d6 u);have e6:=hk _ (nJ u);omega
    have m:∀(q:Nat) (r:List D),((rows.take c).drop lo')[q]? = some r->rows[lo'+q]? = some r:=λq r n=>by
     rw [nA,nz] at n;split at n
     ·exact n
     ·cases n
    rw [<-z];refine .d (.l (k:=k') (vs:=λq j=>vs (lo'+q) j) hb (by omega) (by omega) (λq r n=>S _ r (m q r n)) (λq r j dd n K=>?_) (λq r j dd n K=>h7 _ r j dd (m q r n) K));have:=h6 _ r j dd (m q r n) K;rw [<-J]
    have e7:o+lo'*k'+q*k'+j=o+(lo'+q)*k'+j:=by rw [nH];omega
    rw [e7];exact this
theorem dk{t e:TypeId}(ht:P.underlying t=some (.slice e))(a:Option Addr)(n c:Nat)(w:World):(binOp .eql t (.slice a n c) (.slice none 0 0)).run P w=.ok (.bool a.isNone) w:=by
 have h:∀d:Nat,(Op.equalIn (d+1) t (.slice a n c) (.slice none 0 0)).run P w=.ok a.isNone w:=λd=>by
  cases a<;>simp [Op.equalIn,run_underlying ht]
 simp only [binOp];simp [Op.equal,Op.maxDepth,h 9999]
theorem Lh{t e yt:TypeId}{k b:Nat}{x:Operand}{rows:List (List D)}[m:CO P t e k b](q:ev f x=some (.o (.d (.l rows))))(z:∀c,(c=true->rows=[])->K (eB c) σ nx) :
 Cb P TB Z ⟨d,.binOp .eql t x (.const (.slice none 0 0)) yt,ty,pos,af,g⟩ f σ nx K:=by
 intro V a H G F;subst F;have j:=H.Hz.get (x:=x) (by simp [Op.operands]) q;have I:a.eval (.const (.slice none 0 0))=.slice none 0 0:=rfl;obtain⟨i,s,_,_,_⟩:=GP m.out;generalize r:a.eval x=v at j
 have key:∀(p:Option Addr) (n c:Nat),v=.slice p n c->(p.isNone=true->rows=[])->Oper.wp P ⟨d,.binOp .eql t x (.const (.slice none 0 0)) yt,ty,pos,af,g⟩ a V.w (λa' w'=>∃V' v x σ',V'.w=w'/\a'=a.put d v/\Ext V V'/\Inv TB Z V' σ'/\Bl V' x v/\K x σ' V'.nx) lp:=by
  intro p n c y u;unfold Oper.wp;have A:execOp a.eval ⟨d,.binOp .eql t x (.const (.slice none 0 0)) yt,ty,pos,af,g⟩=(do let v <-(do eqGuard .eql t x (.const (.slice none 0 0)) (a.eval x) (a.eval (.const (.slice none 0 0)));binOp .eql t (a.eval x) (a.eval (.const (.slice none 0 0))));pure (.value v)):=rfl;have B:eqGuard .eql t x (.const (.slice none 0 0)) (.slice p n c) (.slice none 0 0)=pure ():=rfl;rw [A,r,I,y,B];rw [pure_bind,nc,dk s,kw];exact⟨V,.bool p.isNone,eB p.isNone,σ,rfl,rfl,Ext.refl V,G,AG.d (.v rfl),z p.isNone u⟩
 obtain⟨j⟩:=j
 cases j with
 | nil=>exact key none 0 0 rfl λ_=>rfl
 | e=>exact key (some _) 0 _ rfl λh=>by cases h
 | l=>exact key (some _) _ _ rfl λh=>by cases h
def IH(l:List (List UInt8×Int)):List (Value×Value):=l.map λp=>(.string ⟨p.1.toArray⟩,.int .i64 p.2)
def CQ(l:List (List UInt8×Int))(s:List UInt8):Option Int:=(l.find? λp=>decide (p.1=s)).map (·.2)
theorem jH(a b:List UInt8):((⟨a.toArray⟩:ByteArray) == ⟨b.toArray⟩)=decide (a=b):=by
 have h:((⟨a.toArray⟩:ByteArray) == ⟨b.toArray⟩)=(a.toArray == b.toArray):=rfl;rw [h,oT];simp
theorem KY(s:List UInt8):∀(l:List (List UInt8×Int)) (es:List MapEntry) (i:Nat),es.map (λe=>(e.key,e.val))=IH l->∃r,Instr.findNow .string (.string ⟨s.toArray⟩) es i=some r/\r.map (·.2)=(CQ l s).map (.int .i64)
 | [],es,i,h=>by
  have:es=[]:=by simpa [IH] using h
  subst this;exact⟨none,rfl,rfl⟩
 | p :: l,es,i,h=>by
  cases es with
  | nil=>simp [IH] at h
  | cons e es=>
   simp only [IH,oH,List.cons.injEq,Prod.mk.injEq] at h;obtain⟨⟨hk,b⟩,d⟩:=h
   have c:Instr.sameNow .string (.string ⟨s.toArray⟩) e.key=some (decide (s=p.1)):=by
    rw [hk]
    show some ((⟨s.toArray⟩:ByteArray) == ⟨p.1.toArray⟩)=_
    rw [jH]
   unfold Instr.findNow;rw [c];by_cases a:s=p.1
   ·refine⟨some (i,e.val),by simp [a],?_⟩
    simp [CQ,a,b]
   ·obtain⟨r,j,g⟩:=KY s l es (i+1) d
    have f:¬p.1=s:=λe=>a e.symm;refine⟨r,by simp [a,j],?_⟩;rw [g];simp [CQ,f]
theorem QT{t:TypeId}(i:K (.o (.mp nx)) ((nx,.mp [])::σ) (nx+1)):Cb P TB Z ⟨d,.makeMap t none,ty,pos,af,g⟩ f σ nx K:=
 DA λV ρ l k j=>by
  subst j
  have a:V.w.heap.size < (V.w.alloc (.map #[] 0)).heap.size:=by simp
  obtain⟨hi,h⟩:=k.alloc (c:=0) (nl:=False) (w:=V.w.alloc (.map #[] 0)) (ob:=.mp []) rfl rfl rfl rfl (qN a) (λb hb=>Bd V.w _ b hb) (by
   refine⟨by simp [Ax],#[],0,?_,rfl⟩
   have e:(Ax V V.w.heap.size 0 False (V.w.alloc (.map #[] 0))).ρ V.nx=V.w.heap.size:=by simp [Ax]
   rw [e]
   exact Cg V.w (.map #[] 0))
  refine⟨.map (some V.w.heap.size),_,_,_,?_,h,hi,?_,i⟩
  ·have:(Instr.makeMap t none).run P V.w=.ok (.map (some V.w.heap.size)) (V.w.alloc (.map #[] 0)):=rfl
   simp [execOp,this,Ax,go_sem]
  ·have:=@AG.mp (Ax V V.w.heap.size 0 False (V.w.alloc (.map #[] 0))) V.nx (by simp [Ax])
   have e:(Ax V V.w.heap.size 0 False (V.w.alloc (.map #[] 0))).ρ V.nx=V.w.heap.size:=by simp [Ax]
   rw [e] at this;exact this
class Qq (P:Program) (t:TypeId) (z:outParam Value):Prop where
 out:(P.info? t).bind (·.zero)=some z
class KH (P:Program) (t:TypeId) (k e:outParam TypeId):Prop where
 out:P.underlying t=some (.map k e)
theorem Kc{k:TypeId}(hk:P.underlying k=some .string)(b:Bool)(s:ByteArray)(w:World):(Instr.checkKey b 10000 k (.string s)).run P w=.ok () w:=by
 rw [show 10000=9999+1 from rfl];unfold Instr.checkKey;simp [run_underlying hk,go_sem]
theorem cS{t k e:TypeId}{x y:Operand}{id:Nat}{l:List (List UInt8×Int)}{s:List UInt8}[G:KH P t k e][hk:DQ P k][M:Qq P e (.int .i64 0)](Q:ev f x=some (.o (.mp id)))(N:ev f y=some (eT s))(R:look σ id=some (.mp (IH l))) :
 AX P TB Z ⟨d,.lookup t x y true,ty,pos,af,g⟩ f σ nx (.t [(false,[.d (.v (.int .i64 ((CQ l s).getD 0)))]),(false,[.d (.v (.bool (CQ l s).isSome))])]):=
 AO λV ρ F hi=>by
  have L:=F.get (by simp [Op.operands]) Q;have K:ρ y=.string ⟨s.toArray⟩:=AG.val (F.get (by simp [Op.operands]) N);generalize a:ρ x=v at L
  cases L with
  | mp S =>
   obtain⟨hn,ents,clock,J,U⟩:=hi.st.obj id _ R;obtain⟨r,T,p⟩:=KY s l ents.toList 0 U;have b:=M.out;simp only [nh] at b;obtain⟨i,A,z⟩:=b
   have u:(zeroValue e).run P V.w=.ok (.int .i64 0) V.w:=by simp [zeroValue,typeInfo,A,z,go_sem]
   have h:(Instr.findKey k (.string ⟨s.toArray⟩) ents.toList).run P V.w=.ok r V.w:=by simp [Instr.findKey,run_underlying hk.out,T,go_sem]
   have m:=Kc hk.out ents.isEmpty ⟨s.toArray⟩ V.w;refine⟨.tuple #[.int .i64 ((CQ l s).getD 0),.bool (CQ l s).isSome],?_,⟨_,rfl,rfl,λj x v c a=>?_⟩⟩
   ·cases r with
    | none=>
     have B:CQ l s=none:=by simpa using p.symm
     simp [execOp,a,K,Instr.lookup,run_underlying G.out,MapKept.run_getObj_map J,m,h,u,B,go_sem]
    | some q=>
     obtain⟨n,B,I⟩:∃n,CQ l s=some n/\q.2=.int .i64 n:=by
      cases H:CQ l s with
      | none=>rw [H] at p;simp at p
      | some n=>rw [H] at p;exact⟨n,rfl,by simpa using p⟩
     obtain⟨Y,X⟩:=q;simp only at I;subst I;simp [execOp,a,K,Instr.lookup,run_underlying G.out,MapKept.run_getObj_map J,m,h,B,go_sem]
   ·match j with
    | 0=>simp at c a;subst c;subst a;exact⟨_,rfl,.d (.v rfl)⟩
    | 1=>simp at c a;subst c;subst a;exact⟨_,rfl,.d (.v rfl)⟩
    | j+2=>simp at c
theorem j9{t k e:TypeId}{x y z:Operand}{id:Nat}{l:List (List UInt8×Int)}{s:List UInt8}{n:Int}[U:KH P t k e][hk:DQ P k](Q:ev f x=some (.o (.mp id)))(N:ev f y=some (eT s))(M:ev f z=some (eI .i64 n))(G:look σ id=some (.mp (IH l)))
 (T:CQ l s=none) (H:K (.t []) ((id,.mp (IH (l++[(s,n)])))::σ) nx):Cb P TB Z ⟨d,.mapUpdate t x y z,ty,pos,af,g⟩ f σ nx K:=by
 intro V a c J h3;have c:=c.Hz;unfold Oper.wp;generalize a.eval=ρ at c |-;have L:=c.get (x:=x) (by simp [Op.operands]) Q;have e2:ρ y=.string ⟨s.toArray⟩:=AG.val (c.get (by simp [Op.operands]) N);have e3:ρ z=.int .i64 n:=AG.val (c.get (by simp [Op.operands]) M);generalize R:ρ x=v at L
 cases L with
 | mp Y=>
  obtain⟨m,ents,clock,F,B⟩:=J.st.obj id _ G;obtain⟨r,h6,I⟩:=KY s l ents.toList 0 B;rw [T] at I
  have S:r=none:=by cases r with
   | none=>rfl
   | some q=>simp at I
  subst S
  have u:(Instr.findKey k (.string ⟨s.toArray⟩) ents.toList).run P V.w=.ok none V.w:=by simp [Instr.findKey,run_underlying hk.out,h6,go_sem]
  have A:=Kc hk.out false ⟨s.toArray⟩ V.w
  let ob:Obj:=.map (ents.push { key:=.string ⟨s.toArray⟩,val:=.int .i64 n,born:=clock }) (clock+1)
  let w':World:={ V.w with heap:=V.w.heap.setIfInBounds (V.ρ id) ob }
  have h:=MapKept.run_setObj_map (P:=P) ob F;have p:=(nu.1 F).1
  obtain⟨hi,he⟩:=J.write G m (w:=w') (ob':=.mp (IH (l++[(s,n)]))) rfl rfl rfl rfl rfl (by simp [w']) (λb hb=>by simp [w',o8,Ne.symm hb]) (by
   refine⟨m,ents.push { key:=.string ⟨s.toArray⟩,val:=.int .i64 n,born:=clock },clock+1,?_,?_⟩
   ·show w'.heap[V.ρ id]? = some ob
    simp [w',o8,p]
   ·simp [IH] at B |-
    exact B)
  have i:(execOp ρ ⟨d,.mapUpdate t x y z,ty,pos,af,g⟩).run P V.w=.ok .skip w':=by
   simp [execOp,R,e2,e3,Instr.mapUpdate,run_underlying U.out,MapKept.run_getObj_map F,A,u,h,ob,w',go_sem]
  rw [i];exact⟨{ V with w:=w' },.tuple #[],.t [],_,rfl,rfl,he,hi,⟨#[],rfl,rfl,λj x v X=>by simp at X⟩,by rw [<-h3] at H;exact H⟩
end
section
variable {P:Program}{TB:Bz}
def Xz(f:Env)(t:Tmp)(n:Nat):Option (Bool×List C):=match f t with
 | some (.o (.d (.p cs)))=>match Nat.beq cs.length n with
  | true=>some (true,cs.map .d)
  | false=>none
 | _=>none
def da(n:Nat)(rs:Array ResultVar)(f:Env):Option E:=match rs.toList with
 | [.cell t _]=>match Xz f t n with
  | some (_,cs)=>some (.a cs)
  | none=>none
 | [.cell t _,.tmp u]=>match Xz f t n,(f u).bind MD with
  | some x,some y=>some (.t [x,y])
  | _,_=>none
 | _=>none
def jA(n:Nat)(rs:Array ResultVar)(post:E->Ab->Nat->Prop):Exit->Env->Ab->Nat->Prop
 | .ret,f,σ,nx|.normal,f,σ,nx=>∃x,da n rs f=some x/\post x σ nx
 | _,_,_,_=>False
theorem Qu{V:View}{f:Env}{a:Act}{t:Tmp}{T':TypeId}{n:Nat}{x:Bool×List C}(l:DL P T' true n)(u:Em V f a.tmps)(h:Xz f t n=some x) :
 ∃v,((do loadVar T' (<-asAddr (a.tmps.getD t undef))):Sem Value).run P V.w=.ok v V.w/\∃cs,x=(true,cs)/\Bl V (.a cs) v:=by
 unfold Xz at h;split at h
 ·rename_i ds s
  split at h
  ·rename_i i
   have i:=i8 i
   injection h with h
   subst h;have e:AG V (.d (.p ds)) (a.tmps.getD t undef):=u t _ s;generalize B:a.tmps.getD t undef=A at e;obtain⟨e⟩:=e
   cases e with
   | @p _ b o vs hb z y=>
    refine⟨.agg ((List.range n).map λq=>vs q).toArray,?_,_,rfl,_,rfl,by simp [i],λj c v m g=>?_⟩
    ·have:(loadCells ⟨b,o,none⟩ n).run P V.w=.ok ((List.range n).map λq=>vs q).toArray V.w:=run_loadCells V.w _ n _ λq k=>by
      rw [BF];exact z q ds[q] (d6 (by omega))
     unfold loadCells at this;simp [asAddr,loadVar,(BH l.out V.w).1,(BH l.out V.w).2,this,go_sem]
    ·rw [i9,d7] at m
     obtain⟨dd,r,rfl⟩:=m
     have k:j < n:=by have:=(ce.1 r).1;omega
     have:v=vs j:=by simpa [k] using g.symm
     subst this;exact .d (y j dd r)
  ·cases h
 ·cases h
theorem db{fn:Func}{V:View}{f:Env}{a:Act}{x:E}{T':TypeId}{n:Nat}{t:Tmp}(I:DL P T' true n)(p:fn.results.toList.head? = some (.cell t T'))(A:Em V f a.tmps)(h:da n fn.results f=some x):∃v,(results fn a.tmps).run P V.w=.ok v V.w/\Bl V x v:=by
 have key : ∀ l:List ResultVar,fn.results=l.toArray->l.head? = some (.cell t T')->da n l.toArray f=some x->∃v,(results fn a.tmps).run P V.w=.ok v V.w/\Bl V x v:=by
  intro l e c h;unfold da at h;simp only at h;split at h
  ·rename_i m T1
   simp at c;obtain⟨rfl,rfl⟩:=c;split at h
   ·rename_i b cs q
    injection h with h
    subst h;obtain⟨v,G,cs',k,B⟩:=Qu I A q
    injection k with k L
    subst L;refine⟨v,?_,B⟩
    have d:(results fn a.tmps).run P V.w=((do loadVar T1 (<-asAddr (a.tmps.getD m undef))):Sem Value).run P V.w:=by simp [results,e,-Array.getD_eq_getD_getElem?,go_sem]
    rw [d,G]
   ·cases h
  ·rename_i m T1 u
   simp at c;obtain⟨rfl,rfl⟩:=c;split at h
   ·rename_i N M q H
    injection h with h
    subst h;obtain⟨v,G,cs',k,B⟩:=Qu I A q;subst k;simp only [nh] at H;obtain⟨y,J,o⟩:=H;refine⟨.tuple #[v,a.tmps.getD u undef],?_,_,rfl,rfl,λj x v' g i=>?_⟩
    ·obtain⟨F,K,z,s⟩:∃F:ResultVar->Sem Value,results fn a.tmps=(do let vs <-fn.results.mapM F;pure (if h:vs.size=1 then vs[0] else .tuple vs))/\(F (.cell m T1)).run P V.w=.ok v V.w/\(F (.tmp u)).run P V.w=.ok (a.tmps.getD u undef) V.w:=
      ⟨λr=>match r with
       | .tmp t=>pure (a.tmps.getD t undef)
       | .cell b t=>do loadVar t (<-asAddr (a.tmps.getD b undef)),rfl,G,rfl⟩
     rw [K,e];simp [z,s,-Array.getD_eq_getD_getElem?,go_sem]
    ·match j with
     | 0=>simp at g i;subst g;subst i;exact B
     | 1=>simp at g i;subst g;subst i;exact FK o (by simpa using A u y J)
     | j+2=>simp at g
   ·cases h
  ·cases h
 exact key fn.results.toList (by simp) p (by simpa using h)
theorem AR.ofM {g:FuncId} {fn:Func} {c:Code} {m:Nat} {σ:Ab} {nx:Nat} {args:List E} {post:E->Ab->Nat->Prop} (n:Nat) {t:Tmp} {T':TypeId} (G:m<=nx) [H:DL P T' true n] (u:P.funcs[g]? = some fn) (hb:fn.body=some c) (r:fn.results.toList.head? = some (.cell t T')) (f:(fn.name == "runtime.NumGoroutine")=false)
 (j:args.length<=fn.ntmps) (h:∀Z:Ctx,Z.V.nx=m->Aj P TB Z fn.ntmps c (jA n fn.results post) (look (Ck 0 args)) σ nx):AR P TB g m σ nx args post:=by
 refine⟨⟨fn,u,f,by rw [hb];rfl⟩,?_⟩;intro V vs S p ha;refine calls_of_wp u hb ?_
 have J:vs.size<=fn.ntmps:=by rw [ha.1];exact j
 have hi:Inv TB (Fg V (Ko V m) σ S) V σ:=
  ⟨rfl,rfl,rfl,λ_ _ _=>rfl,p.iLt,λ_ h=>.inl h,XK (by rw [p.nx];exact G),p.st,λid o F s b hb=>.inr (.inl ⟨id,o,F,s,hb⟩),p.tabs,⟨S,p.hid,λb hb=>.inl hb,λb hb=>.inr (.inr hb)⟩⟩
 have A:Cq TB (Fg V (Ko V m) σ S) fn.ntmps V (look (Ck 0 args)) σ nx { tmps:=vs++Array.replicate (fn.ntmps - vs.size) undef,defers:=[] } := by
  refine⟨?_,?_,by simp;omega,hi,p.nx,rfl⟩
  ·intro t e q
   obtain⟨_,a⟩:=Cf args 0 t e q
   have a:args[t]? = some e:=by simpa using a
   have i:t < vs.size:=by rw [ha.1];exact(ce.1 a).1
   have I:=ha.2 t e vs[t] a (mt i)
   simpa [nv i,i] using I
  ·intro t e q
   obtain⟨_,a⟩:=Cf args 0 t e q
   have a:args[t]? = some e:=by simpa using a
   have:=(ce.1 a).1;omega
 refine wp_mono (h (Fg V (Ko V m) σ S) rfl V _ A) ?_;rintro e a' w' ⟨V',f',σ',rfl,k,d⟩
 have fin:(∃x,da n fn.results f'=some x/\post x σ' V'.nx)->a'.defers=[]/\∃v,(results fn a'.tmps).run P V'.w=.ok v V'.w/\∃V'' v' x σ'',Ending.returned v=.returned v'/\V''.w=V'.w/\Inv TB (Fg V (Ko V m) σ S) V'' σ''/\Bl V'' x v'/\post x σ'' V''.nx:=by
  rintro⟨x,y,B⟩;obtain⟨v,z,q⟩:=db (P:=P) H r d.env y;exact⟨d.defers,v,z,V',v,x,σ',rfl,rfl,d.inv,q,B⟩
 cases e with
 | normal=>exact fin k
 | ret=>exact fin k
 | exit id=>exact k.elim
 | goto l=>exact k.elim
 | panic ch=>exact k.elim
 | outgrown=>exact k.elim
theorem AR.Ho{g:FuncId}{σ:Ab}{nx:Nat}{args:List E}{post:E->Ab->Nat->Prop}(h:AR P TB g nx σ nx args post):Spec P TB g σ nx args post:=
 ⟨h.1,λV vs S a ha=>(h.2 V vs S a ha).mono λ_ _ ⟨V',v,x,σ',i,f,e,d,c⟩=>⟨V',v,x,σ',i,f,by have b:=a.nx;subst b;exact e,d,c⟩⟩
end
end Go.Am
