/-
  Literals, strings, parts of slices, closures.
-/
import Derived.Test.YtdipaikojjjebaaGreatDoorPart7
import Derived.Laws.IdiomStrings
import Derived.ChangeKeysEq
set_option linter.all false
namespace Go.Am
open Go
abbrev eT(l:List UInt8):E:=.o (.d (.v (.string ⟨l.toArray⟩)))
def OR:List E->Option (List (List D))
 | []=>some []
 | e::l=>(Pl (eC e)).bind λr=>(OR l).map (r :: ·)
theorem OS:∀ {l:List E} {rows:List (List D)},OR l=some rows->rows.length=l.length/\∀(i:Nat) (r:List D),rows[i]?=some r->∃e,l[i]?=some e/\Pl (eC e)=some r
 | [],rows,h=>by injection h with h;subst h;exact⟨rfl,λi r hi=>by simp at hi⟩
 | e::l,rows,h=>by
  simp only[OR,lM,d6]at h;obtain⟨g,f,rows',d,rfl⟩:=h;have a:=OS d;refine⟨by simp[a.1],λi r hi=>?_⟩
  cases i with
  | zero=>simp at hi;subst hi;exact⟨e,rfl,f⟩
  | succ i=>obtain⟨e',c,b⟩:=a.2 i r (by simpa using hi);exact⟨e',by simpa using c,b⟩
def ia(P:Program)(t:TypeId):Option (List (Nat×Nat)):=match P.underlying t with
 | some (.struct fs)=>fs.toList.mapM λf=>(P.info? f.type).map λi=>(f.offset,i.size)
 | some (.array n e)=>(P.info? e).map λi=>(List.range n).map λj=>(j*i.size,i.size)
 | _=>none
class Eg (P:Program) (t:TypeId) (fl:outParam (List (Nat×Nat))):Prop where
 out:ia P t=some fl
def E5(fl:List (Nat×Nat)):List (Nat×Operand)->List E->Option (List (Nat×List C))
 | [],[]=>some []
 | (i,_)::ps,e::es=>match fl[i]? with
  | some (off,size)=>bif Nat.beq (eC e).length size && Sc e then (E5 fl ps es).map ((off,eC e) :: ·) else none
  | none=>none
 | _,_=>none
section
variable {P:Program}{TB:BA}{Γ:Ctx}{d:Option Tmp}{ty:TypeId}{pos:String}{af:Array Edge}{g:Option (Nat×Bool)}{f:Env}{σ:Ab}{nx:Nat}
variable {K:E->Ab->Nat->Prop}
theorem Hv{t e:TypeId}{k b n:Nat}{z:List Value}{parts:Array (Nat×Operand)}(A:fM P t=some (e,k,b))(q:X8 P e=some z)(j:z.length=k)(m:z.all O2=true){es:List E}{V:View}{ρ:Operand->Value}(h:LZ V ⟨d,.buildSlice t n parts,ty,pos,af,g⟩ f ρ)
 (s:Dh 0 (parts.toList.map (·.2))=parts.toList) (y:parts.toList.length=n) (o:I6 f (parts.toList.map (·.2))=some es) (u:es.all Sc=true) (hk:∀x∈es,(eC x).length=k) (l:n*k<=16777216) :
 ∃cur,(execOp ρ ⟨d,.buildSlice t n parts,ty,pos,af,g⟩).run P V.w=.ok (.value (.slice (some ⟨V.w.heap.size,0,none⟩) n n)) (V.w.alloc (.cells cur e))/\cur.size=n*k/\C1 V (es.map eC).flatten cur:=by
 have a:(parts.toList.map (·.2)).length=n:=by simpa using y
 obtain⟨cur,c,p,F⟩:=Oy (P:=P) (f:=f) (V:=V) (xs:=parts.toList.map (·.2)) (ρ:=ρ) A q j m (λx r e B=>h.get (by simp only[Op.operands];simpa using r) B) o u hk (by rw[a];exact l);rw[a]at c p;refine⟨cur,?_,p,F⟩;rw[s]at c
 show ((do let v <-Instr.buildSlice t n (parts.map λ(i,x)=>(i,ρ x));pure (Go.Next.value v):Sem Go.Next)).run P V.w=_
 rw[Array.toArray_toList]at c;simp only[lK,c,lc];rfl
theorem ae{t e:TypeId}{k b n:Nat}{z:List Value}{parts:Array (Nat×Operand)}{es:List E}{rows:List (List D)}[Z:CM P t e k b][T:BM P e z](X:Dh 0 (parts.toList.map (·.2))=parts.toList)(N:parts.toList.length=n)
 (A:I6 f (parts.toList.map (·.2))=some es) (Y:es.all Sc=true) (G:OR es=some rows) (hk:(rows.all λr=>Nat.beq r.length k)=true) (F:z.length=k) (H:z.all O2=true) (K:Nat.ble 1 k=true) (p:Nat.ble (n*k) 16777216=true) :
 A1 P TB Γ ⟨d,.buildSlice t n parts,ty,pos,af,g⟩ f σ nx (.o (.d (.l rows))):=
 LG λV ρ h1 h2=>by
  have c:=OS G
  have s:∀x∈es,(eC x).length=k:=λx U=>by
   obtain⟨i,hi,rfl⟩:=lO U
   have y:i<rows.length:=by omega
   obtain⟨e',m,S⟩:=c.2 i rows[i] (d5 y);rw[d5 hi]at m
   injection m with m
   rw[m,<-Mz S];exact gc (ge.1 hk _ (l7 y))
  obtain⟨cur,m,S,h5⟩:=Hv Z.out T.out F H h1 X N A Y s (ce p);obtain⟨hi,Q⟩:=h2.YI (w:=V.w.alloc (.cells cur e)) rfl rfl rfl (by simp) (λb hb=>Bb _ _ _ hb)
  have q:rows.length=n:=by
   rw[c.1,CJ A];simpa using N
  have a:∀(i:Nat) (r:List D) (j:Nat) (x:D),rows[i]?=some r->r[j]?=some x->∃v,cur[i*k+j]?=some v/\Dj V.I V.w x v:=λi r j x hi u=>by
   obtain⟨e',B,M⟩:=c.2 i r hi;have h8:=KL M j x u
   obtain⟨v,R,h⟩:=HZ h5 (λr G=>by
    obtain⟨e2,L,rfl⟩:=d8.1 G
    exact s e2 L) i (eC e') j (.d x) (by simp[B]) h8
   cases h with
   | d h=>exact⟨v,R,h⟩
  have J:n<=maxLen:=by
   have R:=ce p;have:n<=n*k:=mQ _ (ce K);unfold maxLen;omega
  refine⟨_,_,m,Q,hi,rfl,?_⟩;have hb:(QR V (V.w.alloc (.cells cur e))).I V.w.heap.size:=.inr rfl;have hh:(QR V (V.w.alloc (.cells cur e))).w.heap[V.w.heap.size]?=some (.cells cur e):=Ck _ _;have := @Dj.l (QR V (V.w.alloc (.cells cur e))).I (QR V (V.w.alloc (.cells cur e))).w rows V.w.heap.size 0 k n (λi j=>cur.getD (i*k+j) undef) hb (by omega) J
   (λi r hi=>gc (ge.1 hk _ (co hi)))
   (λi r j x hi u=>by
    obtain⟨v,B,_⟩:=a i r j x hi u
    simp[World.cell?,hh,B])
   (λi r j x hi u=>by
    obtain⟨v,B,M⟩:=a i r j x hi u
    have:cur.getD (i*k+j) undef=v:=by simp[B]
    rw[this];exact M.ext Q)
  rw[q]at this;exact .d this
theorem Br{t e:TypeId}{k b n:Nat}{z:List Value}{parts:Array (Nat×Operand)}{es:List E}[H:CM P t e k b][A:BM P e z](F:Dh 0 (parts.toList.map (·.2))=parts.toList)(w:parts.toList.length=n)
 (l:I6 f (parts.toList.map (·.2))=some es) (G:es.all Sc=true) (j:∀x∈es,(eC x).length=k) (m:z.length=k) (p:z.all O2=true) (s:Nat.ble 1 k=true) (a:Nat.ble (n*k) 16777216=true)
 (J:K (.o (.arr nx k 0 n)) ((nx,.cells e k (es.map eC))::σ) (nx+1)):Cr P TB Γ ⟨d,.buildSlice t n parts,ty,pos,af,g⟩ f σ nx K:=
 Dp λV ρ Q N v=>by
  subst v;obtain⟨cur,v,M,L⟩:=Hv H.out A.out m p Q F w l G j (ce a)
  have i:(es.map eC).length=n:=by
   rw[f7,CJ l];simpa using w
  have q:n<=maxLen:=by
   have S:=ce a;have:n<=n*k:=mQ _ (ce s);unfold maxLen;omega
  have h:∀r∈es.map eC,r.length=k:=λr B=>by
   obtain⟨R,u,rfl⟩:=d8.1 B;exact j R u
  obtain⟨hi,I,y⟩:=SU N (e:=e) (k:=k) (c:=n) (rows:=es.map eC) (cur:=cur) rfl M (by omega) q h (HZ L h);rw[i]at y;exact⟨_,_,_,_,v,I,hi,(show Bd _ (.o _) _ from y),J⟩
theorem C8{V:View}{ρ:Operand->Value}{fl:List (Nat×Nat)}:∀(ps:List (Nat×Operand)) (es:List E) (qs:List (Nat×List C)),(∀x∈ps.map (·.2),∀e,ev f x=some e->Bd V e (ρ x))->I6 f (ps.map (·.2))=some es->E5 fl ps es=some qs->
 Qh V (fl[·]?) (ps.map λ(i,x)=>(i,ρ x)) qs
 | [],es,qs,_,a,h=>by
  injection a with a;subst a
  injection h with h;subst h;trivial
 | (i, x)::ps,es,qs,b,a,h=>by
  simp only[mP,I6,lM,d6]at a;obtain⟨e',k,es',j,rfl⟩:=a;simp only[E5]at h;split at h
  ·rename_i off size c
   cases hb:Nat.beq (eC e').length size && Sc e'
   ·rw[hb]at h;cases h
   ·rw[hb]at h
    simp only[cond_true,d6]at h;obtain⟨qs',g,rfl⟩:=h;rw[d4]at hb;have:=gc hb.1;subst this;exact⟨c,Nz hb.2 (b x (by simp) e' k),C8 ps es' qs' (λy d=>b y (by simp at d |-;exact .inr d)) j g⟩
  ·cases h
theorem AP{t:TypeId}{z:List Value}{fl:List (Nat×Nat)}{parts:Array (Nat×Operand)}{es:List E}{qs:List (Nat×List C)}[U:BM P t z][Y:Eg P t fl](Q:I6 f (parts.toList.map (·.2))=some es)(X:E5 fl parts.toList es=some qs)
 (L:z.all O2=true) (M:(qs.all λx=>Nat.ble (x.1+x.2.length) z.length)=true):A1 P TB Γ ⟨d,.build t parts,ty,pos,af,g⟩ f σ nx (.a (Bt qs (z.map zC))):=
 AI λV ρ h1 _=>by
  obtain⟨i,zv,hi,A,s⟩:=HD U.out;have N:=C8 (V:=V) (ρ:=ρ) parts.toList es qs (λx J e Z=>h1.get (by simp only[Op.operands];simpa using J) Z) Q X
  have I:C1 V (z.map zC) zv.cells:=by
   refine⟨by rw[f7,<-s];simp,λj c v S R=>?_⟩;simp only[io,d6]at S;obtain⟨u,k,rfl⟩:=S
   have:u=v:=by
    rw[<-s]at k;simp only[mw]at k;rw[k]at R;exact Option.some.inj R
   subst this;exact JF (ge.1 L u (co k))
  obtain⟨cells,G,h4⟩:=FK _ _ _ _ N I (λx J=>by rw[f7];exact HY _ _ M x J);have r:=Y.out
  have b:(parts.map λ(i,x)=>(i,ρ x)).toList=parts.toList.map λ(i,x)=>(i,ρ x):=by simp
  refine⟨.agg cells,?_,cells,rfl,h4⟩
  have hb : (Instr.build t (parts.map λ(i,x)=>(i,ρ x))).run P V.w=.ok (.agg cells) V.w:=by
   unfold ia at r;split at r
   ·rename_i fs k
    have K:∀(l:List Field) (ll:List (Nat×Nat)),(l.mapM λf=>(P.info? f.type).map λi=>(f.offset,i.size))=some ll->∀w,((l.mapM λf=>do pure (f.offset,<-sizeOf f.type)):Sem (List (Nat×Nat))).run P w=.ok ll w:=by
     intro l
     induction l with
     | nil=>intro ll h w;simp at h;subst h;simp[go_sem]
     | cons y l H=>
      intro ll h w;simp only[nw,oW,lM,d6]at h;obtain⟨p,⟨ii,o,rfl⟩,ll',h5,T⟩:=h;simp at T;subst T
      have hs:(sizeOf y.type).run P w=.ok ii.size w:=by simp[sizeOf,typeInfo,o,go_sem]
      have ihh:=H ll' h5 w;simp only[bind_pure_comp]at ihh;simp only[nw,lK,hs,lc,bind_pure_comp,nI,ihh]
    have B:=K fs.toList fl r V.w
    have m:(zeroValue t).run P V.w=.ok zv V.w:=by simp[zeroValue,typeInfo,hi,A,go_sem]
    have ha:((fs.mapM λf=>do pure (f.offset,<-sizeOf f.type)):Sem (Array (Nat×Nat))).run P V.w=.ok fl.toArray V.w:=by
     rw[nX,nI,B];rfl
    rw[<-b]at G;simp only[Instr.build,lK,m,lc,run_underlying k,ha];simp only[mC];rw[G];rfl
   ·rename_i n e k
    simp only[d6]at r;obtain⟨ii,o,rfl⟩:=r
    have m:(zeroValue t).run P V.w=.ok zv V.w:=by simp[zeroValue,typeInfo,hi,A,go_sem]
    have hs:(sizeOf e).run P V.w=.ok ii.size V.w:=by simp[sizeOf,typeInfo,o,go_sem]
    have q:∀(ps:List (Nat×Value)) (c c':Array Value),Instr.fill (λi=>((List.range n).map λj=>(j*ii.size,ii.size))[i]?) c ps=some c'->Instr.fill (λi=>some (i*ii.size,ii.size)) c ps=some c':=by
     intro ps
     induction ps with
     | nil=>intro c c' h;simpa[Instr.fill]using h
     | cons p ps H=>
      intro c c' h;obtain⟨i',v'⟩:=p;unfold Instr.fill at h |-;by_cases F:i'<n
      ·simp only [io,nB F,nq]at h
       simp only at h |-;split at h
       ·cases h
       ·rename_i hno
        rw[if_neg hno];exact H _ _ (by simpa only[io]using h)
      ·simp[F]at h
    rw[<-b]at G;simp only[Instr.build,lK,m,lc,run_underlying k,hs];rw[q _ _ _ G];rfl
   ·cases r
  show ((do let v <-Instr.build t (parts.map λ(i,x)=>(i,ρ x));pure (Go.Next.value v):Sem Go.Next)).run P V.w=_
  simp only[lK,hb,lc];rfl
theorem Gl(k e:Nat)(i:K (.o (.arr nx k 0 0)) ((nx,.cells e k [])::σ) (nx+1)):Cr P TB Γ ⟨d,.assign (.const (.slice none 0 0)),ty,pos,af,g⟩ f σ nx K:=by
 intro V a m l j;subst j;obtain⟨hi,h⟩:=l.alloc (c:=0) (nl:=True) (w:=V.w) (ob:=.cells e k []) rfl rfl rfl rfl (i9 _) (λ_ _=>rfl) (.inl ⟨by simp[Au],rfl⟩);unfold Oper.wp
 have b:(execOp a.eval ⟨d,.assign (.const (.slice none 0 0)),ty,pos,af,g⟩).run P V.w=.ok (.value (.slice none 0 0)) V.w:=by simp[execOp,go_sem]
 rw[b];exact⟨Au V V.w.heap.size 0 True V.w,.slice none 0 0,.o (.arr V.nx k 0 0),_,rfl,rfl,h,hi,AF.nil (by simp[Au]) (by simp[Au]),i⟩
theorem fE{t:TypeId}{x:Operand}{s:List UInt8}[b:DE P t](a:ev f x=some (eT s)):A1 P TB Γ ⟨d,.call ⟨.builtin .len,#[x],#[t]⟩,ty,pos,af,g⟩ f σ nx (eI .i64 s.length):=by
 have:=fD (t:=t) (P:=P) (TB:=TB) (Γ:=Γ) (d:=d) (ty:=ty) (pos:=pos) (af:=af) (g:=g) (σ:=σ) (nx:=nx) a;exact this
theorem ZW{t:TypeId}{x y:Operand}{s:List UInt8}{n:Int}{c:UInt8}{ik:IntKind}[j:DE P t](e:ev f x=some (eT s))(b:ev f y=some (eI ik n))
 (i:0<=n) (h:s[n.toNat]?=some c):A1 P TB Γ ⟨d,.index t x y,ty,pos,af,g⟩ f σ nx (eI .u8 (c.toNat:Int)):=by
 obtain⟨a,rfl⟩:=am.1 h;exact ZV (P:=P) (TB:=TB) (Γ:=Γ) (d:=d) (ty:=ty) (pos:=pos) (af:=af) (g:=g) (σ:=σ) (nx:=nx) e b i a
theorem iI{t yt:TypeId}{x y:Operand}{a b:List UInt8}(e:ev f x=some (eT a))(c:ev f y=some (eT b))(j:a.length+b.length<=9223372036854775807) :
 A1 P TB Γ ⟨d,.binOp .add t x y yt,ty,pos,af,g⟩ f σ nx (eT (a++b)):=BI e c rfl λw=>by
 have i:¬((((⟨a.toArray⟩:ByteArray).size+(⟨b.toArray⟩:ByteArray).size:Nat):Int) > IntKind.i64.max):=by
  have:IntKind.i64.max=9223372036854775807:=by decide
  have l:(⟨a.toArray⟩:ByteArray).size=a.length:=by simp[ByteArray.size]
  have k:(⟨b.toArray⟩:ByteArray).size=b.length:=by simp[ByteArray.size]
  omega
 have h:(⟨a.toArray⟩:ByteArray)++⟨b.toArray⟩=⟨(a++b).toArray⟩:=by
  apply ByteArray.ext;simp
 have:(do eqGuard .add t x y (.string ⟨a.toArray⟩) (.string ⟨b.toArray⟩);binOp .add t (.string ⟨a.toArray⟩) (.string ⟨b.toArray⟩):Sem Value)=Op.stringOp .add ⟨a.toArray⟩ ⟨b.toArray⟩:=by
  simp[eqGuard,binOp]
 rw[this];unfold Op.stringOp;simp only;rw[if_neg i,h];rfl
theorem iL{t yt:TypeId}{x y:Operand}{a b:List UInt8}(e:ev f x=some (eT a))(c:ev f y=some (eT b)) :
 A1 P TB Γ ⟨d,.binOp .eql t x y yt,ty,pos,af,g⟩ f σ nx (eB (decide (a=b))):=BI e c rfl λw=>by
 simp[eqGuard,binOp,Op.stringOp,go_sem];rw[mZ];simp
theorem iV{t yt:TypeId}{x y:Operand}{a b:List UInt8}(e:ev f x=some (eT a))(c:ev f y=some (eT b)) :
 A1 P TB Γ ⟨d,.binOp .neq t x y yt,ty,pos,af,g⟩ f σ nx (eB (decide (a≠b))):=BI e c rfl λw=>by
 simp[eqGuard,binOp,Op.stringOp,go_sem];rw[mZ];simp
end
def C.jD:C->Bool
 | .d (.v _)=>true
 | _=>false
def E.sc:E->Bool
 | .o c=>c.jD
 | .a cs=>cs.all C.jD
 | .t xs=>xs.all λx=>x.2.all C.jD
 | .e=>true
theorem KC{V V':View}{c:C}{v:Value}(h:AF V c v)(a:c.jD=true):AF V' c v:=by
 cases h with
 | d h=>cases h with
  | v hs=>exact .d (.v hs)
  | _=>cases a
 | _=>cases a
theorem UB{V V':View}{e:E}{v:Value}(h:Bd V e v)(hs:e.sc=true):Bd V' e v:=by
 cases e with
 | e=>exact h
 | o c=>exact KC h hs
 | a cs=>
  obtain⟨vs,l,k⟩:=h;exact⟨vs,l,k.1,λj c v d f=>KC (k.2 j c v d f) (ge.1 hs c (co d))⟩
 | t xs=>
  obtain⟨vs,l,k,p⟩:=h;refine⟨vs,l,k,λj x v d f=>?_⟩;have n:=p j x v d f;have m:=ge.1 hs x (co d);obtain⟨b,cs⟩:=x;cases b
  ·obtain⟨c,g,i⟩:=n
   have g:cs=[c]:=g;subst g;exact⟨c,rfl,KC i (ge.1 m c (by simp))⟩
  ·obtain⟨ws,g,i⟩:=n
   exact⟨ws,g,i.1,λj c v d f=>KC (i.2 j c v d f) (ge.1 m c (co d))⟩
inductive CV (σ:Ab):C->C->Prop
 | pure {c:C}:c.BY=true->CV σ c c
 | arr {id k off len:Nat} {T:TypeId} {rows:List (List C)} {ds:List (List D)}:look σ id=some (.cells T k rows)->off+len<=rows.length->(rows.drop off).take len=ds.map (λr=>r.map .d)->CV σ (.arr id k off len) (.d (.l ds))
 | ptr {id k i j:Nat} {T:TypeId} {rows:List (List C)} {r:List C} {ds:List D}:look σ id=some (.cells T k rows)->rows[i]?=some r->r.drop j=ds.map .d->CV σ (.ptr id k i j) (.ip ds)
inductive EV (σ:Ab):E->E->Prop
 | o {c c':C}:CV σ c c'->EV σ (.o c) (.o c')
 | nil:EV σ (.a []) (.a [])
 | cons {c c':C} {cs cs':List C}:CV σ c c'->EV σ (.a cs) (.a cs')->EV σ (.a (c::cs)) (.a (c'::cs'))
inductive ga (σ:Ab):List E->List E->Prop
 | nil:ga σ [] []
 | cons {e e':E} {es es':List E}:EV σ e e'->ga σ es es'->ga σ (e::es) (e'::es')
def GQ(V:View)(σ:Ab):View:={ V with I:=λb=>V.I b\/∃id o,look σ id=some o/\¬V.nl id/\En V id o b,nx:=0 }
section
variable {P:Program}{TB:BA}{Γ:Ctx}{d:Option Tmp}{ty:TypeId}{pos:String}{af:Array Edge}{g:Option (Nat×Bool)}{f:Env}{σ:Ab}{nx:Nat}
variable {K:E->Ab->Nat->Prop}
theorem AF.iq{V:View}{c:C}{v:Value}(h:AF V c v)(a:c.BY=true):AF (GQ V σ) c v:=by
 induction h with
 | d h=>exact .d (h.mono (λ_ h=>.inl h) λ_ _=>rfl)
 | nil=>simp[C.BY]at a
 | arr=>simp[C.BY]at a
 | ptr=>simp[C.BY]at a
 | fn g _ e=>
  simp only[C.BY]at a;exact .fn g λj c v b f=>e j c v b f (Fa _ a j c b)
 | mp=>simp[C.BY]at a
 | mv g _ e=>
  simp only[C.BY]at a;exact .mv g λj c v b f=>e j c v b f (Fa _ a j c b)
theorem Dj.im{V:View}{x:D}{v:Value}(h:Dj V.I V.w x v):Dj (GQ V σ).I (GQ V σ).w x v:=h.mono (λ_ h=>.inl h) λ_ _=>rfl
theorem CV.rel{V:View}(hi:Inv TB Γ V σ){c c':C}{v:Value}(h:CV σ c c')(F:AF V c v):AF (GQ V σ) c' v:=by
 cases h with
 | pure L=>exact F.iq L
 | @arr id k off len T rows ds z M u=>
  cases F with
  | nil K J=>
   have:ds=[]:=by
    have:=congrArg List.length u;simp at this;exact lL.1 this.symm
   subst this;exact .d .nil
  | arr K p J=>
   rcases hi.st.obj id _ z with ⟨t,_⟩|⟨_,cur,t,Q,P,N,H,G⟩
   ·exact absurd t p
   ·have y:ds.length=len:=by
     have:=congrArg List.length u;simp at this;omega
    have m:∀(i:Nat) (r:List D),ds[i]?=some r->rows[off+i]?=some (r.map .d):=λi r hi=>by
     have n:((rows.drop off).take len)[i]?=some (r.map .d):=by rw[u];simp[hi]
     rw[lW]at n;split at n
     ·rwa[lY]at n
     ·cases n
    have a:∀(i:Nat) (r:List D) (j:Nat) (x:D),ds[i]?=some r->r[j]?=some x->∃v,cur[(off+i)*k+j]?=some v/\Dj V.I V.w x v:=λi r j x hi A=>by
     obtain⟨v,g,f⟩:=G (off+i) (r.map .d) j (.d x) (m i r hi) (by simp[A])
     cases f with
     | d f=>exact⟨v,g,f⟩
    rw[<-y]at J |-;refine .d (.l (b:=V.ρ id) (o:=off*k) (k:=k) (vs:=λi j=>cur.getD ((off+i)*k+j) undef) (.inr ⟨id,_,z,p,rfl⟩) (by omega) (by omega) (λi r hi=>?_) (λi r j x hi A=>?_) (λi r j x hi A=>?_))
    ·have:=H _ (co (m i r hi))
     simpa using this
    ·obtain⟨v,g,_⟩:=a i r j x hi A
     have e:off*k+i*k+j=(off+i)*k+j:=by rw[l6]
     rw[e];have:(GQ V σ).w.heap[V.ρ id]?=some (.cells cur T):=t;simp[World.cell?,this,g]
    ·obtain⟨v,g,f⟩:=a i r j x hi A
     have:cur.getD ((off+i)*k+j) undef=v:=by simp[g]
     simp only[this];exact f.im
 | @ptr id k i j T rows r ds z B u=>
  cases F with
  | ptr K p=>
   rcases hi.st.obj id _ z with ⟨t,_⟩|⟨_,cur,t,Q,P,N,H,G⟩
   ·exact absurd t p
   ·have m:∀(q:Nat) (x:D),ds[q]?=some x->r[j+q]?=some (.d x):=λq x s=>by
     have n:(r.drop j)[q]?=some (.d x):=by rw[u];simp[s]
     rwa[lY]at n
    have a:∀(q:Nat) (x:D),ds[q]?=some x->∃v,cur[i*k+j+q]?=some v/\Dj V.I V.w x v:=λq x s=>by
     obtain⟨v,g,f⟩:=G i r (j+q) (.d x) B (m q x s)
     cases f with
     | d f=>exact⟨v,by rw[l8];exact g,f⟩
    refine .ip (V:=GQ V σ) (vs:=λq=>cur.getD (i*k+j+q) undef) (.inr ⟨id,_,z,p,rfl⟩) (λq x s=>?_) (λq x s=>?_)
    ·obtain⟨v,g,_⟩:=a q x s
     have:(GQ V σ).w.heap[V.ρ id]?=some (.cells cur T):=t;simp[World.cell?,this,g]
    ·obtain⟨v,g,f⟩:=a q x s
     have:cur.getD (i*k+j+q) undef=v:=by simp[g]
     simp only[this];exact f.im
theorem EV.rel{V:View}(hi:Inv TB Γ V σ){e e':E}(h:EV σ e e'):∀ {v:Value},Bd V e v->Bd (GQ V σ) e' v:=by
 have key:∀ {e e':E},EV σ e e'->(∀c c',e=.o c->e'=.o c'->CV σ c c')/\(∀cs cs',e=.a cs->e'=.a cs'->cs.length=cs'.length/\∀(j:Nat) c c',cs[j]?=some c->cs'[j]?=some c'->CV σ c c')/\((∃c c',e=.o c/\e'=.o c')\/∃cs cs',e=.a cs/\e'=.a cs'):=by
  intro e e' h
  induction h with
  | o k=>exact⟨λc c' d b=>(by injection d with d;injection b with b;subst d b;exact k),λ_ _ h=>(by cases h),.inl ⟨_,_,rfl,rfl⟩⟩
  | nil=>exact⟨λ_ _ h=>(by cases h),λcs cs' d b=>(by injection d with d;injection b with b;subst d b;exact⟨rfl,λj c c' f=>(by simp at f)⟩),.inr ⟨_,_,rfl,rfl⟩⟩
  | cons k _ s=>
   refine⟨λ_ _ h=>(by cases h),λcs cs' d b=>?_,.inr ⟨_,_,rfl,rfl⟩⟩
   injection d with d;injection b with b;subst d b
   have:=s.2.1 _ _ rfl rfl;refine⟨by simp[this.1],λj c c' f g=>?_⟩
   cases j with
   | zero=>simp at f g;subst f g;exact k
   | succ j=>exact this.2 j c c' (by simpa using f) (by simpa using g)
 intro v m;obtain⟨r,q,p⟩:=key h
 rcases p with ⟨c,c',rfl,rfl⟩|⟨cs,cs',rfl,rfl⟩
 ·exact(r c c' rfl rfl).rel hi m
 ·obtain⟨vs,rfl,d,b⟩:=m
  obtain⟨l,n⟩:=q cs cs' rfl rfl;refine⟨vs,rfl,by rw[d,l],λj c' u f t=>?_⟩
  have i:j<cs.length:=by rw[l];exact(am.1 f).1
  exact(n j cs[j] c' (d5 i) f).rel hi (b j _ u (d5 i) t)
theorem JT{x:Operand}{args:Array Operand}{tys:Array TypeId}{gg:FuncId}{vs:Array Value}(f:Yv P gg){ρ:Operand->Value}(e:ρ x=.func (.func gg) #[] vs)(w:World) :
 (execOp ρ ⟨d,.call ⟨.value x,args,tys⟩,ty,pos,af,g⟩).run P w=.ok (.enter gg (args.map ρ++vs)) w:=by
 obtain⟨fn,i,h,b⟩:=f
 have hb:∃c,fn.body=some c:=by cases hb:fn.body with|none=>rw[hb]at b;cases b|some c=>exact⟨c,rfl⟩
 obtain⟨c,hb⟩:=hb;simp only[execOp,resolve,e,Deferred.ofValue,pure_bind,invoke,callFunc]
 have a:¬fn.name = "runtime.NumGoroutine" := by simpa using h
 simp[Sem.run,program,i,a,hb,go_sem]
theorem GJ{V:View}{ρ:Operand->Value}{args:List Operand}{es:List E}(h:∀x∈args,∀e,ev f x=some e->Bd V e (ρ x))(a:I6 f args=some es) :
 ∀(j:Nat) e v,es[j]?=some e->(args.map ρ)[j]?=some v->Bd V e v:=by
 intro j e v d c;simp only[io,d6]at c;obtain⟨x,b,rfl⟩:=c;exact h x (co b) e (Vv a j x e b d)
theorem NG{V:View}{gg:FuncId}{cap:List C}{v:Value}(h:Bd V (.o (.fn gg cap)) v):∃vs,v=.func (.func gg) #[] vs/\C1 V cap vs:=by
 have h:AF V (.fn gg cap) v:=h;generalize a:C.fn gg cap=c at h;cases h<;>cases a;rename_i vs d b;exact⟨vs,rfl,d,b⟩
theorem Jj{V Vc V1:View}{S:RO}(h:Inv TB Γ V σ)(m:MD TB V σ S)(y:∀b,S.J b->Γ.J b\/Γ.V.w.heap.size<=b\/Γ.F b)(j:∀b,S.B b->Γ.V.w.heap.size<=b\/Γ.F b)(k:Vc.w=V.w){u:Ab}(q:Inv TB (EN Vc Vc [] S) V1 u)(I':Nat->Prop)(p:∀b,V.I b->I' b)(n:∀b,I' b->V.I b\/(V.w.heap.size<=b/\b<V1.w.heap.size)\/S.B b)
 (A:∀b,V1.I b->(V.w.heap.size<=b\/S.B b)->I' b) (z:∀b,I' b->V1.I b) :
 Inv TB Γ { V with I:=I',w:=V1.w } σ/\Ext V { V with I:=I',w:=V1.w } := by
 have d:∀b,b<V.w.heap.size->¬S.B b->V1.w.heap[b]?=V.w.heap[b]?:=λb hb g=>by
  have:=q.old b (by show b<Vc.w.heap.size;rw[k];exact hb) (λh=>h.elim (λ⟨_,_,h,_⟩=>by cases h) g)
  rw[this];show Vc.w.heap[b]?=_;rw[k]
 have l:V.w.heap.size<=V1.w.heap.size:=by have i:Vc.w.heap.size<=V1.w.heap.size:=q.ext.size;rw[k]at i;exact i
 have e:Ext V { V with I:=I',w:=V1.w } := ⟨p,λb hb=>d b (h.iLt b hb) λs=>m.bi b s hb,l,λ_ _=>rfl,λ_ _=>rfl,λ_ _=>Iff.rfl,i9 _⟩
 refine⟨⟨?_,?_,?_,λb hb t=>(d b (lG hb h.ext.size) λs=>(j b s).elim (λh=>by omega) t).trans (h.old b hb t),?_,?_,h.ext.trans e,⟨?_,h.st.lt,?_,h.st.inj⟩,h.live,?_,?_⟩,e⟩
 ·have i:V1.w.os=Vc.w.os:=q.os
  rw[k]at i;exact i.trans h.os
 ·have i:V1.w.tape=Vc.w.tape:=q.tape
  rw[k]at i;exact i.trans h.tape
 ·have i:V1.w.output=Vc.w.output:=q.output
  rw[k]at i;exact i.trans h.output
 ·intro b hb
  rcases n b hb with a|a|a
  ·exact lG (h.iLt b a) l
  ·exact a.2
  ·exact lG (m.r.blt a) l
 ·intro b hb
  rcases n b hb with a|a|a
  ·exact h.iNew b a
  ·exact .inr (.inl (lm h.ext.size a.1))
  ·exact .inr (j b a)
 ·intro id o f
  exact(h.st.obj id o f).AR e (h.st.lt id o f) λg b hb=>d _ ((h.st.obj id o f).blt g hb) (m.ap b ⟨id,o,f,g,hb⟩)
 ·intro id o f g b c hb
  have c:=(AA e (h.st.lt id o f)).1 c
  rcases n _ hb with a|a|a
  ·exact h.st.free id o f g b c a
  ·have:=(h.st.obj id o f).blt g c
   have N:V.w.heap.size<=b:=a.1;omega
  ·exact m.ap b ⟨id,o,f,g,c⟩ a
 ·intro x s
  have:=h.tabs x s;exact⟨p _ this.1,(d _ (h.iLt _ this.1) λM=>m.bi _ M this.1).trans this.2⟩
 ·obtain⟨S1,v,L,K⟩:=q.hid
  have H:∀b,S1.B b->V.w.heap.size<=b\/S.B b:=λb hb=>by
   rcases K b hb with a|a|a
   ·have a:Vc.w.heap.size<=b:=a
    rw[k]at a;exact .inl a
   ·obtain⟨_,_,h,_⟩:=a;cases h
   ·exact .inr a
  have G:∀b,S1.J b->S.J b\/V.w.heap.size<=b\/S.B b:=λb hb=>by
   rcases L b hb with a|a|a|a
   ·exact .inl a
   ·have a:Vc.w.heap.size<=b:=a
    rw[k]at a;exact .inr (.inl a)
   ·obtain⟨_,_,h,_⟩:=a;cases h
   ·exact .inr (.inr a)
  refine⟨S1,⟨v.r,λb hb=>?_,λb hb hi=>v.bi b hb (z b hi),λb t hb=>?_⟩,λb hb=>?_,λb hb=>?_⟩
  ·rcases G b hb with a|a
   ·exact p b (m.ji b a)
   ·exact A b (v.ji b hb) a
  ·obtain⟨id,o,f,g,c⟩:=H0 e h.st.lt t
   rcases H b hb with a|a
   ·have:=(h.st.obj id o f).blt g c
    omega
   ·exact m.ap b ⟨id,o,f,g,c⟩ a
  ·rcases G b hb with a|a|a
   ·exact y b a
   ·exact .inr (.inl (lm h.ext.size a))
   ·exact .inr (j b a)
  ·rcases H b hb with a|a
   ·exact .inl (lm h.ext.size a)
   ·exact j b a
theorem Ee{V:View}:GG V []:=⟨λ_ _ h=>(by cases h),λ_ _ h=>(by cases h),λ_ _ h=>(by cases h),λ_ _ _ _ h=>(by cases h)⟩
theorem Be{x:Operand}{args:Array Operand}{tys:Array TypeId}{gg:FuncId}{cap:List C}{es:List E}{r:E}(R:ev f x=some (.o (.fn gg cap)))(t:I6 f args.toList=some es)(G:(es.all E.BY && C.C7 cap)=true)
 (hs:Pure P TB gg (es++cap.map .o) r) (T:r.BY=true):A1 P TB Γ ⟨d,.call ⟨.value x,args,tys⟩,ty,pos,af,g⟩ f σ nx r:=by
 intro V a z B X;have z:=z.GN;unfold Oper.wp;generalize a.eval=ρ at z |-;obtain⟨vs,p,l⟩:=NG (z.get (x:=x) (by simp[Op.operands,Call.operands]) R);rw[JT hs.1 p];rw[d4]at G;have u:=CJ t
 have n:MB { V with nx:=0 } (es++cap.map .o) (args.map ρ++vs):=by
  refine⟨by simp[l.1,u],λj e v q p=>?_⟩
  have m:(args.map ρ).size=es.length:=by simp[u]
  by_cases s:j<es.length
  ·rw[d9 s]at q
   rw[lR (by rw[m];exact s)]at p;refine Bd.BY (V:=V) (V':={ V with nx:=0 }) rfl rfl (GJ (λy Q e U=>z.get (by simp[Op.operands,Call.operands];right;simpa using Q) U) t j e v q (by rw[<-nz];simpa using p)) (ge.1 G.1 e (co q))
  ·rw[f9 (by omega)]at q
   rw[mH (by rw[m];omega),m]at p;simp only[io,d6]at q;obtain⟨c,M,rfl⟩:=q;exact AF.BY (V:=V) (V':={ V with nx:=0 }) rfl rfl (l.2 _ c v M p) (Fa _ G.2 _ c M)
 obtain⟨S,A,K,L⟩:=B.hid;refine(hs.2 { V with nx:=0 } _ S ⟨B.iLt,Ee,B.tabs,rfl,⟨A.r,A.ji,A.bi,λb ⟨_,_,h,_⟩=>by cases h⟩⟩ n).mono ?_;rintro e w' ⟨V1,v,Y,N,rfl,rfl,k,F,rfl⟩
 obtain⟨H,J⟩:=Jj B A K L (Vc:={ V with nx:=0 }) rfl k V1.I (λb hb=>k.ext.i b hb) (λb hb=>by
  rcases k.iNew b hb with h|h|h|h
  ·exact .inl h
  ·exact .inr (.inl ⟨h,k.iLt b hb⟩)
  ·obtain⟨_,_,h,_⟩:=h;cases h
  ·exact .inr (.inr h)) (λb hb _=>hb) (λb hb=>hb)
 exact⟨{ V with I:=V1.I,w:=V1.w },v,rfl,rfl,J,H,X,Bd.BY (V:=V1) (V':={ V with I:=V1.I,w:=V1.w }) rfl rfl F T⟩
theorem Kx{x:Operand}{args:Array Operand}{tys:Array TypeId}{gg:FuncId}{cap:List C}{es es':List E}{r:E}(H:ev f x=some (.o (.fn gg cap)))(K:I6 f args.toList=some es)(q:ga σ (es++cap.map .o) es')
 (hs:Pure P TB gg es' r) (hr:r.sc=true):A1 P TB Γ ⟨d,.call ⟨.value x,args,tys⟩,ty,pos,af,g⟩ f σ nx r:=by
 intro V a G p h3;have G:=G.GN;unfold Oper.wp;generalize a.eval=ρ at G |-;obtain⟨vs,Q,t⟩:=NG (G.get (x:=x) (by simp[Op.operands,Call.operands]) H);rw[JT hs.1 Q];have L:=CJ K
 have n:MB V (es++cap.map .o) (args.map ρ++vs):=by
  refine⟨by simp[t.1,L],λj e v m q=>?_⟩
  have u:(args.map ρ).size=es.length:=by simp[L]
  by_cases k:j<es.length
  ·rw[d9 k]at m
   rw[lR (by rw[u];exact k)]at q;exact GJ (λy hy e he=>G.get (by simp[Op.operands,Call.operands];right;simpa using hy) he) K j e v m (by rw[<-nz];simpa using q)
  ·rw[f9 (by omega)]at m
   rw[mH (by rw[u];omega),u]at q;simp only[io,d6]at m;obtain⟨c,hc,rfl⟩:=m;exact t.2 _ c v hc q
 have R:∀ {l l':List E},ga σ l l'->l.length=l'.length/\∀(j:Nat) e e',l[j]?=some e->l'[j]?=some e'->EV σ e e':=by
  intro l l' h
  induction h with
  | nil=>exact⟨rfl,λj e e' m=>by simp at m⟩
  | cons h _ ih=>
   refine⟨by simp[ih.1],λj e e' m z=>?_⟩
   cases j with
   | zero=>simp at m z;subst m z;exact h
   | succ j=>exact ih.2 j e e' (by simpa using m) (by simpa using z)
 obtain⟨s,J⟩:=R q
 have F:MB (GQ V σ) es' (args.map ρ++vs):=by
  refine⟨by rw[n.1,s],λj e v m q=>?_⟩
  have k:j<(es++cap.map E.o).length:=by rw[s];exact(am.1 m).1
  exact(J j _ e (d5 k) m).rel p (n.2 j _ v (d5 k) q)
 have k:∀b,(GQ V σ).I b->b<(GQ V σ).w.heap.size:=by
  rintro b (hb|⟨id,o,U,T,hb⟩)
  ·exact p.iLt b hb
  ·exact(p.st.obj id o U).blt T hb
 obtain⟨S,M,Z,hSB⟩:=p.hid;refine(hs.2 (GQ V σ) _ S ⟨k,Ee,λx H=>⟨.inl (p.tabs x H).1,(p.tabs x H).2⟩,rfl,⟨M.r,λb hb=>.inl (M.ji b hb),λb hb hi=>hi.elim (M.bi b hb) λ⟨id,o,U,T,H⟩=>M.ap b ⟨id,o,U,T,H⟩ hb,λb ⟨_,_,h,_⟩=>by cases h⟩⟩ F).mono ?_;rintro e w' ⟨V1,v,x1,σ1,rfl,rfl,A,N,rfl⟩;obtain⟨X,Y⟩:=Jj p M Z hSB (Vc:=GQ V σ) rfl A (λb=>V.I b\/(V.w.heap.size<=b\/S.B b)/\V1.I b) (λb hb=>.inl hb) (λb hb=>hb.elim .inl λh=>.inr (h.1.elim (λg=>.inl ⟨g,A.iLt b h.2⟩) .inr)) (λb G p=>.inr ⟨p,G⟩) (λb hb=>hb.elim (λh=>A.ext.i b (.inl h)) λh=>h.2);exact⟨{ V with I:=λb=>V.I b\/(V.w.heap.size<=b\/S.B b)/\V1.I b,w:=V1.w },v,rfl,rfl,Y,X,h3,UB N hr⟩
end
def BW:List Nat->Ab->Ab
 | [],σ=>σ
 | id::r,σ=>BW r (kill id σ)
theorem A0:∀(ids:List Nat) (σ:Ab) (i:Nat) (o:O),look (BW ids σ) i=some o->i∉ids/\look σ i=some o
 | [],σ,i,o,h=>⟨by simp,h⟩
 | id :: r,σ,i,o,h=>by
  obtain⟨b,a⟩:=A0 r (kill id σ) i o h;rw[EO]at a;by_cases hi:i=id
  ·rw[if_pos hi]at a;cases a
  ·rw[if_neg hi]at a
   exact⟨by simp[hi,b],a⟩
inductive FC (σ:Ab) (ids:List Nat):C->C->Prop
 | AR {c:C}:FC σ ids c c
 | arr {id k off len:Nat} {T:TypeId} {rows:List (List C)} {ds:List (List D)}:id∈ids->look σ id=some (.cells T k rows)->off+len<=rows.length->(rows.drop off).take len=ds.map (λr=>r.map .d)->FC σ ids (.arr id k off len) (.d (.l ds))
 | ptr {id k i j:Nat} {T:TypeId} {rows:List (List C)} {r:List C} {ds:List D}:id∈ids->look σ id=some (.cells T k rows)->rows[i]?=some r->r.drop j=ds.map .d->FC σ ids (.ptr id k i j) (.ip ds)
inductive FE (σ:Ab) (ids:List Nat):E->E->Prop
 | AR {e:E}:FE σ ids e e
 | o {c c':C}:FC σ ids c c'->FE σ ids (.o c) (.o c')
 | nil:FE σ ids (.a []) (.a [])
 | cons {c c':C} {cs cs':List C}:FC σ ids c c'->FE σ ids (.a cs) (.a cs')->FE σ ids (.a (c::cs)) (.a (c'::cs'))
def DV(σ:Ab)(ids:List Nat)(f:Env):List (Nat×E)->Prop
 | []=>True
 | (t,e')::L=>(∃e,f t=some e/\FE σ ids e e')/\DV σ ids f L
theorem DV.get{σ:Ab}{ids:List Nat}{f:Env}:∀ {L:List (Nat×E)},DV σ ids f L->∀t e',look L t=some e'->∃e,f t=some e/\FE σ ids e e'
 | [],_,t,e,h=>by cases h
 | (k,x)::L,hs,t,e,h=>by
  rw[Ax]at h;by_cases hk:k=t
  ·rw[if_pos hk]at h;injection h with h;subst h;subst hk;exact hs.1
  ·rw[if_neg hk]at h;exact DV.get hs.2 t e h
def Jr(V:View)(σ:Ab)(ids:List Nat):View:={ V with I:=λb=>V.I b\/∃id o,id∈ids/\look σ id=some o/\¬V.nl id/\En V id o b }
section
variable {P:Program}{TB:BA}{Γ:Ctx}{N:Nat}{σ:Ab}
theorem MW{V:View}{ids:List Nat}:Ext V (Jr V σ ids):=⟨λ_ h=>.inl h,λ_ _=>rfl,i9 _,λ_ _=>rfl,λ_ _=>rfl,λ_ _=>Iff.rfl,i9 _⟩
theorem FC.rel{V:View}(hi:Inv TB Γ V σ){ids:List Nat}{c c':C}{v:Value}(h:FC σ ids c c')(G:AF V c v):AF (Jr V σ ids) c' v:=by
 have e:Ext V (Jr V σ ids):=MW
 cases h with
 | AR=>exact G.ext e
 | @arr id k off len T rows ds F z M u=>
  cases G with
  | nil L K=>
   have:ds=[]:=by
    have:=congrArg List.length u;simp at this;exact lL.1 this.symm
   subst this;exact .d .nil
  | arr L p K=>
   rcases hi.st.obj id _ z with ⟨t,_⟩|⟨_,cur,t,Q,P,N,J,H⟩
   ·exact absurd t p
   ·have y:ds.length=len:=by
     have:=congrArg List.length u;simp at this;omega
    have m:∀(i:Nat) (r:List D),ds[i]?=some r->rows[off+i]?=some (r.map .d):=λi r hi=>by
     have n:((rows.drop off).take len)[i]?=some (r.map .d):=by rw[u];simp[hi]
     rw[lW]at n;split at n
     ·rwa[lY]at n
     ·cases n
    have a:∀(i:Nat) (r:List D) (j:Nat) (x:D),ds[i]?=some r->r[j]?=some x->∃v,cur[(off+i)*k+j]?=some v/\Dj V.I V.w x v:=λi r j x hi A=>by
     obtain⟨v,g,f⟩:=H (off+i) (r.map .d) j (.d x) (m i r hi) (by simp[A])
     cases f with
     | d f=>exact⟨v,g,f⟩
    rw[<-y]at K |-;refine .d (.l (b:=V.ρ id) (o:=off*k) (k:=k) (vs:=λi j=>cur.getD ((off+i)*k+j) undef) (.inr ⟨id,_,F,z,p,rfl⟩) (by omega) (by omega) (λi r hi=>?_) (λi r j x hi A=>?_) (λi r j x hi A=>?_))
    ·have:=J _ (co (m i r hi))
     simpa using this
    ·obtain⟨v,g,_⟩:=a i r j x hi A
     have e:off*k+i*k+j=(off+i)*k+j:=by rw[l6]
     rw[e];have:(Jr V σ ids).w.heap[V.ρ id]?=some (.cells cur T):=t;simp[World.cell?,this,g]
    ·obtain⟨v,g,f⟩:=a i r j x hi A
     have:cur.getD ((off+i)*k+j) undef=v:=by simp[g]
     simp only[this];exact f.ext e
 | @ptr id k i j T rows r ds F z B u=>
  cases G with
  | ptr L p=>
   rcases hi.st.obj id _ z with ⟨t,_⟩|⟨_,cur,t,Q,P,N,J,H⟩
   ·exact absurd t p
   ·have m:∀(q:Nat) (x:D),ds[q]?=some x->r[j+q]?=some (.d x):=λq x s=>by
     have n:(r.drop j)[q]?=some (.d x):=by rw[u];simp[s]
     rwa[lY]at n
    have a:∀(q:Nat) (x:D),ds[q]?=some x->∃v,cur[i*k+j+q]?=some v/\Dj V.I V.w x v:=λq x s=>by
     obtain⟨v,g,f⟩:=H i r (j+q) (.d x) B (m q x s)
     cases f with
     | d f=>exact⟨v,by rw[l8];exact g,f⟩
    refine .ip (V:=Jr V σ ids) (vs:=λq=>cur.getD (i*k+j+q) undef) (.inr ⟨id,_,F,z,p,rfl⟩) (λq x s=>?_) (λq x s=>?_)
    ·obtain⟨v,g,_⟩:=a q x s
     have:(Jr V σ ids).w.heap[V.ρ id]?=some (.cells cur T):=t;simp[World.cell?,this,g]
    ·obtain⟨v,g,f⟩:=a q x s
     have:cur.getD (i*k+j+q) undef=v:=by simp[g]
     simp only[this];exact f.ext e
theorem FE.rel{V:View}(hi:Inv TB Γ V σ){ids:List Nat}{e e':E}(h:FE σ ids e e'):∀ {v:Value},Bd V e v->Bd (Jr V σ ids) e' v:=by
 induction h with
 | AR=>intro v a;exact a.ext MW
 | o f=>intro v a;exact f.rel hi a
 | nil=>intro v a;obtain⟨vs,rfl,d,_⟩:=a;exact⟨vs,rfl,d,λj c v b=>by simp at b⟩
 | @cons c c' cs cs' f _ k=>
  rintro v ⟨vs,rfl,d,i⟩
  have l:0<vs.size:=by rw[d];simp
  have ht:=@k (.agg (vs.extract 1 vs.size)) ⟨_,rfl,by simp[d],λj c v b a=>i (j+1) c v (by simpa using b) (by
   rw[ot]at a;split at a
   ·rw[nZ]at a;exact a
   ·cases a)⟩
  obtain⟨ws,g,p,n⟩:=ht
  injection g with g
  subst g;refine⟨vs,rfl,by simp at p |-;omega,λj q v b a=>?_⟩
  cases j with
  | zero=>
   simp at b;subst b;exact f.rel hi (i 0 c v (by simp) a)
  | succ j=>
   refine n j q v (by simpa using b) ?_;have m:=(lQ.1 a).1;rw[ot,if_pos (by omega),nZ];exact a
theorem BS.freeze{V:View}{f:Env}{nx:Nat}{a:Act}(h:BS TB Γ N V f σ nx a)(ids:List Nat)(L:List (Nat×E))(r:DV σ ids f L):BS TB Γ N (Jr V σ ids) (look L) (BW ids σ) nx a:=by
 have e:Ext V (Jr V σ ids):=MW;refine⟨λt x l=>?_,λt x l=>?_,h.size,?_,h.nx,h.defers⟩
 ·obtain⟨y,n,g⟩:=r.get t x l
  exact g.rel h.inv (h.env t y n)
 ·obtain⟨y,n,_⟩:=r.get t x l
  exact h.lt t y n
 ·have hi:=h.inv
  refine⟨hi.os,hi.tape,hi.output,hi.old,?_,?_,hi.ext.trans e,⟨?_,?_,?_,?_⟩,?_,λx l=>⟨.inl (hi.tabs x l).1,(hi.tabs x l).2⟩,hi.hid.same rfl (λ_ h=>.inl h) (λb hb=>hb.elim .inl λ⟨id,o,_,c,d,q⟩=>.inr ⟨id,o,c,d,q⟩) λb ⟨id,o,c,d,hb⟩=>have g:=(A0 ids σ id o c).2;⟨id,o,g,d,(AA e (hi.st.lt id o g)).1 hb⟩⟩
  ·rintro b (hb|⟨id,o,_,c,d,hb⟩)
   ·exact hi.iLt b hb
   ·exact(hi.st.obj id o c).blt d hb
  ·rintro b (hb|⟨id,o,_,c,d,hb⟩)
   ·exact hi.iNew b hb
   ·exact .inr (hi.live id o c d b hb)
  ·intro id o c
   have:=(A0 ids σ id o c).2;exact(hi.st.obj id o this).AR e (hi.st.lt id o this) λ_ _ _=>rfl
  ·intro id o c;exact hi.st.lt id o (A0 ids σ id o c).2
  ·intro id o c d b i hb
   obtain⟨n,g⟩:=A0 ids σ id o c;have i:=(AA e (hi.st.lt id o g)).1 i
   rcases hb with hb|⟨id',o',s,k,j,q⟩
   ·exact hi.st.free id o g d b i hb
   ·exact hi.st.inj id id' o o' g k (λe=>n (e▸s)) d j b i q
  ·intro id id' o o' c k p d j b hb i
   have g:=(A0 ids σ id o c).2;have m:=(A0 ids σ id' o' k).2;exact hi.st.inj id id' o o' g m p d j b ((AA e (hi.st.lt id o g)).1 hb) ((AA e (hi.st.lt id' o' m)).1 i)
  ·intro id o c d b hb
   have g:=(A0 ids σ id o c).2;exact hi.live id o g d b ((AA e (hi.st.lt id o g)).1 hb)
theorem FC.full{ids:List Nat}{id k len:Nat}{T:TypeId}{rows:List (List C)}{ds:List (List D)}(c:id∈ids)(e:look σ id=some (.cells T k rows))(a:rows=ds.map (λr=>r.map .d))(b:rows.length=len):FC σ ids (.arr id k 0 len) (.d (.l ds)):=
 .arr c e (by omega) (by rw[mD,<-b,jp];exact a)
theorem CV.full{id k len:Nat}{T:TypeId}{rows:List (List C)}{ds:List (List D)}(c:look σ id=some (.cells T k rows))(a:rows=ds.map (λr=>r.map .d))(b:rows.length=len):CV σ (.arr id k 0 len) (.d (.l ds)):=
 .arr c (by omega) (by rw[mD,<-b,jp];exact a)
theorem Aj.freeze{c:Code}{Q:Exit->Env->Ab->Nat->Prop}{f:Env}{nx:Nat}(ids:List Nat)(L:List (Nat×E))(d:DV σ ids f L)(h:Aj P TB Γ N c Q (look L) (BW ids σ) nx):Aj P TB Γ N c Q f σ nx:=
 λV a b=>h (Jr V σ ids) a (b.freeze ids L d)
end
def HO(l:List Nat)(nx:Nat)(i:Nat):Nat:=match l[i]? with|some j=>j|none=>nx+(i-l.length)
theorem fo{l:List Nat}{nx i:Nat}(h:i<l.length):HO l nx i=l[i]:=by unfold HO;rw[d5 h]
theorem fm{l:List Nat}{nx i:Nat}(h:l.length<=i):HO l nx i=nx+(i-l.length):=by unfold HO;rw[lV h]
theorem Fk{l:List Nat}{nx i:Nat}(h:i<l.length):nm l nx i=l[i]:=by unfold nm;rw[d5 h]
def Ab.A3(r:Nat->Nat):Ab->Ab
 | []=>[]
 | (i,o)::σ=>(r i,o.A3 r)::Ab.A3 r σ
theorem N0{r:Nat->Nat}:∀ {σ:Ab} {i:Nat} {o:O},look (σ.A3 r) i=some o->∃j a,r j=i/\look σ j=some a/\o=a.A3 r
 | [],i,o,h=>by cases h
 | (k,x)::σ,i,o,h=>by
  simp only[Ab.A3]at h;rw[Ax]at h;by_cases hk:r k=i
  ·rw[if_pos hk]at h
   injection h with h
   exact⟨k,x,hk,by rw[Ax,if_pos rfl],h.symm⟩
  ·rw[if_neg hk]at h
   obtain⟨j,a,b,d,c⟩:=N0 h;refine⟨j,a,b,?_,c⟩;rw[Ax,if_neg (λe=>hk (by rw[e];exact b))];exact d
theorem Cm{α:Type}:∀ {l m:List (Nat×α)} {i:Nat} {o:α},look (l++m) i=some o->look l i=some o\/look m i=some o
 | [],m,i,o,h=>.inr h
 | (k,x)::l,m,i,o,h=>by
  simp only[mK]at h;rw[Ax]at h |-;by_cases hk:k=i
  ·rw[if_pos hk]at h |-;exact .inl h
  ·rw[if_neg hk]at h |-;exact Cm h
structure TG (V V':View) (r:Nat->Nat):Prop where
 I:V'.I=V.I
 w:V'.w=V.w
 lt:∀id,id<V.nx->r id<V'.nx
 ρ:∀id,id<V.nx->V'.ρ (r id)=V.ρ id
 cap:∀id,id<V.nx->V'.cap (r id)=V.cap id
 nl:∀id,id<V.nx->(V'.nl (r id)↔V.nl id)
theorem AF.push{V V':View}{r:Nat->Nat}(b:TG V V' r){c:C}{v:Value}(h:AF V c v):AF V' (c.A3 r) v:=by
 induction h with
 | d h=>exact .d (by rw[b.I,b.w];exact h)
 | @nil id k a m=>exact .nil (b.lt id a) ((b.nl id a).2 m)
 | @arr id k off len a n m=>
  rw[<-b.ρ id a,<-b.cap id a];exact .arr (b.lt id a) (λh=>n ((b.nl id a).1 h)) (by rw[b.cap id a];exact m)
 | @ptr id k i j a n=>
  rw[<-b.ρ id a];exact .ptr (b.lt id a) (λh=>n ((b.nl id a).1 h))
 | fn a _ g=>
  refine .fn (by rw[a,CD]) λj c v f l=>?_;rw[Ez,d6]at f;obtain⟨o,e,rfl⟩:=f;exact g j o v e l
 | @mp id a=>rw[<-b.ρ id a];exact .mp (b.lt id a)
 | mv a _ g=>
  refine .mv (by rw[a,CD]) λj c v f l=>?_;rw[Ez,d6]at f;obtain⟨o,e,rfl⟩:=f;exact g j o v e l
theorem C1.push{V V':View}{r:Nat->Nat}(e:TG V V' r){cs:List C}{vs:Array Value}(h:C1 V cs vs):C1 V' (C.Ch r cs) vs:=
 ⟨by rw[h.1,CD],λj c v b d=>by
  rw[Ez,d6]at b;obtain⟨f,a,rfl⟩:=b
  exact(h.2 j f v a d).push e⟩
theorem Bd.push{V V':View}{r:Nat->Nat}(f:TG V V' r){e:E}{v:Value}(h:Bd V e v):Bd V' (e.A3 r) v:=by
 cases e with
 | e=>exact h
 | o c=>exact AF.push f h
 | a cs=>obtain⟨vs,k,i⟩:=h;exact⟨vs,k,i.push f⟩
 | t xs=>
  obtain⟨vs,k,i,q⟩:=h;refine⟨vs,k,by rw[i];simp,λj x v l p=>?_⟩;rw[io,d6]at l;obtain⟨⟨b,cs⟩,n,rfl⟩:=l;have m:=q j (b,cs) v n p;cases b
  ·obtain⟨c,d,g⟩:=m
   have d:cs=[c]:=d;subst d;exact⟨c.A3 r,rfl,g.push f⟩
  ·obtain⟨ws,d,g⟩:=m
   exact⟨ws,d,g.push f⟩
theorem Ci.push{V V':View}{r:Nat->Nat}(b:TG V V' r){id:Nat}(a:id<V.nx){o:O}(h:Ci V id o):Ci V' (r id) (o.A3 r):=by
 cases o with
 | cells T k rows=>
  rcases h with ⟨g,d⟩|⟨m,cur,d,B,A,z,u,t⟩
  ·exact .inl ⟨(b.nl id a).2 g,by simp[d]⟩
  ·refine .inr ⟨λh=>m ((b.nl id a).1 h),cur,by rw[b.w,b.ρ id a];exact d,by rw[b.cap id a];exact B,by rw[b.cap id a];simpa using A,by rw[b.cap id a];exact z,λx p=>?_,λi x j c hi n=>?_⟩
   ·obtain⟨y,e,rfl⟩:=d8.1 p
    rw[CD];exact u y e
   ·rw[io,d6]at hi
    obtain⟨y,e,rfl⟩:=hi;rw[Ez,d6]at n;obtain⟨G,f,rfl⟩:=n;obtain⟨v,s,q⟩:=t i y j G e f;exact⟨v,s,q.push b⟩
 | mp es=>
  obtain⟨m,ents,clock,g,d⟩:=h;exact⟨λh=>m ((b.nl id a).1 h),ents,clock,by rw[b.w,b.ρ id a];exact g,d⟩
 | sld T l=>exact⟨λF=>h.1 ((b.nl id a).1 F),by rw[b.w];exact h.2⟩
theorem CA{V V':View}{r:Nat->Nat}(c:TG V V' r){id:Nat}(a:id<V.nx){o:O}{b:Nat}:En V' (r id) (o.A3 r) b↔En V id o b:=by
 cases o<;>simp[En,O.A3,c.ρ id a]
def GL(V V1:View)(l:List Nat):View:=
 {I:=V1.I,w:=V1.w,nx:=V.nx+(V1.nx-l.length),
  ρ:=λi=>if i<V.nx then V.ρ i else V1.ρ (i-V.nx+l.length),
  cap:=λi=>if i<V.nx then V.cap i else V1.cap (i-V.nx+l.length),
  nl:=λi=>if i<V.nx then V.nl i else V1.nl (i-V.nx+l.length) }
section
variable {P:Program}{TB:BA}{Γ:Ctx}{d:Option Tmp}{ty:TypeId}{pos:String}{af:Array Edge}{g:Option (Nat×Bool)}{f:Env}{σ:Ab}{nx:Nat}
variable {K:E->Ab->Nat->Prop}
theorem Jk{V V1:View}{l:List Nat}(f:∀i∈l,i<V.nx)(e:Ext (V.A3 (nm l V.nx) l.length) V1):TG V1 (GL V V1 l) (HO l V.nx):=by
 have d:l.length<=V1.nx:=e.nx
 have key:∀id,(∃h:id<l.length,HO l V.nx id=l[id]/\l[id]<V.nx)\/l.length<=id/\HO l V.nx id=V.nx+(id-l.length):=λid=>by
  by_cases h:id<l.length
  ·exact .inl ⟨h,fo h,f _ (l7 h)⟩
  ·exact .inr ⟨by omega,fm (by omega)⟩
 refine⟨rfl,rfl,λid h=>?_,λid h=>?_,λid h=>?_,λid h=>?_⟩
 ·show _<V.nx+(V1.nx-l.length)
  rcases key id with ⟨b,a,c⟩|⟨b,a⟩
  ·rw[a];omega
  ·rw[a];omega
 ·show (if _ then _ else _)=_
  rcases key id with ⟨b,a,c⟩|⟨b,a⟩
  ·rw[a,if_pos c,e.ρ id b];show _=V.ρ (nm l V.nx id);rw[Fk b]
  ·rw[a,if_neg (by omega)];congr 1;omega
 ·show (if _ then _ else _)=_
  rcases key id with ⟨b,a,c⟩|⟨b,a⟩
  ·rw[a,if_pos c,e.cap id b];show _=V.cap (nm l V.nx id);rw[Fk b]
  ·rw[a,if_neg (by omega)];congr 1;omega
 ·show (if _ then _ else _)↔_
  rcases key id with ⟨b,a,c⟩|⟨b,a⟩
  ·rw[a,if_pos c,e.nl id b];show _↔V.nl (nm l V.nx id);rw[Fk b]
  ·rw[a,if_neg (by omega)]
   have:V.nx+(id-l.length)-V.nx+l.length=id:=by omega
   rw[this]
theorem YK{V V1:View}{l:List Nat}{x z:Ab}(h:Inv TB Γ V σ)(hl:∀i∈l,i<V.nx)(hS:AM (nm l V.nx) σ x)
 {S:RO} (L:MD TB V σ S) (hSJ:∀b,S.J b->Γ.J b\/Γ.V.w.heap.size<=b\/Γ.F b) (H:∀b,S.B b->Γ.V.w.heap.size<=b\/Γ.F b)
 (q:Inv TB (EN (V.A3 (nm l V.nx) l.length) (V.A3 (nm l V.nx) l.length) x S) V1 z) :
 Inv TB Γ (GL V V1 l) (z.A3 (HO l V.nx)++BW l σ)/\Ext V (GL V V1 l):=by
 have v:=Jk hl q.ext;have hlen:l.length<=V1.nx:=q.ext.nx;have hsz:V.w.heap.size<=V1.w.heap.size:=q.ext.size
 have A:∀b,Du (V.A3 (nm l V.nx) l.length) x b->∃i o,i∈l/\look σ i=some o/\¬V.nl i/\En V i o b:=by
  rintro b ⟨j,o,hj,Q,hb⟩;have a:=hS.get j o hj;have g:=PN (h.st.lt _ _ a);have d:=Fk (nx:=V.nx) g;refine⟨l[j],o.A3 _,l7 g,by rw[<-d];exact a,?_,?_⟩
  ·have:¬V.nl (nm l V.nx j):=Q
   rwa[d]at this
  ·have c:=BB.1 hb
   rwa[d]at c
 have G:∀b,Du (V.A3 (nm l V.nx) l.length) x b->b<V.w.heap.size/\¬V.I b/\(Γ.V.w.heap.size<=b\/Γ.F b):=by
  intro b hb;obtain⟨i,o,_,g,d,c⟩:=A b hb;exact⟨(h.st.obj i o g).blt d c,h.st.free i o g d b c,h.live i o g d b c⟩
 have t:∀i o,i∉l->look σ i=some o->¬V.nl i->∀b,En V i o b->¬Du (V.A3 (nm l V.nx) l.length) x b:=by
  intro i o hi s Q b hb T;obtain⟨j,o',g,d,c,h6⟩:=A _ T;exact h.st.inj j i o' o d s (λe=>hi (e▸g)) c Q b h6 hb
 have N:∀b,b<V.w.heap.size->¬Du (V.A3 (nm l V.nx) l.length) x b->¬S.B b->V1.w.heap[b]?=V.w.heap[b]?:=λb hb T Z=>q.old b hb λh=>h.elim T Z
 have e:Ext V (GL V V1 l):=by
  refine⟨λb hb=>q.ext.i b hb,λb hb=>q.ext.heap b hb,hsz,λi hi=>?_,λi hi=>?_,λi hi=>?_,Nat.le_add_right _ _⟩
  ·show (if _ then _ else _)=_;rw[if_pos hi]
  ·show (if _ then _ else _)=_;rw[if_pos hi]
  ·show (if _ then _ else _)↔_;rw[if_pos hi]
 have f:∀i o,look (z.A3 (HO l V.nx)++BW l σ) i=some o->(∃j n,j<V1.nx/\HO l V.nx j=i/\look z j=some n/\o=n.A3 (HO l V.nx))\/(i∉l/\i<V.nx/\look σ i=some o):=by
  intro i o s
  rcases Cm s with a|a
  ·obtain⟨j,n,g,d,c⟩:=N0 a
   exact .inl ⟨j,n,q.st.lt j n d,g,d,c⟩
  ·obtain⟨g,d⟩:=A0 l σ i o a
   exact .inr ⟨g,h.st.lt i o d,d⟩
 have m:∀i,i<V.nx->((GL V V1 l).nl i↔V.nl i):=λi hi=>e.nl i hi
 have P:∀j n,look z j=some n->¬V1.nl j->∀i o,i∉l->look σ i=some o->¬V.nl i->∀b,En V1 j n b->¬En V i o b:=by
  intro j n hj hnj i o hi s R b hb p
  rcases q.live j n hj hnj b hb with a|a
  ·have:=(h.st.obj i o s).blt R p
   have a:V.w.heap.size<=b:=a;omega
  ·rcases a with a|a
   ·exact t i o hi s R b p a
   ·exact L.ap b ⟨i,o,s,R,p⟩ a
 refine⟨⟨q.os.trans h.os,q.tape.trans h.tape,q.output.trans h.output,?_,q.iLt,?_,h.ext.trans e,⟨?_,?_,?_,?_⟩,?_,q.tabs,?_⟩,e⟩
 ·intro b hb T
  have:¬Du (V.A3 (nm l V.nx) l.length) x b:=λp=>by
   rcases(G b p).2.2 with a|a
   ·omega
   ·exact T a
  exact(N b (lG hb h.ext.size) this λhx=>(H b hx).elim (λh=>by omega) T).trans (h.old b hb T)
 ·intro b hb
  rcases q.iNew b hb with a|a|a
  ·exact h.iNew b a
  ·exact .inr (.inl (lm h.ext.size a))
  ·exact .inr (a.elim (λa=>(G b a).2.2) (H b))
 ·intro i o s
  rcases f i o s with ⟨j,n,a,rfl,d,rfl⟩|⟨a,g,d⟩
  ·exact(q.st.obj j n d).push v a
  ·exact(h.st.obj i o d).AR e g λu b hb=>N _ ((h.st.obj i o d).blt u hb) (t i o a d u b hb) (L.ap b ⟨i,o,d,u,hb⟩)
 ·intro i o s
  rcases f i o s with ⟨j,n,a,rfl,d,rfl⟩|⟨a,g,d⟩
  ·exact v.lt j a
  ·exact lG g e.nx
 ·intro i o s u b hb hI
  rcases f i o s with ⟨j,n,a,rfl,d,rfl⟩|⟨a,g,d⟩
  ·exact q.st.free j n d (λh=>u ((v.nl j a).2 h)) b ((CA v a).1 hb) hI
  ·have k:¬V.nl i:=λh=>u ((m i g).2 h)
   have hb:=(AA e g).1 hb
   rcases q.iNew _ hI with c|c|c
   ·exact h.st.free i o d k b hb c
   ·have:=(h.st.obj i o d).blt k hb
    have c:V.w.heap.size<=b:=c;omega
   ·rcases c with c|c
    ·exact t i o a d k b hb c
    ·exact L.ap b ⟨i,o,d,k,hb⟩ c
 ·intro i i' o o' s ho' X u k b hb p
  rcases f i o s with ⟨j,n,a,rfl,d,rfl⟩|⟨a,g,d⟩<;>rcases f i' o' ho' with ⟨j',U,y,rfl,K,rfl⟩|⟨y,M,K⟩
  ·exact q.st.inj j j' n U d K (λe=>X (by rw[e])) (λh=>u ((v.nl j a).2 h)) (λh=>k ((v.nl j' y).2 h)) b ((CA v a).1 hb) ((CA v y).1 p)
  ·exact P j n d (λh=>u ((v.nl j a).2 h)) i' o' y K (λh=>k ((m i' M).2 h)) b ((CA v a).1 hb) ((AA e M).1 p)
  ·exact P j' U K (λh=>k ((v.nl j' y).2 h)) i o a d (λh=>u ((m i g).2 h)) b ((CA v y).1 p) ((AA e g).1 hb)
  ·exact h.st.inj i i' o o' d K X (λh=>u ((m i g).2 h)) (λh=>k ((m i' M).2 h)) b ((AA e g).1 hb) ((AA e M).1 p)
 ·intro i o s u b hb
  rcases f i o s with ⟨j,n,a,rfl,d,rfl⟩|⟨a,g,d⟩
  ·rcases q.live j n d (λh=>u ((v.nl j a).2 h)) b ((CA v a).1 hb) with c|c
   ·exact .inl (lm h.ext.size c)
   ·exact c.elim (λc=>(G _ c).2.2) (H b)
  ·exact h.live i o d (λh=>u ((m i g).2 h)) b ((AA e g).1 hb)
 ·obtain⟨S1,Y,k2,k3⟩:=q.hid
  refine⟨S1,⟨Y.r,Y.ji,Y.bi,λb ⟨i,o,s,u,hb⟩ Z=>?_⟩,λb hb=>?_,λb hb=>?_⟩
  ·rcases f i o s with ⟨j,n,a,rfl,d,rfl⟩|⟨a,g,d⟩
   ·exact Y.ap b ⟨j,n,d,λh=>u ((v.nl j a).2 h),(CA v a).1 hb⟩ Z
   ·have k:¬V.nl i:=λh=>u ((m i g).2 h)
    have hb:=(AA e g).1 hb
    rcases k3 b Z with c|c|c
    ·have:=(h.st.obj i o d).blt k hb
     have c:V.w.heap.size<=b:=c;omega
    ·exact t i o a d k b hb c
    ·exact L.ap b ⟨i,o,d,k,hb⟩ c
  ·rcases k2 b hb with c|c|c|c
   ·exact hSJ b c
   ·exact .inr (.inl (lm h.ext.size c))
   ·exact .inr (G _ c).2.2
   ·exact .inr (H b c)
  ·rcases k3 b hb with c|c|c
   ·exact .inl (lm h.ext.size c)
   ·exact(G _ c).2.2
   ·exact H b c
def Ey(r:Nat->Nat):List E->List E
 | []=>[]
 | e::l=>e.A3 r::Ey r l
theorem LJ(r:Nat->Nat):∀(l:List E) (j:Nat),(Ey r l)[j]?=(l[j]?).map (E.A3 r)
 | [],j=>by simp[Ey]
 | c::l,0=>by simp[Ey]
 | c::l,j+1=>by simpa[Ey]using LJ r l j
theorem Hu(r:Nat->Nat):∀(l:List E),(Ey r l).length=l.length
 | []=>rfl
 | c::l=>by simp[Ey,Hu r l]
theorem Af{x:Operand}{args:Array Operand}{tys:Array TypeId}{gg:FuncId}{cap:List C}{es M:List E}{t:Ab}{n0:Nat}{post:E->Ab->Nat->Prop}(l:List Nat)(hx:ev f x=some (.o (.fn gg cap)))(R:I6 f args.toList=some es)
 (hs:Spec P TB gg t n0 M post) (hl:l.length=n0/\l.Nodup/\∀i∈l,i<nx) (ha:es++cap.map .o=Ey (nm l nx) M) (L:AM (nm l nx) σ t)
 (hK:∀x0 s A,post x0 s A->l.length<=A->K (x0.A3 (HO l nx)) (s.A3 (HO l nx)++BW l σ) (nx+(A-l.length))) :
 Cr P TB Γ ⟨d,.call ⟨.value x,args,tys⟩,ty,pos,af,g⟩ f σ nx K:=by
 obtain⟨hl0,hn,m⟩:=hl;subst hl0;intro V a X z U;subst U;have X:=X.GN;unfold Oper.wp;generalize a.eval=ρ at X |-;obtain⟨vs,u,w⟩:=NG (X.get (x:=x) (by simp[Op.operands,Call.operands]) hx);rw[JT hs.1 u];have T:=CJ R
 have h:MB V (es++cap.map .o) (args.map ρ++vs):=by
  refine⟨by simp[w.1,T],λj e v G u=>?_⟩
  have B:(args.map ρ).size=es.length:=by simp[T]
  by_cases m:j<es.length
  ·rw[d9 m]at G
   rw[lR (by rw[B];exact m)]at u;exact GJ (λy hy e Y=>X.get (by simp[Op.operands,Call.operands];right;simpa using hy) Y) R j e v G (by rw[<-nz];simpa using u)
  ·rw[f9 (by omega)]at G
   rw[mH (by rw[B];omega),B]at u;simp only[io,d6]at G;obtain⟨c,hc,rfl⟩:=G;exact w.2 _ c v hc u
 have hr:∀id,nm l V.nx id<V.nx->id<l.length:=λid=>PN
 have J:MB (V.A3 (nm l V.nx) l.length) M (args.map ρ++vs):=by
  rw[ha]at h;refine⟨by rw[h.1,Hu],λj e v G u=>?_⟩;exact(h.2 j (e.A3 (nm l V.nx)) v (by rw[LJ,G];rfl) u).A3 hr
 have n:∀id o,look t id=some o->id<l.length:=λid o q=>hr id (z.st.lt _ _ (L.get id o q));obtain⟨S,p,hSJ,hSB⟩:=z.hid
 have I:Good TB (V.A3 (nm l V.nx) l.length) t l.length S:=by
  refine⟨z.iLt,⟨λid o q=>Ci.A3 hr (z.st.obj _ _ (L.get id o q)),n,λid o q k b hb=>z.st.free _ _ (L.get id o q) k b (BB.1 hb),?_⟩,z.tabs,rfl,⟨p.r,p.ji,p.bi,λb ⟨id,o,q,k,hb⟩=>p.ap b ⟨_,_,L.get id o q,k,BB.1 hb⟩⟩⟩;intro id id' o o' q N hne k Q b hb hb';refine z.st.inj _ _ _ _ (L.get id o q) (L.get id' o' N) ?_ k Q b (BB.1 hb) (BB.1 hb');have U:=n id o q;have h4:=n id' o' N;rw[Fk U,Fk h4];intro Y;have hp:=lN.1 hn
  rcases nD hne with h5|h5
  ·exact hp _ _ U h4 h5 Y
  ·exact hp _ _ h4 U h5 Y.symm
 refine(hs.2 _ _ S I J).mono ?_;rintro e w' ⟨V1,v,x1,s,rfl,rfl,H,Z,F⟩;obtain⟨hi',he'⟩:=YK z m L p hSJ hSB H;exact⟨GL V V1 l,v,x1.A3 (HO l V.nx),_,rfl,rfl,he',hi',Z.push (Jk m H.ext),hK x1 s V1.nx F H.ext.nx⟩
end
end Go.Am
