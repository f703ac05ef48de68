/-
  Literals, strings, parts of slices, closures.
-/
import Derived.Test.YtohfiindiidcfaaGreatDoorPart7
import Derived.Laws.IdiomStrings
import Derived.ChangeKeysEq
set_option linter.all false
namespace Go.Am
open Go
abbrev eT(l:List UInt8):E:=.o (.d (.v (.string ⟨l.toArray⟩)))
def N0:List E->Option (List (List D))
 | []=>some []
 | e::l=>(OA (eC e)).bind λr=>(N0 l).map (r :: ·)
theorem N5:∀ {l:List E} {rows:List (List D)},N0 l=some rows->rows.length=l.length/\∀(i:Nat) (r:List D),rows[i]? = some r->∃e,l[i]? = some e/\OA (eC e)=some r
 | [],rows,h=>by injection h with h;subst h;exact⟨rfl,λi r hi=>by simp at hi⟩
 | e::l,rows,h=>by
  simp only [N0,jo,d7] at h;obtain⟨g,f,rows',d,rfl⟩:=h;have a:=N5 d;refine⟨by simp [a.1],λi r hi=>?_⟩
  cases i with
  | zero=>simp at hi;subst hi;exact⟨e,rfl,f⟩
  | succ i=>obtain⟨e',c,b⟩:=a.2 i r (by simpa using hi);exact⟨e',by simpa using c,b⟩
def ez(P:Program)(t:TypeId):Option (List (Nat×Nat)):=match P.underlying t with
 | some (.struct fs)=>fs.toList.mapM λf=>(P.info? f.type).map λi=>(f.offset,i.size)
 | some (.array n e)=>(P.info? e).map λi=>(List.range n).map λj=>(j*i.size,i.size)
 | _=>none
class Fj (P:Program) (t:TypeId) (fl:outParam (List (Nat×Nat))):Prop where
 out:ez P t=some fl
def FG(fl:List (Nat×Nat)):List (Nat×Operand)->List E->Option (List (Nat×List C))
 | [],[]=>some []
 | (i,_)::ps,e::es=>match fl[i]? with
  | some (off,size)=>bif Nat.beq (eC e).length size && QD e then (FG fl ps es).map ((off,eC e) :: ·) else none
  | none=>none
 | _,_=>none
section
variable {P:Program}{TB:BA}{Z:Ctx}{d:Option Tmp}{ty:TypeId}{pos:String}{af:Array Edge}{g:Option (Nat×Bool)}{f:Env}{σ:Ab}{nx:Nat}
variable {K:E->Ab->Nat->Prop}
theorem Hr{t e:TypeId}{k b n:Nat}{z:List Value}{parts:Array (Nat×Operand)}(A:bN P t=some (e,k,b))(q:WU P e=some z)(j:z.length=k)(m:z.all Od=true){es:List E}{V:View}{U:Operand->Value}(h:Ll V ⟨d,.buildSlice t n parts,ty,pos,af,g⟩ f U)
 (s:CX 0 (parts.toList.map (·.2))=parts.toList) (y:parts.toList.length=n) (o:Jl f (parts.toList.map (·.2))=some es) (u:es.all QD=true) (hk:∀x∈es,(eC x).length=k) (l:n*k<=16777216) :
 ∃cur,(execOp U ⟨d,.buildSlice t n parts,ty,pos,af,g⟩).run P V.w=.ok (.value (.slice (some ⟨V.w.heap.size,0,none⟩) n n)) (V.w.alloc (.cells cur e))/\cur.size=n*k/\CP V (es.map eC).flatten cur:=by
 have a:(parts.toList.map (·.2)).length=n:=by simpa using y
 obtain⟨cur,c,p,F⟩:=NO (P:=P) (f:=f) (V:=V) (xs:=parts.toList.map (·.2)) (U:=U) A q j m (λx r e B=>h.get (by simp only [Op.operands];simpa using r) B) o u hk (by rw [a];exact l);rw [a] at c p;refine⟨cur,?_,p,F⟩;rw [s] at c
 show ((do let v <-Instr.buildSlice t n (parts.map λ(i,x)=>(i,U x));pure (Go.Next.value v):Sem Go.Next)).run P V.w=_
 rw [Array.toArray_toList] at c;simp only [jb,c,iW];rfl
theorem ND{t e:TypeId}{k b n:Nat}{z:List Value}{parts:Array (Nat×Operand)}{es:List E}{rows:List (List D)}[hl:Cs P t e k b][T:BJ P e z](Y:CX 0 (parts.toList.map (·.2))=parts.toList)(N:parts.toList.length=n)
 (A:Jl f (parts.toList.map (·.2))=some es) (ho:es.all QD=true) (G:N0 es=some rows) (hk:(rows.all λr=>Nat.beq r.length k)=true) (F:z.length=k) (H:z.all Od=true) (K:Nat.ble 1 k=true) (p:Nat.ble (n*k) 16777216=true) :
 A8 P TB Z ⟨d,.buildSlice t n parts,ty,pos,af,g⟩ f σ nx (.o (.d (.l rows))):=
 Iq λV U h1 h2=>by
  have c:=N5 G
  have s:∀x∈es,(eC x).length=k:=λx X=>by
   obtain⟨i,hi,rfl⟩:=jm X
   have y:i < rows.length:=by omega
   obtain⟨e',m,S⟩:=c.2 i rows[i] (d6 y);rw [d6 hi] at m
   injection m with m
   rw [m,<-LO S];exact f9 (d8.1 hk _ (jC y))
  obtain⟨cur,m,S,h5⟩:=Hr hl.out T.out F H h1 Y N A ho s (ce p);obtain⟨hi,Q⟩:=h2.SC (w:=V.w.alloc (.cells cur e)) rfl rfl rfl (by simp) (λb hb=>A6 _ _ _ hb)
  have q:rows.length=n:=by
   rw [c.1,CE A];simpa using N
  have a:∀(i:Nat) (r:List D) (j:Nat) (x:D),rows[i]? = some r->r[j]? = some x->∃v,cur[i*k+j]? = some v/\CI V.I V.w x v:=λi r j x hi u=>by
   obtain⟨e',B,M⟩:=c.2 i r hi;have h8:=Kq M j x u
   obtain⟨v,R,h⟩:=Ge h5 (λr G=>by
    obtain⟨e2,L,rfl⟩:=f7.1 G
    exact s e2 L) i (eC e') j (.d x) (by simp [B]) h8
   cases h with
   | d h=>exact⟨v,R,h⟩
  have J:n<=maxLen:=by
   have R:=ce p;have:n<=n*k:=kc _ (ce K);unfold maxLen;omega
  refine⟨_,_,m,Q,hi,rfl,?_⟩;have hb:(JP V (V.w.alloc (.cells cur e))).I V.w.heap.size:=.inr rfl;have hh:(JP V (V.w.alloc (.cells cur e))).w.heap[V.w.heap.size]? = some (.cells cur e):=BT _ _;have := @CI.l (JP V (V.w.alloc (.cells cur e))).I (JP V (V.w.alloc (.cells cur e))).w rows V.w.heap.size 0 k n (λi j=>cur.getD (i*k+j) undef) hb (by omega) J
   (λi r hi=>f9 (d8.1 hk _ (co hi)))
   (λi r j x hi u=>by
    obtain⟨v,B,_⟩:=a i r j x hi u
    simp [World.cell?,hh,B])
   (λi r j x hi u=>by
    obtain⟨v,B,M⟩:=a i r j x hi u
    have:cur.getD (i*k+j) undef=v:=by simp [B]
    rw [this];exact M.ext Q)
  rw [q] at this;exact .d this
theorem Bd{t e:TypeId}{k b n:Nat}{z:List Value}{parts:Array (Nat×Operand)}{es:List E}[H:Cs P t e k b][A:BJ P e z](F:CX 0 (parts.toList.map (·.2))=parts.toList)(w:parts.toList.length=n)
 (l:Jl f (parts.toList.map (·.2))=some es) (G:es.all QD=true) (j:∀x∈es,(eC x).length=k) (m:z.length=k) (p:z.all Od=true) (s:Nat.ble 1 k=true) (a:Nat.ble (n*k) 16777216=true)
 (J:K (.o (.arr nx k 0 n)) ((nx,.cells e k (es.map eC))::σ) (nx+1)):Cq P TB Z ⟨d,.buildSlice t n parts,ty,pos,af,g⟩ f σ nx K:=
 DZ λV U Q N v=>by
  subst v;obtain⟨cur,v,M,L⟩:=Hr H.out A.out m p Q F w l G j (ce a)
  have i:(es.map eC).length=n:=by
   rw [gt,CE l];simpa using w
  have q:n<=maxLen:=by
   have S:=ce a;have:n<=n*k:=kc _ (ce s);unfold maxLen;omega
  have h:∀r∈es.map eC,r.length=k:=λr B=>by
   obtain⟨R,u,rfl⟩:=f7.1 B;exact j R u
  obtain⟨hi,I,y⟩:=RM N (e:=e) (k:=k) (c:=n) (rows:=es.map eC) (cur:=cur) rfl M (by omega) q h (Ge L h);rw [i] at y;exact⟨_,_,_,_,v,I,hi,(show Bq _ (.o _) _ from y),J⟩
theorem Dt{V:View}{U:Operand->Value}{fl:List (Nat×Nat)}:∀(ps:List (Nat×Operand)) (es:List E) (qs:List (Nat×List C)),(∀x∈ps.map (·.2),∀e,ev f x=some e->Bq V e (U x))->Jl f (ps.map (·.2))=some es->FG fl ps es=some qs->
 Pe V (fl[·]?) (ps.map λ(i,x)=>(i,U x)) qs
 | [],es,qs,_,a,h=>by
  injection a with a;subst a
  injection h with h;subst h;trivial
 | (i, x)::ps,es,qs,b,a,h=>by
  simp only [kk,Jl,jo,d7] at a;obtain⟨e',k,es',j,rfl⟩:=a;simp only [FG] at h;split at h
  ·rename_i off size c
   cases hb:Nat.beq (eC e').length size && QD e'
   ·rw [hb] at h;cases h
   ·rw [hb] at h
    simp only [cond_true,d7] at h;obtain⟨qs',g,rfl⟩:=h;rw [d4] at hb;have:=f9 hb.1;subst this;exact⟨c,MV hb.2 (b x (by simp) e' k),Dt ps es' qs' (λy d=>b y (by simp at d |-;exact .inr d)) j g⟩
  ·cases h
theorem AS{t:TypeId}{z:List Value}{fl:List (Nat×Nat)}{parts:Array (Nat×Operand)}{es:List E}{qs:List (Nat×List C)}[Y:BJ P t z][hf:Fj P t fl](R:Jl f (parts.toList.map (·.2))=some es)(hq:FG fl parts.toList es=some qs)
 (M:z.all Od=true) (N:(qs.all λx=>Nat.ble (x.1+x.2.length) z.length)=true):A8 P TB Z ⟨d,.build t parts,ty,pos,af,g⟩ f σ nx (.a (DL qs (z.map zC))):=
 AO λV U h1 _=>by
  obtain⟨i,zv,hi,A,s⟩:=Hx Y.out;have Q:=Dt (V:=V) (U:=U) parts.toList es qs (λx J e he=>h1.get (by simp only [Op.operands];simpa using J) he) R hq
  have I:CP V (z.map zC) zv.cells:=by
   refine⟨by rw [gt,<-s];simp,λj c v T S=>?_⟩;simp only [ge,d7] at T;obtain⟨u,k,rfl⟩:=T
   have:u=v:=by
    rw [<-s] at k;simp only [jO] at k;rw [k] at S;exact Option.some.inj S
   subst this;exact Li (d8.1 M u (co k))
  obtain⟨cells,G,h4⟩:=GC _ _ _ _ Q I (λx J=>by rw [gt];exact JA _ _ N x J);have r:=hf.out
  have b:(parts.map λ(i,x)=>(i,U x)).toList=parts.toList.map λ(i,x)=>(i,U x):=by simp
  refine⟨.agg cells,?_,cells,rfl,h4⟩
  have hb : (Instr.build t (parts.map λ(i,x)=>(i,U x))).run P V.w=.ok (.agg cells) V.w:=by
   unfold ez at r;split at r
   ·rename_i fs k
    have L:∀(l:List Field) (ll:List (Nat×Nat)),(l.mapM λf=>(P.info? f.type).map λi=>(f.offset,i.size))=some ll->∀w,((l.mapM λf=>do pure (f.offset,<-sizeOf f.type)):Sem (List (Nat×Nat))).run P w=.ok ll w:=by
     intro l
     induction l with
     | nil=>intro ll h w;simp at h;subst h;simp [go_sem]
     | cons y l H=>
      intro ll h w;simp only [lk,l8,jo,d7] at h;obtain⟨p,⟨ii,o,rfl⟩,ll',h5,X⟩:=h;simp at X;subst X
      have K:(sizeOf y.type).run P w=.ok ii.size w:=by simp [sizeOf,typeInfo,o,go_sem]
      have ihh:=H ll' h5 w;simp only [bind_pure_comp] at ihh;simp only [lk,jb,K,iW,bind_pure_comp,k9,ihh]
    have B:=L fs.toList fl r V.w
    have m:(zeroValue t).run P V.w=.ok zv V.w:=by simp [zeroValue,typeInfo,hi,A,go_sem]
    have ha:((fs.mapM λf=>do pure (f.offset,<-sizeOf f.type)):Sem (Array (Nat×Nat))).run P V.w=.ok fl.toArray V.w:=by
     rw [lF,k9,B];rfl
    rw [<-b] at G;simp only [Instr.build,jb,m,iW,run_underlying k,ha];simp only [jP];rw [G];rfl
   ·rename_i n e k
    simp only [d7] at r;obtain⟨ii,o,rfl⟩:=r
    have m:(zeroValue t).run P V.w=.ok zv V.w:=by simp [zeroValue,typeInfo,hi,A,go_sem]
    have K:(sizeOf e).run P V.w=.ok ii.size V.w:=by simp [sizeOf,typeInfo,o,go_sem]
    have q:∀(ps:List (Nat×Value)) (c c':Array Value),Instr.fill (λi=>((List.range n).map λj=>(j*ii.size,ii.size))[i]?) c ps=some c'->Instr.fill (λi=>some (i*ii.size,ii.size)) c ps=some c':=by
     intro ps
     induction ps with
     | nil=>intro c c' h;simpa [Instr.fill] using h
     | cons p ps H=>
      intro c c' h;obtain⟨i',v'⟩:=p;unfold Instr.fill at h |-;by_cases F:i' < n
      ·simp only [ge,kW F,kE] at h
       simp only at h |-;split at h
       ·cases h
       ·rename_i hno
        rw [if_neg hno];exact H _ _ (by simpa only [ge] using h)
      ·simp [F] at h
    rw [<-b] at G;simp only [Instr.build,jb,m,iW,run_underlying k,K];rw [q _ _ _ G];rfl
   ·cases r
  show ((do let v <-Instr.build t (parts.map λ(i,x)=>(i,U x));pure (Go.Next.value v):Sem Go.Next)).run P V.w=_
  simp only [jb,hb,iW];rfl
theorem Nu(k e:Nat)(i:K (.o (.arr nx k 0 0)) ((nx,.cells e k [])::σ) (nx+1)):Cq P TB Z ⟨d,.assign (.const (.slice none 0 0)),ty,pos,af,g⟩ f σ nx K:=by
 intro V a m l j;subst j;obtain⟨hi,h⟩:=l.alloc (c:=0) (nl:=True) (w:=V.w) (ob:=.cells e k []) rfl rfl rfl rfl (iX _) (λ_ _=>rfl) (.inl ⟨by simp [Ax],rfl⟩);unfold Oper.wp
 have b:(execOp a.eval ⟨d,.assign (.const (.slice none 0 0)),ty,pos,af,g⟩).run P V.w=.ok (.value (.slice none 0 0)) V.w:=by simp [execOp,go_sem]
 rw [b];exact⟨Ax V V.w.heap.size 0 True V.w,.slice none 0 0,.o (.arr V.nx k 0 0),_,rfl,rfl,h,hi,AL.nil (by simp [Ax]) (by simp [Ax]),i⟩
theorem dm{t:TypeId}{x:Operand}{s:List UInt8}[b:EP P t](a:ev f x=some (eT s)):A8 P TB Z ⟨d,.call ⟨.builtin .len,#[x],#[t]⟩,ty,pos,af,g⟩ f σ nx (eI .i64 s.length):=by
 have:=dk (t:=t) (P:=P) (TB:=TB) (Z:=Z) (d:=d) (ty:=ty) (pos:=pos) (af:=af) (g:=g) (σ:=σ) (nx:=nx) a;exact this
theorem YE{t:TypeId}{x y:Operand}{s:List UInt8}{n:Int}{c:UInt8}{ik:IntKind}[j:EP P t](e:ev f x=some (eT s))(b:ev f y=some (eI ik n))
 (i:0<=n) (h:s[n.toNat]? = some c):A8 P TB Z ⟨d,.index t x y,ty,pos,af,g⟩ f σ nx (eI .u8 (c.toNat:Int)):=by
 obtain⟨a,rfl⟩:=am.1 h;exact YD (P:=P) (TB:=TB) (Z:=Z) (d:=d) (ty:=ty) (pos:=pos) (af:=af) (g:=g) (σ:=σ) (nx:=nx) e b i a
theorem fc{t yt:TypeId}{x y:Operand}{a b:List UInt8}(e:ev f x=some (eT a))(c:ev f y=some (eT b))(j:a.length+b.length<=9223372036854775807) :
 A8 P TB Z ⟨d,.binOp .add t x y yt,ty,pos,af,g⟩ f σ nx (eT (a++b)):=BD e c rfl λw=>by
 have i:¬((((⟨a.toArray⟩:ByteArray).size+(⟨b.toArray⟩:ByteArray).size:Nat):Int) > IntKind.i64.max):=by
  have:IntKind.i64.max=9223372036854775807:=by decide
  have l:(⟨a.toArray⟩:ByteArray).size=a.length:=by simp [ByteArray.size]
  have k:(⟨b.toArray⟩:ByteArray).size=b.length:=by simp [ByteArray.size]
  omega
 have h:(⟨a.toArray⟩:ByteArray)++⟨b.toArray⟩=⟨(a++b).toArray⟩:=by
  apply ByteArray.ext;simp
 have:(do eqGuard .add t x y (.string ⟨a.toArray⟩) (.string ⟨b.toArray⟩);binOp .add t (.string ⟨a.toArray⟩) (.string ⟨b.toArray⟩):Sem Value)=Op.stringOp .add ⟨a.toArray⟩ ⟨b.toArray⟩:=by
  simp [eqGuard,binOp]
 rw [this];unfold Op.stringOp;simp only;rw [if_neg i,h];rfl
theorem fg{t yt:TypeId}{x y:Operand}{a b:List UInt8}(e:ev f x=some (eT a))(c:ev f y=some (eT b)) :
 A8 P TB Z ⟨d,.binOp .eql t x y yt,ty,pos,af,g⟩ f σ nx (eB (decide (a=b))):=BD e c rfl λw=>by
 simp [eqGuard,binOp,Op.stringOp,go_sem];rw [lG];simp
theorem ft{t yt:TypeId}{x y:Operand}{a b:List UInt8}(e:ev f x=some (eT a))(c:ev f y=some (eT b)) :
 A8 P TB Z ⟨d,.binOp .neq t x y yt,ty,pos,af,g⟩ f σ nx (eB (decide (a≠b))):=BD e c rfl λw=>by
 simp [eqGuard,binOp,Op.stringOp,go_sem];rw [lG];simp
end
def C.fX:C->Bool
 | .d (.v _)=>true
 | _=>false
def E.sc:E->Bool
 | .o c=>c.fX
 | .a cs=>cs.all C.fX
 | .t xs=>xs.all λx=>x.2.all C.fX
 | .e=>true
theorem Kf{V V':View}{c:C}{v:Value}(h:AL V c v)(a:c.fX=true):AL V' c v:=by
 cases h with
 | d h=>cases h with
  | v b=>exact .d (.v b)
  | _=>cases a
 | _=>cases a
theorem dy{V V':View}{e:E}{v:Value}(h:Bq V e v)(l:e.sc=true):Bq V' e v:=by
 cases e with
 | e=>exact h
 | o c=>exact Kf h l
 | a cs=>
  obtain⟨vs,m,k⟩:=h;exact⟨vs,m,k.1,λj c v d f=>Kf (k.2 j c v d f) (d8.1 l c (co d))⟩
 | t xs=>
  obtain⟨vs,m,k,q⟩:=h;refine⟨vs,m,k,λj x v d f=>?_⟩;have p:=q j x v d f;have n:=d8.1 l x (co d);obtain⟨b,cs⟩:=x;cases b
  ·obtain⟨c,g,i⟩:=p
   have g:cs=[c]:=g;subst g;exact⟨c,rfl,Kf i (d8.1 n c (by simp))⟩
  ·obtain⟨ws,g,i⟩:=p
   exact⟨ws,g,i.1,λj c v d f=>Kf (i.2 j c v d f) (d8.1 n c (co d))⟩
inductive CV (σ:Ab):C->C->Prop
 | pure {c:C}:c.FM=true->CV σ c c
 | arr {id k off len:Nat} {T:TypeId} {rows:List (List C)} {ds:List (List D)}:look σ id=some (.cells T k rows)->off+len<=rows.length->(rows.drop off).take len=ds.map (λr=>r.map .d)->CV σ (.arr id k off len) (.d (.l ds))
 | ptr {id k i j:Nat} {T:TypeId} {rows:List (List C)} {r:List C} {ds:List D}:look σ id=some (.cells T k rows)->rows[i]? = some r->r.drop j=ds.map .d->CV σ (.ptr id k i j) (.ip ds)
inductive EV (σ:Ab):E->E->Prop
 | o {c c':C}:CV σ c c'->EV σ (.o c) (.o c')
 | nil:EV σ (.a []) (.a [])
 | cons {c c':C} {cs cs':List C}:CV σ c c'->EV σ (.a cs) (.a cs')->EV σ (.a (c::cs)) (.a (c'::cs'))
inductive dK (σ:Ab):List E->List E->Prop
 | nil:dK σ [] []
 | cons {e e':E} {es es':List E}:EV σ e e'->dK σ es es'->dK σ (e::es) (e'::es')
def GJ(V:View)(σ:Ab):View:={ V with I:=λb=>V.I b\/∃id o,look σ id=some o/\¬V.nl id/\EF V id o b,nx:=0 }
section
variable {P:Program}{TB:BA}{Z:Ctx}{d:Option Tmp}{ty:TypeId}{pos:String}{af:Array Edge}{g:Option (Nat×Bool)}{f:Env}{σ:Ab}{nx:Nat}
variable {K:E->Ab->Nat->Prop}
theorem AL.eP{V:View}{c:C}{v:Value}(h:AL V c v)(a:c.FM=true):AL (GJ V σ) c v:=by
 induction h with
 | d h=>exact .d (h.mono (λ_ h=>.inl h) λ_ _=>rfl)
 | nil=>simp [C.FM] at a
 | arr=>simp [C.FM] at a
 | ptr=>simp [C.FM] at a
 | fn g _ e=>
  simp only [C.FM] at a;exact .fn g λj c v b f=>e j c v b f (FN _ a j c b)
 | mp=>simp [C.FM] at a
 | mv g _ e=>
  simp only [C.FM] at a;exact .mv g λj c v b f=>e j c v b f (FN _ a j c b)
theorem CI.eO{V:View}{x:D}{v:Value}(h:CI V.I V.w x v):CI (GJ V σ).I (GJ V σ).w x v:=h.mono (λ_ h=>.inl h) λ_ _=>rfl
theorem CV.rel{V:View}(hi:Inv TB Z V σ){c c':C}{v:Value}(h:CV σ c c')(F:AL V c v):AL (GJ V σ) c' v:=by
 cases h with
 | pure L=>exact F.eP L
 | @arr id k off len T rows ds z M u=>
  cases F with
  | nil K J=>
   have:ds=[]:=by
    have:=congrArg List.length u;simp at this;exact i8.1 this.symm
   subst this;exact .d .nil
  | arr K p J=>
   rcases hi.st.obj id _ z with ⟨t,_⟩|⟨_,cur,t,Q,P,N,H,G⟩
   ·exact absurd t p
   ·have y:ds.length=len:=by
     have:=congrArg List.length u;simp at this;omega
    have m:∀(i:Nat) (r:List D),ds[i]? = some r->rows[off+i]? = some (r.map .d):=λi r hi=>by
     have n:((rows.drop off).take len)[i]? = some (r.map .d):=by rw [u];simp [hi]
     rw [jk] at n;split at n
     ·rwa [jl] at n
     ·cases n
    have a:∀(i:Nat) (r:List D) (j:Nat) (x:D),ds[i]? = some r->r[j]? = some x->∃v,cur[(off+i)*k+j]? = some v/\CI V.I V.w x v:=λi r j x hi A=>by
     obtain⟨v,g,f⟩:=G (off+i) (r.map .d) j (.d x) (m i r hi) (by simp [A])
     cases f with
     | d f=>exact⟨v,g,f⟩
    rw [<-y] at J |-;refine .d (.l (b:=V.U id) (o:=off*k) (k:=k) (vs:=λi j=>cur.getD ((off+i)*k+j) undef) (.inr ⟨id,_,z,p,rfl⟩) (by omega) (by omega) (λi r hi=>?_) (λi r j x hi A=>?_) (λi r j x hi A=>?_))
    ·have:=H _ (co (m i r hi))
     simpa using this
    ·obtain⟨v,g,_⟩:=a i r j x hi A
     have e:off*k+i*k+j=(off+i)*k+j:=by rw [js]
     rw [e];have:(GJ V σ).w.heap[V.U id]? = some (.cells cur T):=t;simp [World.cell?,this,g]
    ·obtain⟨v,g,f⟩:=a i r j x hi A
     have:cur.getD ((off+i)*k+j) undef=v:=by simp [g]
     simp only [this];exact f.eO
 | @ptr id k i j T rows r ds z B u=>
  cases F with
  | ptr K p=>
   rcases hi.st.obj id _ z with ⟨t,_⟩|⟨_,cur,t,Q,P,N,H,G⟩
   ·exact absurd t p
   ·have m:∀(q:Nat) (x:D),ds[q]? = some x->r[j+q]? = some (.d x):=λq x s=>by
     have n:(r.drop j)[q]? = some (.d x):=by rw [u];simp [s]
     rwa [jl] at n
    have a:∀(q:Nat) (x:D),ds[q]? = some x->∃v,cur[i*k+j+q]? = some v/\CI V.I V.w x v:=λq x s=>by
     obtain⟨v,g,f⟩:=G i r (j+q) (.d x) B (m q x s)
     cases f with
     | d f=>exact⟨v,by rw [jz];exact g,f⟩
    refine .ip (V:=GJ V σ) (vs:=λq=>cur.getD (i*k+j+q) undef) (.inr ⟨id,_,z,p,rfl⟩) (λq x s=>?_) (λq x s=>?_)
    ·obtain⟨v,g,_⟩:=a q x s
     have:(GJ V σ).w.heap[V.U id]? = some (.cells cur T):=t;simp [World.cell?,this,g]
    ·obtain⟨v,g,f⟩:=a q x s
     have:cur.getD (i*k+j+q) undef=v:=by simp [g]
     simp only [this];exact f.eO
theorem EV.rel{V:View}(hi:Inv TB Z V σ){e e':E}(h:EV σ e e'):∀ {v:Value},Bq V e v->Bq (GJ V σ) e' v:=by
 have key:∀ {e e':E},EV σ e e'->(∀c c',e=.o c->e'=.o c'->CV σ c c')/\(∀cs cs',e=.a cs->e'=.a cs'->cs.length=cs'.length/\∀(j:Nat) c c',cs[j]? = some c->cs'[j]? = some c'->CV σ c c')/\((∃c c',e=.o c/\e'=.o c')\/∃cs cs',e=.a cs/\e'=.a cs'):=by
  intro e e' h
  induction h with
  | o k=>exact⟨λc c' d b=>(by injection d with d;injection b with b;subst d b;exact k),λ_ _ h=>(by cases h),.inl ⟨_,_,rfl,rfl⟩⟩
  | nil=>exact⟨λ_ _ h=>(by cases h),λcs cs' d b=>(by injection d with d;injection b with b;subst d b;exact⟨rfl,λj c c' f=>(by simp at f)⟩),.inr ⟨_,_,rfl,rfl⟩⟩
  | cons k _ s=>
   refine⟨λ_ _ h=>(by cases h),λcs cs' d b=>?_,.inr ⟨_,_,rfl,rfl⟩⟩
   injection d with d;injection b with b;subst d b
   have:=s.2.1 _ _ rfl rfl;refine⟨by simp [this.1],λj c c' f g=>?_⟩
   cases j with
   | zero=>simp at f g;subst f g;exact k
   | succ j=>exact this.2 j c c' (by simpa using f) (by simpa using g)
 intro v m;obtain⟨r,q,p⟩:=key h
 rcases p with ⟨c,c',rfl,rfl⟩|⟨cs,cs',rfl,rfl⟩
 ·exact(r c c' rfl rfl).rel hi m
 ·obtain⟨vs,rfl,d,b⟩:=m
  obtain⟨l,n⟩:=q cs cs' rfl rfl;refine⟨vs,rfl,by rw [d,l],λj c' u f t=>?_⟩
  have i:j < cs.length:=by rw [l];exact(am.1 f).1
  exact(n j cs[j] c' (d6 i) f).rel hi (b j _ u (d6 i) t)
theorem Jv{x:Operand}{args:Array Operand}{tys:Array TypeId}{gg:FuncId}{vs:Array Value}(f:bR P gg){U:Operand->Value}(e:U x=.func (.func gg) #[] vs)(w:World) :
 (execOp U ⟨d,.call ⟨.value x,args,tys⟩,ty,pos,af,g⟩).run P w=.ok (.enter gg (args.map U++vs)) w:=by
 obtain⟨fn,i,h,b⟩:=f
 have hb:∃c,fn.body=some c:=by cases hb:fn.body with|none=>rw [hb] at b;cases b|some c=>exact⟨c,rfl⟩
 obtain⟨c,hb⟩:=hb;simp only [execOp,resolve,e,Deferred.ofValue,pure_bind,invoke,callFunc]
 have a:¬fn.name = "runtime.NumGoroutine" := by simpa using h
 simp [Sem.run,program,i,a,hb,go_sem]
theorem HK{V:View}{U:Operand->Value}{args:List Operand}{es:List E}(h:∀x∈args,∀e,ev f x=some e->Bq V e (U x))(a:Jl f args=some es) :
 ∀(j:Nat) e v,es[j]? = some e->(args.map U)[j]? = some v->Bq V e v:=by
 intro j e v d c;simp only [ge,d7] at c;obtain⟨x,b,rfl⟩:=c;exact h x (co b) e (UB a j x e b d)
theorem MZ{V:View}{gg:FuncId}{cap:List C}{v:Value}(h:Bq V (.o (.fn gg cap)) v):∃vs,v=.func (.func gg) #[] vs/\CP V cap vs:=by
 have h:AL V (.fn gg cap) v:=h;generalize a:C.fn gg cap=c at h;cases h<;>cases a;rename_i vs d b;exact⟨vs,rfl,d,b⟩
theorem MH{V Vc V1:View}{S:Sz}(h:Inv TB Z V σ)(m:Of TB V σ S)(y:∀b,S.J b->Z.J b\/Z.V.w.heap.size<=b\/Z.F b)(j:∀b,S.B b->Z.V.w.heap.size<=b\/Z.F b)(k:Vc.w=V.w){u:Ab}(q:Inv TB (GB Vc Vc [] S) V1 u)(I':Nat->Prop)(p:∀b,V.I b->I' b)(n:∀b,I' b->V.I b\/(V.w.heap.size<=b/\b < V1.w.heap.size)\/S.B b)
 (A:∀b,V1.I b->(V.w.heap.size<=b\/S.B b)->I' b) (z:∀b,I' b->V1.I b) :
 Inv TB Z { V with I:=I',w:=V1.w } σ/\Ext V { V with I:=I',w:=V1.w } := by
 have d:∀b,b < V.w.heap.size->¬S.B b->V1.w.heap[b]? = V.w.heap[b]?:=λb hb g=>by
  have:=q.old b (by show b < Vc.w.heap.size;rw [k];exact hb) (λh=>h.elim (λ⟨_,_,h,_⟩=>by cases h) g)
  rw [this];show Vc.w.heap[b]? = _;rw [k]
 have l:V.w.heap.size<=V1.w.heap.size:=by have i:Vc.w.heap.size<=V1.w.heap.size:=q.ext.size;rw [k] at i;exact i
 have e:Ext V { V with I:=I',w:=V1.w } := ⟨p,λb hb=>d b (h.iLt b hb) λs=>m.bi b s hb,l,λ_ _=>rfl,λ_ _=>rfl,λ_ _=>Iff.rfl,iX _⟩
 refine⟨⟨?_,?_,?_,λb hb t=>(d b (ja hb h.ext.size) λs=>(j b s).elim (λh=>by omega) t).trans (h.old b hb t),?_,?_,h.ext.trans e,⟨?_,h.st.lt,?_,h.st.inj⟩,h.live,?_,?_⟩,e⟩
 ·have i:V1.w.os=Vc.w.os:=q.os
  rw [k] at i;exact i.trans h.os
 ·have i:V1.w.tape=Vc.w.tape:=q.tape
  rw [k] at i;exact i.trans h.tape
 ·have i:V1.w.output=Vc.w.output:=q.output
  rw [k] at i;exact i.trans h.output
 ·intro b hb
  rcases n b hb with a|a|a
  ·exact ja (h.iLt b a) l
  ·exact a.2
  ·exact ja (m.r.blt a) l
 ·intro b hb
  rcases n b hb with a|a|a
  ·exact h.iNew b a
  ·exact .inr (.inl (i9 h.ext.size a.1))
  ·exact .inr (j b a)
 ·intro id o f
  exact(h.st.obj id o f).AX e (h.st.lt id o f) λg b hb=>d _ ((h.st.obj id o f).blt g hb) (m.ap b ⟨id,o,f,g,hb⟩)
 ·intro id o f g b c hb
  have c:=(AK e (h.st.lt id o f)).1 c
  rcases n _ hb with a|a|a
  ·exact h.st.free id o f g b c a
  ·have:=(h.st.obj id o f).blt g c
   have N:V.w.heap.size<=b:=a.1;omega
  ·exact m.ap b ⟨id,o,f,g,c⟩ a
 ·intro x s
  have:=h.tabs x s;exact⟨p _ this.1,(d _ (h.iLt _ this.1) λM=>m.bi _ M this.1).trans this.2⟩
 ·obtain⟨S1,v,L,K⟩:=q.hid
  have H:∀b,S1.B b->V.w.heap.size<=b\/S.B b:=λb hb=>by
   rcases K b hb with a|a|a
   ·have a:Vc.w.heap.size<=b:=a
    rw [k] at a;exact .inl a
   ·obtain⟨_,_,h,_⟩:=a;cases h
   ·exact .inr a
  have G:∀b,S1.J b->S.J b\/V.w.heap.size<=b\/S.B b:=λb hb=>by
   rcases L b hb with a|a|a|a
   ·exact .inl a
   ·have a:Vc.w.heap.size<=b:=a
    rw [k] at a;exact .inr (.inl a)
   ·obtain⟨_,_,h,_⟩:=a;cases h
   ·exact .inr (.inr a)
  refine⟨S1,⟨v.r,λb hb=>?_,λb hb hi=>v.bi b hb (z b hi),λb t hb=>?_⟩,λb hb=>?_,λb hb=>?_⟩
  ·rcases G b hb with a|a
   ·exact p b (m.ji b a)
   ·exact A b (v.ji b hb) a
  ·obtain⟨id,o,f,g,c⟩:=HN e h.st.lt t
   rcases H b hb with a|a
   ·have:=(h.st.obj id o f).blt g c
    omega
   ·exact m.ap b ⟨id,o,f,g,c⟩ a
  ·rcases G b hb with a|a|a
   ·exact y b a
   ·exact .inr (.inl (i9 h.ext.size a))
   ·exact .inr (j b a)
  ·rcases H b hb with a|a
   ·exact .inl (i9 h.ext.size a)
   ·exact j b a
theorem Ht{V:View}:Jp V []:=⟨λ_ _ h=>(by cases h),λ_ _ h=>(by cases h),λ_ _ h=>(by cases h),λ_ _ _ _ h=>(by cases h)⟩
theorem Gp{x:Operand}{args:Array Operand}{tys:Array TypeId}{gg:FuncId}{cap:List C}{es:List E}{r:E}(T:ev f x=some (.o (.fn gg cap)))(t:Jl f args.toList=some es)(G:(es.all E.FM && C.HE cap)=true)
 (M:Pure P TB gg (es++cap.map .o) r) (X:r.FM=true):A8 P TB Z ⟨d,.call ⟨.value x,args,tys⟩,ty,pos,af,g⟩ f σ nx r:=by
 intro V a z B h3;have z:=z.Jz;unfold Oper.wp;generalize a.eval=U at z |-;obtain⟨vs,p,l⟩:=MZ (z.get (x:=x) (by simp [Op.operands,Call.operands]) T);rw [Jv M.1 p];rw [d4] at G;have u:=CE t
 have n:Oe { V with nx:=0 } (es++cap.map .o) (args.map U++vs):=by
  refine⟨by simp [l.1,u],λj e v q p=>?_⟩
  have m:(args.map U).size=es.length:=by simp [u]
  by_cases s:j < es.length
  ·rw [d9 s] at q
   rw [jr (by rw [m];exact s)] at p;refine Bq.FM (V:=V) (V':={ V with nx:=0 }) rfl rfl (HK (λy R e Y=>z.get (by simp [Op.operands,Call.operands];right;simpa using R) Y) t j e v q (by rw [<-lu];simpa using p)) (d8.1 G.1 e (co q))
  ·rw [em (by omega)] at q
   rw [kg (by rw [m];omega),m] at p;simp only [ge,d7] at q;obtain⟨c,N,rfl⟩:=q;exact AL.FM (V:=V) (V':={ V with nx:=0 }) rfl rfl (l.2 _ c v N p) (FN _ G.2 _ c N)
 obtain⟨S,A,K,L⟩:=B.hid;refine(M.2 { V with nx:=0 } _ S ⟨B.iLt,Ht,B.tabs,rfl,⟨A.r,A.ji,A.bi,λb ⟨_,_,h,_⟩=>by cases h⟩⟩ n).mono ?_;rintro e w' ⟨V1,v,x1,Q,rfl,rfl,k,F,rfl⟩
 obtain⟨H,J⟩:=MH B A K L (Vc:={ V with nx:=0 }) rfl k V1.I (λb hb=>k.ext.i b hb) (λb hb=>by
  rcases k.iNew b hb with h|h|h|h
  ·exact .inl h
  ·exact .inr (.inl ⟨h,k.iLt b hb⟩)
  ·obtain⟨_,_,h,_⟩:=h;cases h
  ·exact .inr (.inr h)) (λb hb _=>hb) (λb hb=>hb)
 exact⟨{ V with I:=V1.I,w:=V1.w },v,rfl,rfl,J,H,h3,Bq.FM (V:=V1) (V':={ V with I:=V1.I,w:=V1.w }) rfl rfl F X⟩
theorem JZ{x:Operand}{args:Array Operand}{tys:Array TypeId}{gg:FuncId}{cap:List C}{es es':List E}{r:E}(H:ev f x=some (.o (.fn gg cap)))(K:Jl f args.toList=some es)(q:dK σ (es++cap.map .o) es')
 (hs:Pure P TB gg es' r) (hr:r.sc=true):A8 P TB Z ⟨d,.call ⟨.value x,args,tys⟩,ty,pos,af,g⟩ f σ nx r:=by
 intro V a G p h3;have G:=G.Jz;unfold Oper.wp;generalize a.eval=U at G |-;obtain⟨vs,Q,t⟩:=MZ (G.get (x:=x) (by simp [Op.operands,Call.operands]) H);rw [Jv hs.1 Q];have L:=CE K
 have n:Oe V (es++cap.map .o) (args.map U++vs):=by
  refine⟨by simp [t.1,L],λj e v m q=>?_⟩
  have u:(args.map U).size=es.length:=by simp [L]
  by_cases k:j < es.length
  ·rw [d9 k] at m
   rw [jr (by rw [u];exact k)] at q;exact HK (λy hy e he=>G.get (by simp [Op.operands,Call.operands];right;simpa using hy) he) K j e v m (by rw [<-lu];simpa using q)
  ·rw [em (by omega)] at m
   rw [kg (by rw [u];omega),u] at q;simp only [ge,d7] at m;obtain⟨c,hc,rfl⟩:=m;exact t.2 _ c v hc q
 have R:∀ {l l':List E},dK σ l l'->l.length=l'.length/\∀(j:Nat) e e',l[j]? = some e->l'[j]? = some e'->EV σ e e':=by
  intro l l' h
  induction h with
  | nil=>exact⟨rfl,λj e e' m=>by simp at m⟩
  | cons h _ ih=>
   refine⟨by simp [ih.1],λj e e' m z=>?_⟩
   cases j with
   | zero=>simp at m z;subst m z;exact h
   | succ j=>exact ih.2 j e e' (by simpa using m) (by simpa using z)
 obtain⟨s,J⟩:=R q
 have F:Oe (GJ V σ) es' (args.map U++vs):=by
  refine⟨by rw [n.1,s],λj e v m q=>?_⟩
  have k:j < (es++cap.map E.o).length:=by rw [s];exact(am.1 m).1
  exact(J j _ e (d6 k) m).rel p (n.2 j _ v (d6 k) q)
 have k:∀b,(GJ V σ).I b->b < (GJ V σ).w.heap.size:=by
  rintro b (hb|⟨id,o,X,T,hb⟩)
  ·exact p.iLt b hb
  ·exact(p.st.obj id o X).blt T hb
 obtain⟨S,M,hSJ,hSB⟩:=p.hid;refine(hs.2 (GJ V σ) _ S ⟨k,Ht,λx H=>⟨.inl (p.tabs x H).1,(p.tabs x H).2⟩,rfl,⟨M.r,λb hb=>.inl (M.ji b hb),λb hb hi=>hi.elim (M.bi b hb) λ⟨id,o,X,T,H⟩=>M.ap b ⟨id,o,X,T,H⟩ hb,λb ⟨_,_,h,_⟩=>by cases h⟩⟩ F).mono ?_;rintro e w' ⟨V1,v,x1,σ1,rfl,rfl,A,N,rfl⟩;obtain⟨Y,he'⟩:=MH p M hSJ hSB (Vc:=GJ V σ) rfl A (λb=>V.I b\/(V.w.heap.size<=b\/S.B b)/\V1.I b) (λb hb=>.inl hb) (λb hb=>hb.elim .inl λh=>.inr (h.1.elim (λg=>.inl ⟨g,A.iLt b h.2⟩) .inr)) (λb G p=>.inr ⟨p,G⟩) (λb hb=>hb.elim (λh=>A.ext.i b (.inl h)) λh=>h.2);exact⟨{ V with I:=λb=>V.I b\/(V.w.heap.size<=b\/S.B b)/\V1.I b,w:=V1.w },v,rfl,rfl,he',Y,h3,dy N hr⟩
end
def Cu:List Nat->Ab->Ab
 | [],σ=>σ
 | id::r,σ=>Cu r (kill id σ)
theorem Bk:∀(ids:List Nat) (σ:Ab) (i:Nat) (o:O),look (Cu ids σ) i=some o->i∉ids/\look σ i=some o
 | [],σ,i,o,h=>⟨by simp,h⟩
 | id :: r,σ,i,o,h=>by
  obtain⟨b,a⟩:=Bk r (kill id σ) i o h;rw [Ep] at a;by_cases hi:i=id
  ·rw [if_pos hi] at a;cases a
  ·rw [if_neg hi] at a
   exact⟨by simp [hi,b],a⟩
inductive FC (σ:Ab) (ids:List Nat):C->C->Prop
 | AX {c:C}:FC σ ids c c
 | arr {id k off len:Nat} {T:TypeId} {rows:List (List C)} {ds:List (List D)}:id∈ids->look σ id=some (.cells T k rows)->off+len<=rows.length->(rows.drop off).take len=ds.map (λr=>r.map .d)->FC σ ids (.arr id k off len) (.d (.l ds))
 | ptr {id k i j:Nat} {T:TypeId} {rows:List (List C)} {r:List C} {ds:List D}:id∈ids->look σ id=some (.cells T k rows)->rows[i]? = some r->r.drop j=ds.map .d->FC σ ids (.ptr id k i j) (.ip ds)
inductive FE (σ:Ab) (ids:List Nat):E->E->Prop
 | AX {e:E}:FE σ ids e e
 | o {c c':C}:FC σ ids c c'->FE σ ids (.o c) (.o c')
 | nil:FE σ ids (.a []) (.a [])
 | cons {c c':C} {cs cs':List C}:FC σ ids c c'->FE σ ids (.a cs) (.a cs')->FE σ ids (.a (c::cs)) (.a (c'::cs'))
def Ej(σ:Ab)(ids:List Nat)(f:Env):List (Nat×E)->Prop
 | []=>True
 | (t,e')::L=>(∃e,f t=some e/\FE σ ids e e')/\Ej σ ids f L
theorem Ej.get{σ:Ab}{ids:List Nat}{f:Env}:∀ {L:List (Nat×E)},Ej σ ids f L->∀t e',look L t=some e'->∃e,f t=some e/\FE σ ids e e'
 | [],_,t,e,h=>by cases h
 | (k,x)::L,a,t,e,h=>by
  rw [AA] at h;by_cases hk:k=t
  ·rw [if_pos hk] at h;injection h with h;subst h;subst hk;exact a.1
  ·rw [if_neg hk] at h;exact Ej.get a.2 t e h
def Mc(V:View)(σ:Ab)(ids:List Nat):View:={ V with I:=λb=>V.I b\/∃id o,id∈ids/\look σ id=some o/\¬V.nl id/\EF V id o b }
section
variable {P:Program}{TB:BA}{Z:Ctx}{N:Nat}{σ:Ab}
theorem Px{V:View}{ids:List Nat}:Ext V (Mc V σ ids):=⟨λ_ h=>.inl h,λ_ _=>rfl,iX _,λ_ _=>rfl,λ_ _=>rfl,λ_ _=>Iff.rfl,iX _⟩
theorem FC.rel{V:View}(hi:Inv TB Z V σ){ids:List Nat}{c c':C}{v:Value}(h:FC σ ids c c')(G:AL V c v):AL (Mc V σ ids) c' v:=by
 have e:Ext V (Mc V σ ids):=Px
 cases h with
 | AX=>exact G.ext e
 | @arr id k off len T rows ds F z M u=>
  cases G with
  | nil L K=>
   have:ds=[]:=by
    have:=congrArg List.length u;simp at this;exact i8.1 this.symm
   subst this;exact .d .nil
  | arr L p K=>
   rcases hi.st.obj id _ z with ⟨t,_⟩|⟨_,cur,t,Q,P,N,J,H⟩
   ·exact absurd t p
   ·have y:ds.length=len:=by
     have:=congrArg List.length u;simp at this;omega
    have m:∀(i:Nat) (r:List D),ds[i]? = some r->rows[off+i]? = some (r.map .d):=λi r hi=>by
     have n:((rows.drop off).take len)[i]? = some (r.map .d):=by rw [u];simp [hi]
     rw [jk] at n;split at n
     ·rwa [jl] at n
     ·cases n
    have a:∀(i:Nat) (r:List D) (j:Nat) (x:D),ds[i]? = some r->r[j]? = some x->∃v,cur[(off+i)*k+j]? = some v/\CI V.I V.w x v:=λi r j x hi A=>by
     obtain⟨v,g,f⟩:=H (off+i) (r.map .d) j (.d x) (m i r hi) (by simp [A])
     cases f with
     | d f=>exact⟨v,g,f⟩
    rw [<-y] at K |-;refine .d (.l (b:=V.U id) (o:=off*k) (k:=k) (vs:=λi j=>cur.getD ((off+i)*k+j) undef) (.inr ⟨id,_,F,z,p,rfl⟩) (by omega) (by omega) (λi r hi=>?_) (λi r j x hi A=>?_) (λi r j x hi A=>?_))
    ·have:=J _ (co (m i r hi))
     simpa using this
    ·obtain⟨v,g,_⟩:=a i r j x hi A
     have e:off*k+i*k+j=(off+i)*k+j:=by rw [js]
     rw [e];have:(Mc V σ ids).w.heap[V.U id]? = some (.cells cur T):=t;simp [World.cell?,this,g]
    ·obtain⟨v,g,f⟩:=a i r j x hi A
     have:cur.getD ((off+i)*k+j) undef=v:=by simp [g]
     simp only [this];exact f.ext e
 | @ptr id k i j T rows r ds F z B u=>
  cases G with
  | ptr L p=>
   rcases hi.st.obj id _ z with ⟨t,_⟩|⟨_,cur,t,Q,P,N,J,H⟩
   ·exact absurd t p
   ·have m:∀(q:Nat) (x:D),ds[q]? = some x->r[j+q]? = some (.d x):=λq x s=>by
     have n:(r.drop j)[q]? = some (.d x):=by rw [u];simp [s]
     rwa [jl] at n
    have a:∀(q:Nat) (x:D),ds[q]? = some x->∃v,cur[i*k+j+q]? = some v/\CI V.I V.w x v:=λq x s=>by
     obtain⟨v,g,f⟩:=H i r (j+q) (.d x) B (m q x s)
     cases f with
     | d f=>exact⟨v,by rw [jz];exact g,f⟩
    refine .ip (V:=Mc V σ ids) (vs:=λq=>cur.getD (i*k+j+q) undef) (.inr ⟨id,_,F,z,p,rfl⟩) (λq x s=>?_) (λq x s=>?_)
    ·obtain⟨v,g,_⟩:=a q x s
     have:(Mc V σ ids).w.heap[V.U id]? = some (.cells cur T):=t;simp [World.cell?,this,g]
    ·obtain⟨v,g,f⟩:=a q x s
     have:cur.getD (i*k+j+q) undef=v:=by simp [g]
     simp only [this];exact f.ext e
theorem FE.rel{V:View}(hi:Inv TB Z V σ){ids:List Nat}{e e':E}(h:FE σ ids e e'):∀ {v:Value},Bq V e v->Bq (Mc V σ ids) e' v:=by
 induction h with
 | AX=>intro v a;exact a.ext Px
 | o f=>intro v a;exact f.rel hi a
 | nil=>intro v a;obtain⟨vs,rfl,d,_⟩:=a;exact⟨vs,rfl,d,λj c v b=>by simp at b⟩
 | @cons c c' cs cs' f _ k=>
  rintro v ⟨vs,rfl,d,i⟩
  have l:0 < vs.size:=by rw [d];simp
  have ht:=@k (.agg (vs.extract 1 vs.size)) ⟨_,rfl,by simp [d],λj c v b a=>i (j+1) c v (by simpa using b) (by
   rw [lT] at a;split at a
   ·rw [lL] at a;exact a
   ·cases a)⟩
  obtain⟨ws,g,p,n⟩:=ht
  injection g with g
  subst g;refine⟨vs,rfl,by simp at p |-;omega,λj q v b a=>?_⟩
  cases j with
  | zero=>
   simp at b;subst b;exact f.rel hi (i 0 c v (by simp) a)
  | succ j=>
   refine n j q v (by simpa using b) ?_;have m:=(jq.1 a).1;rw [lT,if_pos (by omega),lL];exact a
theorem Cg.freeze{V:View}{f:Env}{nx:Nat}{a:Act}(h:Cg TB Z N V f σ nx a)(ids:List Nat)(L:List (Nat×E))(r:Ej σ ids f L):Cg TB Z N (Mc V σ ids) (look L) (Cu ids σ) nx a:=by
 have e:Ext V (Mc V σ ids):=Px;refine⟨λt x l=>?_,λt x l=>?_,h.size,?_,h.nx,h.defers⟩
 ·obtain⟨y,n,g⟩:=r.get t x l
  exact g.rel h.inv (h.env t y n)
 ·obtain⟨y,n,_⟩:=r.get t x l
  exact h.lt t y n
 ·have hi:=h.inv
  refine⟨hi.os,hi.tape,hi.output,hi.old,?_,?_,hi.ext.trans e,⟨?_,?_,?_,?_⟩,?_,λx l=>⟨.inl (hi.tabs x l).1,(hi.tabs x l).2⟩,hi.hid.same rfl (λ_ h=>.inl h) (λb hb=>hb.elim .inl λ⟨id,o,_,c,d,q⟩=>.inr ⟨id,o,c,d,q⟩) λb ⟨id,o,c,d,hb⟩=>have g:=(Bk ids σ id o c).2;⟨id,o,g,d,(AK e (hi.st.lt id o g)).1 hb⟩⟩
  ·rintro b (hb|⟨id,o,_,c,d,hb⟩)
   ·exact hi.iLt b hb
   ·exact(hi.st.obj id o c).blt d hb
  ·rintro b (hb|⟨id,o,_,c,d,hb⟩)
   ·exact hi.iNew b hb
   ·exact .inr (hi.live id o c d b hb)
  ·intro id o c
   have:=(Bk ids σ id o c).2;exact(hi.st.obj id o this).AX e (hi.st.lt id o this) λ_ _ _=>rfl
  ·intro id o c;exact hi.st.lt id o (Bk ids σ id o c).2
  ·intro id o c d b i hb
   obtain⟨n,g⟩:=Bk ids σ id o c;have i:=(AK e (hi.st.lt id o g)).1 i
   rcases hb with hb|⟨id',o',s,k,j,q⟩
   ·exact hi.st.free id o g d b i hb
   ·exact hi.st.inj id id' o o' g k (λe=>n (e ▸ s)) d j b i q
  ·intro id id' o o' c k p d j b hb i
   have g:=(Bk ids σ id o c).2;have m:=(Bk ids σ id' o' k).2;exact hi.st.inj id id' o o' g m p d j b ((AK e (hi.st.lt id o g)).1 hb) ((AK e (hi.st.lt id' o' m)).1 i)
  ·intro id o c d b hb
   have g:=(Bk ids σ id o c).2;exact hi.live id o g d b ((AK e (hi.st.lt id o g)).1 hb)
theorem FC.full{ids:List Nat}{id k len:Nat}{T:TypeId}{rows:List (List C)}{ds:List (List D)}(c:id∈ids)(e:look σ id=some (.cells T k rows))(a:rows=ds.map (λr=>r.map .d))(b:rows.length=len):FC σ ids (.arr id k 0 len) (.d (.l ds)):=
 .arr c e (by omega) (by rw [jV,<-b,iV];exact a)
theorem CV.full{id k len:Nat}{T:TypeId}{rows:List (List C)}{ds:List (List D)}(c:look σ id=some (.cells T k rows))(a:rows=ds.map (λr=>r.map .d))(b:rows.length=len):CV σ (.arr id k 0 len) (.d (.l ds)):=
 .arr c (by omega) (by rw [jV,<-b,iV];exact a)
theorem Ai.freeze{c:Code}{Q:Exit->Env->Ab->Nat->Prop}{f:Env}{nx:Nat}(ids:List Nat)(L:List (Nat×E))(d:Ej σ ids f L)(h:Ai P TB Z N c Q (look L) (Cu ids σ) nx):Ai P TB Z N c Q f σ nx:=
 λV a b=>h (Mc V σ ids) a (b.freeze ids L d)
end
def Ky(l:List Nat)(nx:Nat)(i:Nat):Nat:=match l[i]? with|some j=>j|none=>nx+(i - l.length)
theorem da{l:List Nat}{nx i:Nat}(h:i < l.length):Ky l nx i=l[i]:=by unfold Ky;rw [d6 h]
theorem c8{l:List Nat}{nx i:Nat}(h:l.length<=i):Ky l nx i=nx+(i - l.length):=by unfold Ky;rw [jt h]
theorem Hk{l:List Nat}{nx i:Nat}(h:i < l.length):nm l nx i=l[i]:=by unfold nm;rw [d6 h]
def Ab.Be(r:Nat->Nat):Ab->Ab
 | []=>[]
 | (i,o)::σ=>(r i,o.Be r)::Ab.Be r σ
theorem Nr{r:Nat->Nat}:∀ {σ:Ab} {i:Nat} {o:O},look (σ.Be r) i=some o->∃j a,r j=i/\look σ j=some a/\o=a.Be r
 | [],i,o,h=>by cases h
 | (k,x)::σ,i,o,h=>by
  simp only [Ab.Be] at h;rw [AA] at h;by_cases hk:r k=i
  ·rw [if_pos hk] at h
   injection h with h
   exact⟨k,x,hk,by rw [AA,if_pos rfl],h.symm⟩
  ·rw [if_neg hk] at h
   obtain⟨j,a,b,d,c⟩:=Nr h;refine⟨j,a,b,?_,c⟩;rw [AA,if_neg (λe=>hk (by rw [e];exact b))];exact d
theorem HT{α:Type}:∀ {l m:List (Nat×α)} {i:Nat} {o:α},look (l++m) i=some o->look l i=some o\/look m i=some o
 | [],m,i,o,h=>.inr h
 | (k,x)::l,m,i,o,h=>by
  simp only [jT] at h;rw [AA] at h |-;by_cases hk:k=i
  ·rw [if_pos hk] at h |-;exact .inl h
  ·rw [if_neg hk] at h |-;exact HT h
structure Sy (V V':View) (r:Nat->Nat):Prop where
 I:V'.I=V.I
 w:V'.w=V.w
 lt:∀id,id < V.nx->r id < V'.nx
 U:∀id,id < V.nx->V'.U (r id)=V.U id
 cap:∀id,id < V.nx->V'.cap (r id)=V.cap id
 nl:∀id,id < V.nx->(V'.nl (r id)↔V.nl id)
theorem AL.push{V V':View}{r:Nat->Nat}(b:Sy V V' r){c:C}{v:Value}(h:AL V c v):AL V' (c.Be r) v:=by
 induction h with
 | d h=>exact .d (by rw [b.I,b.w];exact h)
 | @nil id k a m=>exact .nil (b.lt id a) ((b.nl id a).2 m)
 | @arr id k off len a n m=>
  rw [<-b.U id a,<-b.cap id a];exact .arr (b.lt id a) (λh=>n ((b.nl id a).1 h)) (by rw [b.cap id a];exact m)
 | @ptr id k i j a n=>
  rw [<-b.U id a];exact .ptr (b.lt id a) (λh=>n ((b.nl id a).1 h))
 | fn a _ g=>
  refine .fn (by rw [a,Ci]) λj c v f l=>?_;rw [Eb,d7] at f;obtain⟨o,e,rfl⟩:=f;exact g j o v e l
 | @mp id a=>rw [<-b.U id a];exact .mp (b.lt id a)
 | mv a _ g=>
  refine .mv (by rw [a,Ci]) λj c v f l=>?_;rw [Eb,d7] at f;obtain⟨o,e,rfl⟩:=f;exact g j o v e l
theorem CP.push{V V':View}{r:Nat->Nat}(e:Sy V V' r){cs:List C}{vs:Array Value}(h:CP V cs vs):CP V' (C.Cp r cs) vs:=
 ⟨by rw [h.1,Ci],λj c v b d=>by
  rw [Eb,d7] at b;obtain⟨f,a,rfl⟩:=b
  exact(h.2 j f v a d).push e⟩
theorem Bq.push{V V':View}{r:Nat->Nat}(f:Sy V V' r){e:E}{v:Value}(h:Bq V e v):Bq V' (e.Be r) v:=by
 cases e with
 | e=>exact h
 | o c=>exact AL.push f h
 | a cs=>obtain⟨vs,k,i⟩:=h;exact⟨vs,k,i.push f⟩
 | t xs=>
  obtain⟨vs,k,i,q⟩:=h;refine⟨vs,k,by rw [i];simp,λj x v l p=>?_⟩;rw [ge,d7] at l;obtain⟨⟨b,cs⟩,n,rfl⟩:=l;have m:=q j (b,cs) v n p;cases b
  ·obtain⟨c,d,g⟩:=m
   have d:cs=[c]:=d;subst d;exact⟨c.Be r,rfl,g.push f⟩
  ·obtain⟨ws,d,g⟩:=m
   exact⟨ws,d,g.push f⟩
theorem CC.push{V V':View}{r:Nat->Nat}(b:Sy V V' r){id:Nat}(a:id < V.nx){o:O}(h:CC V id o):CC V' (r id) (o.Be r):=by
 cases o with
 | cells T k rows=>
  rcases h with ⟨g,d⟩|⟨m,cur,d,B,A,z,u,t⟩
  ·exact .inl ⟨(b.nl id a).2 g,by simp [d]⟩
  ·refine .inr ⟨λh=>m ((b.nl id a).1 h),cur,by rw [b.w,b.U id a];exact d,by rw [b.cap id a];exact B,by rw [b.cap id a];simpa using A,by rw [b.cap id a];exact z,λx p=>?_,λi x j c hi n=>?_⟩
   ·obtain⟨y,e,rfl⟩:=f7.1 p
    rw [Ci];exact u y e
   ·rw [ge,d7] at hi
    obtain⟨y,e,rfl⟩:=hi;rw [Eb,d7] at n;obtain⟨G,f,rfl⟩:=n;obtain⟨v,s,q⟩:=t i y j G e f;exact⟨v,s,q.push b⟩
 | mp es=>
  obtain⟨m,ents,clock,g,d⟩:=h;exact⟨λh=>m ((b.nl id a).1 h),ents,clock,by rw [b.w,b.U id a];exact g,d⟩
 | sld T l=>exact⟨λF=>h.1 ((b.nl id a).1 F),by rw [b.w];exact h.2⟩
theorem Ch{V V':View}{r:Nat->Nat}(c:Sy V V' r){id:Nat}(a:id < V.nx){o:O}{b:Nat}:EF V' (r id) (o.Be r) b↔EF V id o b:=by
 cases o<;>simp [EF,O.Be,c.U id a]
def Gy(V V1:View)(l:List Nat):View:=
 {I:=V1.I,w:=V1.w,nx:=V.nx+(V1.nx - l.length),
  U:=λi=>if i < V.nx then V.U i else V1.U (i - V.nx+l.length),
  cap:=λi=>if i < V.nx then V.cap i else V1.cap (i - V.nx+l.length),
  nl:=λi=>if i < V.nx then V.nl i else V1.nl (i - V.nx+l.length) }
section
variable {P:Program}{TB:BA}{Z:Ctx}{d:Option Tmp}{ty:TypeId}{pos:String}{af:Array Edge}{g:Option (Nat×Bool)}{f:Env}{σ:Ab}{nx:Nat}
variable {K:E->Ab->Nat->Prop}
theorem IU{V V1:View}{l:List Nat}(f:∀i∈l,i < V.nx)(e:Ext (V.Be (nm l V.nx) l.length) V1):Sy V1 (Gy V V1 l) (Ky l V.nx):=by
 have d:l.length<=V1.nx:=e.nx
 have key:∀id,(∃h:id < l.length,Ky l V.nx id=l[id]/\l[id] < V.nx)\/l.length<=id/\Ky l V.nx id=V.nx+(id - l.length):=λid=>by
  by_cases h:id < l.length
  ·exact .inl ⟨h,da h,f _ (jC h)⟩
  ·exact .inr ⟨by omega,c8 (by omega)⟩
 refine⟨rfl,rfl,λid h=>?_,λid h=>?_,λid h=>?_,λid h=>?_⟩
 ·show _ < V.nx+(V1.nx - l.length)
  rcases key id with ⟨b,a,c⟩|⟨b,a⟩
  ·rw [a];omega
  ·rw [a];omega
 ·show (if _ then _ else _)=_
  rcases key id with ⟨b,a,c⟩|⟨b,a⟩
  ·rw [a,if_pos c,e.U id b];show _=V.U (nm l V.nx id);rw [Hk b]
  ·rw [a,if_neg (by omega)];congr 1;omega
 ·show (if _ then _ else _)=_
  rcases key id with ⟨b,a,c⟩|⟨b,a⟩
  ·rw [a,if_pos c,e.cap id b];show _=V.cap (nm l V.nx id);rw [Hk b]
  ·rw [a,if_neg (by omega)];congr 1;omega
 ·show (if _ then _ else _)↔_
  rcases key id with ⟨b,a,c⟩|⟨b,a⟩
  ·rw [a,if_pos c,e.nl id b];show _↔V.nl (nm l V.nx id);rw [Hk b]
  ·rw [a,if_neg (by omega)]
   have:V.nx+(id - l.length) - V.nx+l.length=id:=by omega
   rw [this]
theorem Xm{V V1:View}{l:List Nat}{x z:Ab}(h:Inv TB Z V σ)(hl:∀i∈l,i < V.nx)(hS:A2 (nm l V.nx) σ x)
 {S:Sz} (L:Of TB V σ S) (hSJ:∀b,S.J b->Z.J b\/Z.V.w.heap.size<=b\/Z.F b) (H:∀b,S.B b->Z.V.w.heap.size<=b\/Z.F b)
 (q:Inv TB (GB (V.Be (nm l V.nx) l.length) (V.Be (nm l V.nx) l.length) x S) V1 z) :
 Inv TB Z (Gy V V1 l) (z.Be (Ky l V.nx)++Cu l σ)/\Ext V (Gy V V1 l):=by
 have v:=IU hl q.ext;have hlen:l.length<=V1.nx:=q.ext.nx;have hsz:V.w.heap.size<=V1.w.heap.size:=q.ext.size
 have A:∀b,DS (V.Be (nm l V.nx) l.length) x b->∃i o,i∈l/\look σ i=some o/\¬V.nl i/\EF V i o b:=by
  rintro b ⟨j,o,hj,Q,hb⟩;have a:=hS.get j o hj;have g:=Rx (h.st.lt _ _ a);have d:=Hk (nx:=V.nx) g;refine⟨l[j],o.Be _,jC g,by rw [<-d];exact a,?_,?_⟩
  ·have:¬V.nl (nm l V.nx j):=Q
   rwa [d] at this
  ·have c:=CD.1 hb
   rwa [d] at c
 have G:∀b,DS (V.Be (nm l V.nx) l.length) x b->b < V.w.heap.size/\¬V.I b/\(Z.V.w.heap.size<=b\/Z.F b):=by
  intro b hb;obtain⟨i,o,_,g,d,c⟩:=A b hb;exact⟨(h.st.obj i o g).blt d c,h.st.free i o g d b c,h.live i o g d b c⟩
 have t:∀i o,i∉l->look σ i=some o->¬V.nl i->∀b,EF V i o b->¬DS (V.Be (nm l V.nx) l.length) x b:=by
  intro i o hi s Q b hb T;obtain⟨j,o',g,d,c,h6⟩:=A _ T;exact h.st.inj j i o' o d s (λe=>hi (e ▸ g)) c Q b h6 hb
 have N:∀b,b < V.w.heap.size->¬DS (V.Be (nm l V.nx) l.length) x b->¬S.B b->V1.w.heap[b]? = V.w.heap[b]?:=λb hb T hB=>q.old b hb λh=>h.elim T hB
 have e:Ext V (Gy V V1 l):=by
  refine⟨λb hb=>q.ext.i b hb,λb hb=>q.ext.heap b hb,hsz,λi hi=>?_,λi hi=>?_,λi hi=>?_,Nat.le_add_right _ _⟩
  ·show (if _ then _ else _)=_;rw [if_pos hi]
  ·show (if _ then _ else _)=_;rw [if_pos hi]
  ·show (if _ then _ else _)↔_;rw [if_pos hi]
 have f:∀i o,look (z.Be (Ky l V.nx)++Cu l σ) i=some o->(∃j n,j < V1.nx/\Ky l V.nx j=i/\look z j=some n/\o=n.Be (Ky l V.nx))\/(i∉l/\i < V.nx/\look σ i=some o):=by
  intro i o s
  rcases HT s with a|a
  ·obtain⟨j,n,g,d,c⟩:=Nr a
   exact .inl ⟨j,n,q.st.lt j n d,g,d,c⟩
  ·obtain⟨g,d⟩:=Bk l σ i o a
   exact .inr ⟨g,h.st.lt i o d,d⟩
 have m:∀i,i < V.nx->((Gy V V1 l).nl i↔V.nl i):=λi hi=>e.nl i hi
 have P:∀j n,look z j=some n->¬V1.nl j->∀i o,i∉l->look σ i=some o->¬V.nl i->∀b,EF V1 j n b->¬EF V i o b:=by
  intro j n hj hnj i o hi s R b hb p
  rcases q.live j n hj hnj b hb with a|a
  ·have:=(h.st.obj i o s).blt R p
   have a:V.w.heap.size<=b:=a;omega
  ·rcases a with a|a
   ·exact t i o hi s R b p a
   ·exact L.ap b ⟨i,o,s,R,p⟩ a
 refine⟨⟨q.os.trans h.os,q.tape.trans h.tape,q.output.trans h.output,?_,q.iLt,?_,h.ext.trans e,⟨?_,?_,?_,?_⟩,?_,q.tabs,?_⟩,e⟩
 ·intro b hb T
  have:¬DS (V.Be (nm l V.nx) l.length) x b:=λp=>by
   rcases(G b p).2.2 with a|a
   ·omega
   ·exact T a
  exact(N b (ja hb h.ext.size) this λhx=>(H b hx).elim (λh=>by omega) T).trans (h.old b hb T)
 ·intro b hb
  rcases q.iNew b hb with a|a|a
  ·exact h.iNew b a
  ·exact .inr (.inl (i9 h.ext.size a))
  ·exact .inr (a.elim (λa=>(G b a).2.2) (H b))
 ·intro i o s
  rcases f i o s with ⟨j,n,a,rfl,d,rfl⟩|⟨a,g,d⟩
  ·exact(q.st.obj j n d).push v a
  ·exact(h.st.obj i o d).AX e g λu b hb=>N _ ((h.st.obj i o d).blt u hb) (t i o a d u b hb) (L.ap b ⟨i,o,d,u,hb⟩)
 ·intro i o s
  rcases f i o s with ⟨j,n,a,rfl,d,rfl⟩|⟨a,g,d⟩
  ·exact v.lt j a
  ·exact ja g e.nx
 ·intro i o s u b hb hI
  rcases f i o s with ⟨j,n,a,rfl,d,rfl⟩|⟨a,g,d⟩
  ·exact q.st.free j n d (λh=>u ((v.nl j a).2 h)) b ((Ch v a).1 hb) hI
  ·have k:¬V.nl i:=λh=>u ((m i g).2 h)
   have hb:=(AK e g).1 hb
   rcases q.iNew _ hI with c|c|c
   ·exact h.st.free i o d k b hb c
   ·have:=(h.st.obj i o d).blt k hb
    have c:V.w.heap.size<=b:=c;omega
   ·rcases c with c|c
    ·exact t i o a d k b hb c
    ·exact L.ap b ⟨i,o,d,k,hb⟩ c
 ·intro i i' o o' s ho' Y u k b hb p
  rcases f i o s with ⟨j,n,a,rfl,d,rfl⟩|⟨a,g,d⟩<;>rcases f i' o' ho' with ⟨j',X,y,rfl,K,rfl⟩|⟨y,M,K⟩
  ·exact q.st.inj j j' n X d K (λe=>Y (by rw [e])) (λh=>u ((v.nl j a).2 h)) (λh=>k ((v.nl j' y).2 h)) b ((Ch v a).1 hb) ((Ch v y).1 p)
  ·exact P j n d (λh=>u ((v.nl j a).2 h)) i' o' y K (λh=>k ((m i' M).2 h)) b ((Ch v a).1 hb) ((AK e M).1 p)
  ·exact P j' X K (λh=>k ((v.nl j' y).2 h)) i o a d (λh=>u ((m i g).2 h)) b ((Ch v y).1 p) ((AK e g).1 hb)
  ·exact h.st.inj i i' o o' d K Y (λh=>u ((m i g).2 h)) (λh=>k ((m i' M).2 h)) b ((AK e g).1 hb) ((AK e M).1 p)
 ·intro i o s u b hb
  rcases f i o s with ⟨j,n,a,rfl,d,rfl⟩|⟨a,g,d⟩
  ·rcases q.live j n d (λh=>u ((v.nl j a).2 h)) b ((Ch v a).1 hb) with c|c
   ·exact .inl (i9 h.ext.size c)
   ·exact c.elim (λc=>(G _ c).2.2) (H b)
  ·exact h.live i o d (λh=>u ((m i g).2 h)) b ((AK e g).1 hb)
 ·obtain⟨S1,k1,k2,k3⟩:=q.hid
  refine⟨S1,⟨k1.r,k1.ji,k1.bi,λb ⟨i,o,s,u,hb⟩ hB=>?_⟩,λb hb=>?_,λb hb=>?_⟩
  ·rcases f i o s with ⟨j,n,a,rfl,d,rfl⟩|⟨a,g,d⟩
   ·exact k1.ap b ⟨j,n,d,λh=>u ((v.nl j a).2 h),(Ch v a).1 hb⟩ hB
   ·have k:¬V.nl i:=λh=>u ((m i g).2 h)
    have hb:=(AK e g).1 hb
    rcases k3 b hB with c|c|c
    ·have:=(h.st.obj i o d).blt k hb
     have c:V.w.heap.size<=b:=c;omega
    ·exact t i o a d k b hb c
    ·exact L.ap b ⟨i,o,d,k,hb⟩ c
  ·rcases k2 b hb with c|c|c|c
   ·exact hSJ b c
   ·exact .inr (.inl (i9 h.ext.size c))
   ·exact .inr (G _ c).2.2
   ·exact .inr (H b c)
  ·rcases k3 b hb with c|c|c
   ·exact .inl (i9 h.ext.size c)
   ·exact(G _ c).2.2
   ·exact H b c
def FO(r:Nat->Nat):List E->List E
 | []=>[]
 | e::l=>e.Be r::FO r l
theorem KX(r:Nat->Nat):∀(l:List E) (j:Nat),(FO r l)[j]? = (l[j]?).map (E.Be r)
 | [],j=>by simp [FO]
 | c::l,0=>by simp [FO]
 | c::l,j+1=>by simpa [FO] using KX r l j
theorem Hq(r:Nat->Nat):∀(l:List E),(FO r l).length=l.length
 | []=>rfl
 | c::l=>by simp [FO,Hq r l]
theorem Af{x:Operand}{args:Array Operand}{tys:Array TypeId}{gg:FuncId}{cap:List C}{es M:List E}{t:Ab}{n0:Nat}{post:E->Ab->Nat->Prop}(l:List Nat)(hx:ev f x=some (.o (.fn gg cap)))(R:Jl f args.toList=some es)
 (hs:Spec P TB gg t n0 M post) (hl:l.length=n0/\l.Nodup/\∀i∈l,i < nx) (ha:es++cap.map .o=FO (nm l nx) M) (L:A2 (nm l nx) σ t)
 (hK:∀x0 s A,post x0 s A->l.length<=A->K (x0.Be (Ky l nx)) (s.Be (Ky l nx)++Cu l σ) (nx+(A - l.length))) :
 Cq P TB Z ⟨d,.call ⟨.value x,args,tys⟩,ty,pos,af,g⟩ f σ nx K:=by
 obtain⟨hl0,hn,m⟩:=hl;subst hl0;intro V a Y z X;subst X;have Y:=Y.Jz;unfold Oper.wp;generalize a.eval=U at Y |-;obtain⟨vs,u,w⟩:=MZ (Y.get (x:=x) (by simp [Op.operands,Call.operands]) hx);rw [Jv hs.1 u];have T:=CE R
 have h:Oe V (es++cap.map .o) (args.map U++vs):=by
  refine⟨by simp [w.1,T],λj e v G u=>?_⟩
  have B:(args.map U).size=es.length:=by simp [T]
  by_cases m:j < es.length
  ·rw [d9 m] at G
   rw [jr (by rw [B];exact m)] at u;exact HK (λy hy e he=>Y.get (by simp [Op.operands,Call.operands];right;simpa using hy) he) R j e v G (by rw [<-lu];simpa using u)
  ·rw [em (by omega)] at G
   rw [kg (by rw [B];omega),B] at u;simp only [ge,d7] at G;obtain⟨c,hc,rfl⟩:=G;exact w.2 _ c v hc u
 have hr:∀id,nm l V.nx id < V.nx->id < l.length:=λid=>Rx
 have J:Oe (V.Be (nm l V.nx) l.length) M (args.map U++vs):=by
  rw [ha] at h;refine⟨by rw [h.1,Hq],λj e v G u=>?_⟩;exact(h.2 j (e.Be (nm l V.nx)) v (by rw [KX,G];rfl) u).Be hr
 have n:∀id o,look t id=some o->id < l.length:=λid o q=>hr id (z.st.lt _ _ (L.get id o q));obtain⟨S,p,hSJ,hSB⟩:=z.hid
 have I:Good TB (V.Be (nm l V.nx) l.length) t l.length S:=by
  refine⟨z.iLt,⟨λid o q=>CC.Be hr (z.st.obj _ _ (L.get id o q)),n,λid o q k b hb=>z.st.free _ _ (L.get id o q) k b (CD.1 hb),?_⟩,z.tabs,rfl,⟨p.r,p.ji,p.bi,λb ⟨id,o,q,k,hb⟩=>p.ap b ⟨_,_,L.get id o q,k,CD.1 hb⟩⟩⟩;intro id id' o o' q N hne k Q b hb hb';refine z.st.inj _ _ _ _ (L.get id o q) (L.get id' o' N) ?_ k Q b (CD.1 hb) (CD.1 hb');have X:=n id o q;have h4:=n id' o' N;rw [Hk X,Hk h4];intro he;have hp:=jn.1 hn
  rcases lK hne with h5|h5
  ·exact hp _ _ X h4 h5 he
  ·exact hp _ _ h4 X h5 he.symm
 refine(hs.2 _ _ S I J).mono ?_;rintro e w' ⟨V1,v,x1,s,rfl,rfl,H,hx1,F⟩;obtain⟨hi',he'⟩:=Xm z m L p hSJ hSB H;exact⟨Gy V V1 l,v,x1.Be (Ky l V.nx),_,rfl,rfl,he',hi',hx1.push (IU m H.ext),hK x1 s V1.nx F H.ext.nx⟩
end
end Go.Am
