/-
  Literals, strings, parts of slices, closures.
-/
import Derived.Test.YtdipaikojjjebaaGreatDoorPart8
import Derived.Laws.IdiomStrings
import Derived.ChangeKeysEq
set_option linter.all false
namespace Go.Am
open Go
abbrev eT(l:List UInt8):E:=.o (.d (.v (.string ⟨l.toArray⟩)))
def Qz:List E->Option (List (List D))
 | []=>some []
 | e::l=>(RI (eC e)).bind λr=>(Qz l).map (r :: ·)
theorem QA:∀ {l:List E} {rows:List (List D)},Qz l=some rows->rows.length=l.length/\∀(i:Nat) (r:List D),rows[i]?=some r->∃e,l[i]?=some e/\RI (eC e)=some r
 | [],rows,h=>by injection h with h;subst h;exact⟨rfl,λi r hi=>by simp at hi⟩
 | e::l,rows,h=>by
  simp only[Qz,qY,d7]at h;obtain⟨g,f,rows',d,rfl⟩:=h;have a:=QA d;refine⟨by simp[a.1],λi r hi=>?_⟩
  cases i with
  | zero=>simp at hi;subst hi;exact⟨e,rfl,f⟩
  | succ i=>obtain⟨e',c,b⟩:=a.2 i r (by simpa using hi);exact⟨e',by simpa using c,b⟩
def nC(P:Program)(t:TypeId):Option (List (Nat×Nat)):=match P.underlying t with
 | some (.struct fs)=>fs.toList.mapM λf=>(P.info? f.type).map λi=>(f.offset,i.size)
 | some (.array n e)=>(P.info? e).map λi=>(List.range n).map λj=>(j*i.size,i.size)
 | _=>none
class EJ (P:Program) (t:TypeId) (fl:outParam (List (Nat×Nat))):Prop where
 out:nC P t=some fl
def Ge(fl:List (Nat×Nat)):List (Nat×Operand)->List E->Option (List (Nat×List C))
 | [],[]=>some []
 | (i,_)::ps,e::es=>match fl[i]? with
  | some (off,size)=>bif Nat.beq (eC e).length size && UI e then (Ge fl ps es).map ((off,eC e) :: ·) else none
  | none=>none
 | _,_=>none
section
variable {P:Program}{TB:BJ}{U:Ctx}{d:Option Tmp}{ty:TypeId}{pos:String}{af:Array Edge}{g:Option (Nat×Bool)}{f:Env}{σ:Ac}{nx:Nat}
variable {K:E->Ac->Nat->Prop}
theorem IU{t e:TypeId}{k b n:Nat}{z:List Value}{parts:Array (Nat×Operand)}(y:kK P t=some (e,k,b))(q:dn P e=some z)(j:z.length=k)(m:z.all QN=true){es:List E}{V:View}{ρ:Operand->Value}(h:NL V ⟨d,.buildSlice t n parts,ty,pos,af,g⟩ f ρ)
 (hp:Dt 0 (parts.toList.map (·.2))=parts.toList) (u:parts.toList.length=n) (o:KS f (parts.toList.map (·.2))=some es) (s:es.all UI=true) (hk:∀x∈es,(eC x).length=k) (l:n*k<=16777216) :
 ∃cur,(execOp ρ ⟨d,.buildSlice t n parts,ty,pos,af,g⟩).run P V.w=.ok (.value (.slice (some ⟨V.w.heap.size,0,none⟩) n n)) (V.w.alloc (.cells cur e))/\cur.size=n*k/\Da V (es.map eC).flatten cur:=by
 have a:(parts.toList.map (·.2)).length=n:=by simpa using u
 obtain⟨cur,c,p,B⟩:=Ql (P:=P) (f:=f) (V:=V) (xs:=parts.toList.map (·.2)) (ρ:=ρ) y q j m (λx r e A=>h.get (by simp only[Op.operands];simpa using r) A) o s hk (by rw[a];exact l);rw[a]at c p;refine⟨cur,?_,p,B⟩;rw[hp]at c
 show ((do let v <-Instr.buildSlice t n (parts.map λ(i,x)=>(i,ρ x));pure (Go.Next.value v):Sem Go.Next)).run P V.w=_
 rw[Array.toArray_toList]at c;simp only[pu,c,lm];rfl
theorem Qb{t e:TypeId}{k b n:Nat}{z:List Value}{parts:Array (Nat×Operand)}{es:List E}{rows:List (List D)}[Z:CE P t e k b][T:BN P e z](hp:Dt 0 (parts.toList.map (·.2))=parts.toList)(N:parts.toList.length=n)
 (A:KS f (parts.toList.map (·.2))=some es) (Y:es.all UI=true) (G:Qz es=some rows) (hk:(rows.all λr=>Nat.beq r.length k)=true) (F:z.length=k) (H:z.all QN=true) (K:Nat.ble 1 k=true) (p:Nat.ble (n*k) 16777216=true) :
 A5 P TB U ⟨d,.buildSlice t n parts,ty,pos,af,g⟩ f σ nx (.o (.d (.l rows))):=
 Km λV ρ h1 h2=>by
  have c:=QA G
  have s:∀x∈es,(eC x).length=k:=λx X=>by
   obtain⟨i,hi,rfl⟩:=q9 X
   have y:i<rows.length:=by omega
   obtain⟨e',m,S⟩:=c.2 i rows[i] (d6 y);rw[d6 hi]at m
   injection m with m
   rw[m,<-Og S];exact i9 (ge.1 hk _ (rF y))
  obtain⟨cur,m,S,h5⟩:=IU Z.out T.out F H h1 hp N A Y s (ce p);obtain⟨hi,Q⟩:=h2.Xe (w:=V.w.alloc (.cells cur e)) rfl rfl rfl (by simp) (λb hb=>A6 _ _ _ hb)
  have q:rows.length=n:=by
   rw[c.1,C5 A];simpa using N
  have a:∀(i:Nat) (r:List D) (j:Nat) (x:D),rows[i]?=some r->r[j]?=some x->∃v,cur[i*k+j]?=some v/\C9 V.I V.w x v:=λi r j x hi u=>by
   obtain⟨e',B,M⟩:=c.2 i r hi;have h8:=MC M j x u
   obtain⟨v,R,h⟩:=Ho h5 (λr G=>by
    obtain⟨e2,L,rfl⟩:=d9.1 G
    exact s e2 L) i (eC e') j (.d x) (by simp[B]) h8
   cases h with
   | d h=>exact⟨v,R,h⟩
  have J:n<=maxLen:=by
   have R:=ce p;have:n<=n*k:=sF _ (ce K);unfold maxLen;omega
  refine⟨_,_,m,Q,hi,rfl,?_⟩;have hb:(LW V (V.w.alloc (.cells cur e))).I V.w.heap.size:=.inr rfl;have hh:(LW V (V.w.alloc (.cells cur e))).w.heap[V.w.heap.size]?=some (.cells cur e):=BW _ _;have := @C9.l (LW V (V.w.alloc (.cells cur e))).I (LW V (V.w.alloc (.cells cur e))).w rows V.w.heap.size 0 k n (λi j=>cur.getD (i*k+j) undef) hb (by omega) J
   (λi r hi=>i9 (ge.1 hk _ (co hi)))
   (λi r j x hi u=>by
    obtain⟨v,B,_⟩:=a i r j x hi u
    simp[World.cell?,hh,B])
   (λi r j x hi u=>by
    obtain⟨v,B,M⟩:=a i r j x hi u
    have:cur.getD (i*k+j) undef=v:=by simp[B]
    rw[this];exact M.ext Q)
  rw[q]at this;exact .d this
theorem A8{t e:TypeId}{k b n:Nat}{z:List Value}{parts:Array (Nat×Operand)}{es:List E}[G:CE P t e k b][A:BN P e z](hp:Dt 0 (parts.toList.map (·.2))=parts.toList)(w:parts.toList.length=n)
 (l:KS f (parts.toList.map (·.2))=some es) (F:es.all UI=true) (j:∀x∈es,(eC x).length=k) (m:z.length=k) (p:z.all QN=true) (s:Nat.ble 1 k=true) (a:Nat.ble (n*k) 16777216=true)
 (I:K (.o (.arr nx k 0 n)) ((nx,.cells e k (es.map eC))::σ) (nx+1)):Ck P TB U ⟨d,.buildSlice t n parts,ty,pos,af,g⟩ f σ nx K:=
 DC λV ρ N M v=>by
  subst v;obtain⟨cur,v,L,J⟩:=IU G.out A.out m p N hp w l F j (ce a)
  have i:(es.map eC).length=n:=by
   rw[gt,C5 l];simpa using w
  have q:n<=maxLen:=by
   have R:=ce a;have:n<=n*k:=sF _ (ce s);unfold maxLen;omega
  have h:∀r∈es.map eC,r.length=k:=λr B=>by
   obtain⟨Q,u,rfl⟩:=d9.1 B;exact j Q u
  obtain⟨hi,H,y⟩:=VU M (e:=e) (k:=k) (c:=n) (rows:=es.map eC) (cur:=cur) rfl L (by omega) q h (Ho J h);rw[i]at y;exact⟨_,_,_,_,v,H,hi,(show Bu _ (.o _) _ from y),I⟩
theorem Dk{V:View}{ρ:Operand->Value}{fl:List (Nat×Nat)}:∀(ps:List (Nat×Operand)) (es:List E) (qs:List (Nat×List C)),(∀x∈ps.map (·.2),∀e,ev f x=some e->Bu V e (ρ x))->KS f (ps.map (·.2))=some es->Ge fl ps es=some qs->
 SD V (fl[·]?) (ps.map λ(i,x)=>(i,ρ x)) qs
 | [],es,qs,_,a,h=>by
  injection a with a;subst a
  injection h with h;subst h;trivial
 | (i, x)::ps,es,qs,b,a,h=>by
  simp only[rX,KS,qY,d7]at a;obtain⟨e',k,es',j,rfl⟩:=a;simp only[Ge]at h;split at h
  ·rename_i off size c
   cases hb:Nat.beq (eC e').length size && UI e'
   ·rw[hb]at h;cases h
   ·rw[hb]at h
    simp only[cond_true,d7]at h;obtain⟨qs',g,rfl⟩:=h;rw[d4]at hb;have:=i9 hb.1;subst this;exact⟨c,Pr hb.2 (b x (by simp) e' k),Dk ps es' qs' (λy d=>b y (by simp at d |-;exact .inr d)) j g⟩
  ·cases h
theorem AS{t:TypeId}{z:List Value}{fl:List (Nat×Nat)}{parts:Array (Nat×Operand)}{es:List E}{qs:List (Nat×List C)}[Y:BN P t z][hf:EJ P t fl](R:KS f (parts.toList.map (·.2))=some es)(Z:Ge fl parts.toList es=some qs)
 (M:z.all QN=true) (N:(qs.all λx=>Nat.ble (x.1+x.2.length) z.length)=true):A5 P TB U ⟨d,.build t parts,ty,pos,af,g⟩ f σ nx (.a (BM qs (z.map zC))):=
 AQ λV ρ h1 _=>by
  obtain⟨i,zv,hi,A,s⟩:=HF Y.out;have Q:=Dk (V:=V) (ρ:=ρ) parts.toList es qs (λx J e he=>h1.get (by simp only[Op.operands];simpa using J) he) R Z
  have I:Da V (z.map zC) zv.cells:=by
   refine⟨by rw[gt,<-s];simp,λj c v T S=>?_⟩;simp only[f6,d7]at T;obtain⟨u,k,rfl⟩:=T
   have:u=v:=by
    rw[<-s]at k;simp only[rY]at k;rw[k]at S;exact Option.some.inj S
   subst this;exact Lm (ge.1 M u (co k))
  obtain⟨cells,G,h4⟩:=GR _ _ _ _ Q I (λx J=>by rw[gt];exact Jo _ _ N x J);have r:=hf.out
  have b:(parts.map λ(i,x)=>(i,ρ x)).toList=parts.toList.map λ(i,x)=>(i,ρ x):=by simp
  refine⟨.agg cells,?_,cells,rfl,h4⟩
  have hb : (Instr.build t (parts.map λ(i,x)=>(i,ρ x))).run P V.w=.ok (.agg cells) V.w:=by
   unfold nC at r;split at r
   ·rename_i fs k
    have L:∀(l:List Field) (ll:List (Nat×Nat)),(l.mapM λf=>(P.info? f.type).map λi=>(f.offset,i.size))=some ll->∀w,((l.mapM λf=>do pure (f.offset,<-sizeOf f.type)):Sem (List (Nat×Nat))).run P w=.ok ll w:=by
     intro l
     induction l with
     | nil=>intro ll h w;simp at h;subst h;simp[go_sem]
     | cons y l H=>
      intro ll h w;simp only[tC,uL,qY,d7]at h;obtain⟨p,⟨ii,o,rfl⟩,ll',h5,X⟩:=h;simp at X;subst X
      have K:(sizeOf y.type).run P w=.ok ii.size w:=by simp[sizeOf,typeInfo,o,go_sem]
      have ihh:=H ll' h5 w;simp only[bind_pure_comp]at ihh;simp only[tC,pu,K,lm,bind_pure_comp,tS,ihh]
    have B:=L fs.toList fl r V.w
    have m:(zeroValue t).run P V.w=.ok zv V.w:=by simp[zeroValue,typeInfo,hi,A,go_sem]
    have ha:((fs.mapM λf=>do pure (f.offset,<-sizeOf f.type)):Sem (Array (Nat×Nat))).run P V.w=.ok fl.toArray V.w:=by
     rw[ue,tS,B];rfl
    rw[<-b]at G;simp only[Instr.build,pu,m,lm,run_underlying k,ha];simp only[sf];rw[G];rfl
   ·rename_i n e k
    simp only[d7]at r;obtain⟨ii,o,rfl⟩:=r
    have m:(zeroValue t).run P V.w=.ok zv V.w:=by simp[zeroValue,typeInfo,hi,A,go_sem]
    have K:(sizeOf e).run P V.w=.ok ii.size V.w:=by simp[sizeOf,typeInfo,o,go_sem]
    have q:∀(ps:List (Nat×Value)) (c c':Array Value),Instr.fill (λi=>((List.range n).map λj=>(j*ii.size,ii.size))[i]?) c ps=some c'->Instr.fill (λi=>some (i*ii.size,ii.size)) c ps=some c':=by
     intro ps
     induction ps with
     | nil=>intro c c' h;simpa[Instr.fill]using h
     | cons p ps H=>
      intro c c' h;obtain⟨i',v'⟩:=p;unfold Instr.fill at h |-;by_cases F:i'<n
      ·simp only [f6,tL F,rM]at h
       simp only at h |-;split at h
       ·cases h
       ·rename_i hno
        rw[if_neg hno];exact H _ _ (by simpa only[f6]using h)
      ·simp[F]at h
    rw[<-b]at G;simp only[Instr.build,pu,m,lm,run_underlying k,K];rw[q _ _ _ G];rfl
   ·cases r
  show ((do let v <-Instr.build t (parts.map λ(i,x)=>(i,ρ x));pure (Go.Next.value v):Sem Go.Next)).run P V.w=_
  simp only[pu,hb,lm];rfl
theorem G0(k e:Nat)(i:K (.o (.arr nx k 0 0)) ((nx,.cells e k [])::σ) (nx+1)):Ck P TB U ⟨d,.assign (.const (.slice none 0 0)),ty,pos,af,g⟩ f σ nx K:=by
 intro V a m l j;subst j;obtain⟨hi,h⟩:=l.alloc (c:=0) (nl:=True) (w:=V.w) (ob:=.cells e k []) rfl rfl rfl rfl (lc _) (λ_ _=>rfl) (.inl ⟨by simp[Az],rfl⟩);unfold Oper.wp
 have b:(execOp a.eval ⟨d,.assign (.const (.slice none 0 0)),ty,pos,af,g⟩).run P V.w=.ok (.value (.slice none 0 0)) V.w:=by simp[execOp,go_sem]
 rw[b];exact⟨Az V V.w.heap.size 0 True V.w,.slice none 0 0,.o (.arr V.nx k 0 0),_,rfl,rfl,h,hi,AP.nil (by simp[Az]) (by simp[Az]),i⟩
theorem mh{t:TypeId}{x:Operand}{s:List UInt8}[b:Dx P t](a:ev f x=some (eT s)):A5 P TB U ⟨d,.call ⟨.builtin .len,#[x],#[t]⟩,ty,pos,af,g⟩ f σ nx (eI .i64 s.length):=by
 have:=mg (t:=t) (P:=P) (TB:=TB) (U:=U) (d:=d) (ty:=ty) (pos:=pos) (af:=af) (g:=g) (σ:=σ) (nx:=nx) a;exact this
theorem fX{t:TypeId}{x y:Operand}{s:List UInt8}{n:Int}{c:UInt8}{ik:IntKind}[j:Dx P t](e:ev f x=some (eT s))(b:ev f y=some (eI ik n))
 (i:0<=n) (h:s[n.toNat]?=some c):A5 P TB U ⟨d,.index t x y,ty,pos,af,g⟩ f σ nx (eI .u8 (c.toNat:Int)):=by
 obtain⟨a,rfl⟩:=am.1 h;exact fW (P:=P) (TB:=TB) (U:=U) (d:=d) (ty:=ty) (pos:=pos) (af:=af) (g:=g) (σ:=σ) (nx:=nx) e b i a
theorem kI{t yt:TypeId}{x y:Operand}{a b:List UInt8}(e:ev f x=some (eT a))(c:ev f y=some (eT b))(j:a.length+b.length<=9223372036854775807) :
 A5 P TB U ⟨d,.binOp .add t x y yt,ty,pos,af,g⟩ f σ nx (eT (a++b)):=BP e c rfl λw=>by
 have i:¬((((⟨a.toArray⟩:ByteArray).size+(⟨b.toArray⟩:ByteArray).size:Nat):Int) > IntKind.i64.max):=by
  have:IntKind.i64.max=9223372036854775807:=by decide
  have l:(⟨a.toArray⟩:ByteArray).size=a.length:=by simp[ByteArray.size]
  have k:(⟨b.toArray⟩:ByteArray).size=b.length:=by simp[ByteArray.size]
  omega
 have h:(⟨a.toArray⟩:ByteArray)++⟨b.toArray⟩=⟨(a++b).toArray⟩:=by
  apply ByteArray.ext;simp
 have:(do eqGuard .add t x y (.string ⟨a.toArray⟩) (.string ⟨b.toArray⟩);binOp .add t (.string ⟨a.toArray⟩) (.string ⟨b.toArray⟩):Sem Value)=Op.stringOp .add ⟨a.toArray⟩ ⟨b.toArray⟩:=by
  simp[eqGuard,binOp]
 rw[this];unfold Op.stringOp;simp only;rw[if_neg i,h];rfl
theorem n7{t yt:TypeId}{x y:Operand}{a b:List UInt8}(e:ev f x=some (eT a))(c:ev f y=some (eT b)) :
 A5 P TB U ⟨d,.binOp .eql t x y yt,ty,pos,af,g⟩ f σ nx (eB (decide (a=b))):=BP e c rfl λw=>by
 simp[eqGuard,binOp,Op.stringOp,go_sem];rw[sH];simp
theorem ot{t yt:TypeId}{x y:Operand}{a b:List UInt8}(e:ev f x=some (eT a))(c:ev f y=some (eT b)) :
 A5 P TB U ⟨d,.binOp .neq t x y yt,ty,pos,af,g⟩ f σ nx (eB (decide (a≠b))):=BP e c rfl λw=>by
 simp[eqGuard,binOp,Op.stringOp,go_sem];rw[sH];simp
end
def C.pc:C->Bool
 | .d (.v _)=>true
 | _=>false
def E.sc:E->Bool
 | .o c=>c.pc
 | .a cs=>cs.all C.pc
 | .t xs=>xs.all λx=>x.2.all C.pc
 | .e=>true
theorem Mq{V V':View}{c:C}{v:Value}(h:AP V c v)(a:c.pc=true):AP V' c v:=by
 cases h with
 | d h=>cases h with
  | v b=>exact .d (.v b)
  | _=>cases a
 | _=>cases a
theorem mB{V V':View}{e:E}{v:Value}(h:Bu V e v)(l:e.sc=true):Bu V' e v:=by
 cases e with
 | e=>exact h
 | o c=>exact Mq h l
 | a cs=>
  obtain⟨vs,m,k⟩:=h;exact⟨vs,m,k.1,λj c v d f=>Mq (k.2 j c v d f) (ge.1 l c (co d))⟩
 | t xs=>
  obtain⟨vs,m,k,q⟩:=h;refine⟨vs,m,k,λj x v d f=>?_⟩;have p:=q j x v d f;have n:=ge.1 l x (co d);obtain⟨b,cs⟩:=x;cases b
  ·obtain⟨c,g,i⟩:=p
   have g:cs=[c]:=g;subst g;exact⟨c,rfl,Mq i (ge.1 n c (by simp))⟩
  ·obtain⟨ws,g,i⟩:=p
   exact⟨ws,g,i.1,λj c v d f=>Mq (i.2 j c v d f) (ge.1 n c (co d))⟩
inductive CV (σ:Ac):C->C->Prop
 | pure {c:C}:c.Gz=true->CV σ c c
 | arr {id k off len:Nat} {T:TypeId} {rows:List (List C)} {ds:List (List D)}:look σ id=some (.cells T k rows)->off+len<=rows.length->(rows.drop off).take len=ds.map (λr=>r.map .d)->CV σ (.arr id k off len) (.d (.l ds))
 | ptr {id k i j:Nat} {T:TypeId} {rows:List (List C)} {r:List C} {ds:List D}:look σ id=some (.cells T k rows)->rows[i]?=some r->r.drop j=ds.map .d->CV σ (.ptr id k i j) (.ip ds)
inductive EV (σ:Ac):E->E->Prop
 | o {c c':C}:CV σ c c'->EV σ (.o c) (.o c')
 | nil:EV σ (.a []) (.a [])
 | cons {c c':C} {cs cs':List C}:CV σ c c'->EV σ (.a cs) (.a cs')->EV σ (.a (c::cs)) (.a (c'::cs'))
inductive mP (σ:Ac):List E->List E->Prop
 | nil:mP σ [] []
 | cons {e e':E} {es es':List E}:EV σ e e'->mP σ es es'->mP σ (e::es) (e'::es')
def HY(V:View)(σ:Ac):View:={ V with I:=λb=>V.I b\/∃id o,look σ id=some o/\¬V.nl id/\FR V id o b,nx:=0 }
section
variable {P:Program}{TB:BJ}{U:Ctx}{d:Option Tmp}{ty:TypeId}{pos:String}{af:Array Edge}{g:Option (Nat×Bool)}{f:Env}{σ:Ac}{nx:Nat}
variable {K:E->Ac->Nat->Prop}
theorem AP.nO{V:View}{c:C}{v:Value}(h:AP V c v)(hp:c.Gz=true):AP (HY V σ) c v:=by
 induction h with
 | d h=>exact .d (h.mono (λ_ h=>.inl h) λ_ _=>rfl)
 | nil=>simp[C.Gz]at hp
 | arr=>simp[C.Gz]at hp
 | ptr=>simp[C.Gz]at hp
 | fn f _ b=>
  simp only[C.Gz]at hp;exact .fn f λj c v a e=>b j c v a e (Hc _ hp j c a)
 | mp=>simp[C.Gz]at hp
 | mv f _ b=>
  simp only[C.Gz]at hp;exact .mv f λj c v a e=>b j c v a e (Hc _ hp j c a)
theorem C9.nN{V:View}{x:D}{v:Value}(h:C9 V.I V.w x v):C9 (HY V σ).I (HY V σ).w x v:=h.mono (λ_ h=>.inl h) λ_ _=>rfl
theorem CV.rel{V:View}(hi:Inv TB U V σ){c c':C}{v:Value}(h:CV σ c c')(F:AP V c v):AP (HY V σ) c' v:=by
 cases h with
 | pure hp=>exact F.nO hp
 | @arr id k off len T rows ds z L u=>
  cases F with
  | nil K J=>
   have:ds=[]:=by
    have:=congrArg List.length u;simp at this;exact pp.1 this.symm
   subst this;exact .d .nil
  | arr K p J=>
   rcases hi.st.obj id _ z with ⟨t,_⟩|⟨_,cur,t,P,N,M,H,G⟩
   ·exact absurd t p
   ·have y:ds.length=len:=by
     have:=congrArg List.length u;simp at this;omega
    have m:∀(i:Nat) (r:List D),ds[i]?=some r->rows[off+i]?=some (r.map .d):=λi r hi=>by
     have n:((rows.drop off).take len)[i]?=some (r.map .d):=by rw[u];simp[hi]
     rw[rh]at n;split at n
     ·rwa[rm]at n
     ·cases n
    have a:∀(i:Nat) (r:List D) (j:Nat) (x:D),ds[i]?=some r->r[j]?=some x->∃v,cur[(off+i)*k+j]?=some v/\C9 V.I V.w x v:=λi r j x hi A=>by
     obtain⟨v,g,f⟩:=G (off+i) (r.map .d) j (.d x) (m i r hi) (by simp[A])
     cases f with
     | d f=>exact⟨v,g,f⟩
    rw[<-y]at J |-;refine .d (.l (b:=V.ρ id) (o:=off*k) (k:=k) (vs:=λi j=>cur.getD ((off+i)*k+j) undef) (.inr ⟨id,_,z,p,rfl⟩) (by omega) (by omega) (λi r hi=>?_) (λi r j x hi A=>?_) (λi r j x hi A=>?_))
    ·have:=H _ (co (m i r hi))
     simpa using this
    ·obtain⟨v,g,_⟩:=a i r j x hi A
     have e:off*k+i*k+j=(off+i)*k+j:=by rw[ry]
     rw[e];have:(HY V σ).w.heap[V.ρ id]?=some (.cells cur T):=t;simp[World.cell?,this,g]
    ·obtain⟨v,g,f⟩:=a i r j x hi A
     have:cur.getD ((off+i)*k+j) undef=v:=by simp[g]
     simp only[this];exact f.nN
 | @ptr id k i j T rows r ds z B u=>
  cases F with
  | ptr K p=>
   rcases hi.st.obj id _ z with ⟨t,_⟩|⟨_,cur,t,P,N,M,H,G⟩
   ·exact absurd t p
   ·have m:∀(q:Nat) (x:D),ds[q]?=some x->r[j+q]?=some (.d x):=λq x s=>by
     have n:(r.drop j)[q]?=some (.d x):=by rw[u];simp[s]
     rwa[rm]at n
    have a:∀(q:Nat) (x:D),ds[q]?=some x->∃v,cur[i*k+j+q]?=some v/\C9 V.I V.w x v:=λq x s=>by
     obtain⟨v,g,f⟩:=G i r (j+q) (.d x) B (m q x s)
     cases f with
     | d f=>exact⟨v,by rw[rz];exact g,f⟩
    refine .ip (V:=HY V σ) (vs:=λq=>cur.getD (i*k+j+q) undef) (.inr ⟨id,_,z,p,rfl⟩) (λq x s=>?_) (λq x s=>?_)
    ·obtain⟨v,g,_⟩:=a q x s
     have:(HY V σ).w.heap[V.ρ id]?=some (.cells cur T):=t;simp[World.cell?,this,g]
    ·obtain⟨v,g,f⟩:=a q x s
     have:cur.getD (i*k+j+q) undef=v:=by simp[g]
     simp only[this];exact f.nN
theorem EV.rel{V:View}(hi:Inv TB U V σ){e e':E}(h:EV σ e e'):∀ {v:Value},Bu V e v->Bu (HY V σ) e' v:=by
 have key:∀ {e e':E},EV σ e e'->(∀c c',e=.o c->e'=.o c'->CV σ c c')/\(∀cs cs',e=.a cs->e'=.a cs'->cs.length=cs'.length/\∀(j:Nat) c c',cs[j]?=some c->cs'[j]?=some c'->CV σ c c')/\((∃c c',e=.o c/\e'=.o c')\/∃cs cs',e=.a cs/\e'=.a cs'):=by
  intro e e' h
  induction h with
  | o k=>exact⟨λc c' d b=>(by injection d with d;injection b with b;subst d b;exact k),λ_ _ h=>(by cases h),.inl ⟨_,_,rfl,rfl⟩⟩
  | nil=>exact⟨λ_ _ h=>(by cases h),λcs cs' d b=>(by injection d with d;injection b with b;subst d b;exact⟨rfl,λj c c' f=>(by simp at f)⟩),.inr ⟨_,_,rfl,rfl⟩⟩
  | cons k _ s=>
   refine⟨λ_ _ h=>(by cases h),λcs cs' d b=>?_,.inr ⟨_,_,rfl,rfl⟩⟩
   injection d with d;injection b with b;subst d b
   have:=s.2.1 _ _ rfl rfl;refine⟨by simp[this.1],λj c c' f g=>?_⟩
   cases j with
   | zero=>simp at f g;subst f g;exact k
   | succ j=>exact this.2 j c c' (by simpa using f) (by simpa using g)
 intro v m;obtain⟨r,q,p⟩:=key h
 rcases p with ⟨c,c',rfl,rfl⟩|⟨cs,cs',rfl,rfl⟩
 ·exact(r c c' rfl rfl).rel hi m
 ·obtain⟨vs,rfl,d,b⟩:=m
  obtain⟨l,n⟩:=q cs cs' rfl rfl;refine⟨vs,rfl,by rw[d,l],λj c' u f t=>?_⟩
  have i:j<cs.length:=by rw[l];exact(am.1 f).1
  exact(n j cs[j] c' (d6 i) f).rel hi (b j _ u (d6 i) t)
theorem Lw{x:Operand}{args:Array Operand}{tys:Array TypeId}{gg:FuncId}{vs:Array Value}(f:kP P gg){ρ:Operand->Value}(e:ρ x=.func (.func gg) #[] vs)(w:World) :
 (execOp ρ ⟨d,.call ⟨.value x,args,tys⟩,ty,pos,af,g⟩).run P w=.ok (.enter gg (args.map ρ++vs)) w:=by
 obtain⟨fn,i,h,b⟩:=f
 have hb:∃c,fn.body=some c:=by cases hb:fn.body with|none=>rw[hb]at b;cases b|some c=>exact⟨c,rfl⟩
 obtain⟨c,hb⟩:=hb;simp only[execOp,resolve,e,Deferred.ofValue,pure_bind,invoke,callFunc]
 have a:¬fn.name = "runtime.NumGoroutine" := by simpa using h
 simp[Sem.run,program,i,a,hb,go_sem]
theorem Jj{V:View}{ρ:Operand->Value}{args:List Operand}{es:List E}(h:∀x∈args,∀e,ev f x=some e->Bu V e (ρ x))(a:KS f args=some es) :
 ∀(j:Nat) e v,es[j]?=some e->(args.map ρ)[j]?=some v->Bu V e v:=by
 intro j e v d c;simp only[f6,d7]at c;obtain⟨x,b,rfl⟩:=c;exact h x (co b) e (Zr a j x e b d)
theorem Px{V:View}{gg:FuncId}{cap:List C}{v:Value}(h:Bu V (.o (.fn gg cap)) v):∃vs,v=.func (.func gg) #[] vs/\Da V cap vs:=by
 have h:AP V (.fn gg cap) v:=h;generalize a:C.fn gg cap=c at h;cases h<;>cases a;rename_i vs d b;exact⟨vs,rfl,d,b⟩
theorem O9{V Vc V1:View}{S:Xb}(h:Inv TB U V σ)(m:QT TB V σ S)(y:∀b,S.J b->U.J b\/U.V.w.heap.size<=b\/U.F b)(j:∀b,S.B b->U.V.w.heap.size<=b\/U.F b)(k:Vc.w=V.w){u:Ac}(q:Inv TB (HQ Vc Vc [] S) V1 u)(I':Nat->Prop)(p:∀b,V.I b->I' b)(n:∀b,I' b->V.I b\/(V.w.heap.size<=b/\b<V1.w.heap.size)\/S.B b)
 (A:∀b,V1.I b->(V.w.heap.size<=b\/S.B b)->I' b) (z:∀b,I' b->V1.I b) :
 Inv TB U { V with I:=I',w:=V1.w } σ/\Ext V { V with I:=I',w:=V1.w } := by
 have d:∀b,b<V.w.heap.size->¬S.B b->V1.w.heap[b]?=V.w.heap[b]?:=λb hb g=>by
  have:=q.old b (by show b<Vc.w.heap.size;rw[k];exact hb) (λh=>h.elim (λ⟨_,_,h,_⟩=>by cases h) g)
  rw[this];show Vc.w.heap[b]?=_;rw[k]
 have l:V.w.heap.size<=V1.w.heap.size:=by have i:Vc.w.heap.size<=V1.w.heap.size:=q.ext.size;rw[k]at i;exact i
 have e:Ext V { V with I:=I',w:=V1.w } := ⟨p,λb hb=>d b (h.iLt b hb) λs=>m.bi b s hb,l,λ_ _=>rfl,λ_ _=>rfl,λ_ _=>Iff.rfl,lc _⟩
 refine⟨⟨?_,?_,?_,λb hb t=>(d b (qV hb h.ext.size) λs=>(j b s).elim (λh=>by omega) t).trans (h.old b hb t),?_,?_,h.ext.trans e,⟨?_,h.st.lt,?_,h.st.inj⟩,h.live,?_,?_⟩,e⟩
 ·have i:V1.w.os=Vc.w.os:=q.os
  rw[k]at i;exact i.trans h.os
 ·have i:V1.w.tape=Vc.w.tape:=q.tape
  rw[k]at i;exact i.trans h.tape
 ·have i:V1.w.output=Vc.w.output:=q.output
  rw[k]at i;exact i.trans h.output
 ·intro b hb
  rcases n b hb with a|a|a
  ·exact qV (h.iLt b a) l
  ·exact a.2
  ·exact qV (m.r.blt a) l
 ·intro b hb
  rcases n b hb with a|a|a
  ·exact h.iNew b a
  ·exact .inr (.inl (pm h.ext.size a.1))
  ·exact .inr (j b a)
 ·intro id o f
  exact(h.st.obj id o f).A0 e (h.st.lt id o f) λg b hb=>d _ ((h.st.obj id o f).blt g hb) (m.ap b ⟨id,o,f,g,hb⟩)
 ·intro id o f g b c hb
  have c:=(AR e (h.st.lt id o f)).1 c
  rcases n _ hb with a|a|a
  ·exact h.st.free id o f g b c a
  ·have:=(h.st.obj id o f).blt g c
   have N:V.w.heap.size<=b:=a.1;omega
  ·exact m.ap b ⟨id,o,f,g,c⟩ a
 ·intro x s
  have:=h.tabs x s;exact⟨p _ this.1,(d _ (h.iLt _ this.1) λM=>m.bi _ M this.1).trans this.2⟩
 ·obtain⟨S1,v,L,K⟩:=q.hid
  have H:∀b,S1.B b->V.w.heap.size<=b\/S.B b:=λb hb=>by
   rcases K b hb with a|a|a
   ·have a:Vc.w.heap.size<=b:=a
    rw[k]at a;exact .inl a
   ·obtain⟨_,_,h,_⟩:=a;cases h
   ·exact .inr a
  have G:∀b,S1.J b->S.J b\/V.w.heap.size<=b\/S.B b:=λb hb=>by
   rcases L b hb with a|a|a|a
   ·exact .inl a
   ·have a:Vc.w.heap.size<=b:=a
    rw[k]at a;exact .inr (.inl a)
   ·obtain⟨_,_,h,_⟩:=a;cases h
   ·exact .inr (.inr a)
  refine⟨S1,⟨v.r,λb hb=>?_,λb hb hi=>v.bi b hb (z b hi),λb t hb=>?_⟩,λb hb=>?_,λb hb=>?_⟩
  ·rcases G b hb with a|a
   ·exact p b (m.ji b a)
   ·exact A b (v.ji b hb) a
  ·obtain⟨id,o,f,g,c⟩:=Jq e h.st.lt t
   rcases H b hb with a|a
   ·have:=(h.st.obj id o f).blt g c
    omega
   ·exact m.ap b ⟨id,o,f,g,c⟩ a
  ·rcases G b hb with a|a|a
   ·exact y b a
   ·exact .inr (.inl (pm h.ext.size a))
   ·exact .inr (j b a)
  ·rcases H b hb with a|a
   ·exact .inl (pm h.ext.size a)
   ·exact j b a
theorem IY{V:View}:Lq V []:=⟨λ_ _ h=>(by cases h),λ_ _ h=>(by cases h),λ_ _ h=>(by cases h),λ_ _ _ _ h=>(by cases h)⟩
theorem Fu{x:Operand}{args:Array Operand}{tys:Array TypeId}{gg:FuncId}{cap:List C}{es:List E}{r:E}(R:ev f x=some (.o (.fn gg cap)))(t:KS f args.toList=some es)(hp:(es.all E.Gz && C.Ie cap)=true)
 (L:Pure P TB gg (es++cap.map .o) r) (T:r.Gz=true):A5 P TB U ⟨d,.call ⟨.value x,args,tys⟩,ty,pos,af,g⟩ f σ nx r:=by
 intro V a z B Y;have z:=z.HR;unfold Oper.wp;generalize a.eval=ρ at z |-;obtain⟨vs,p,l⟩:=Px (z.get (x:=x) (by simp[Op.operands,Call.operands]) R);rw[Lw L.1 p];rw[d4]at hp;have u:=C5 t
 have n:QS { V with nx:=0 } (es++cap.map .o) (args.map ρ++vs):=by
  refine⟨by simp[l.1,u],λj e v q p=>?_⟩
  have m:(args.map ρ).size=es.length:=by simp[u]
  by_cases s:j<es.length
  ·rw[f9 s]at q
   rw[ru (by rw[m];exact s)]at p;refine Bu.Gz (V:=V) (V':={ V with nx:=0 }) rfl rfl (Jj (λy Q e X=>z.get (by simp[Op.operands,Call.operands];right;simpa using Q) X) t j e v q (by rw[<-t7];simpa using p)) (ge.1 hp.1 e (co q))
  ·rw[io (by omega)]at q
   rw[sG (by rw[m];omega),m]at p;simp only[f6,d7]at q;obtain⟨c,M,rfl⟩:=q;exact AP.Gz (V:=V) (V':={ V with nx:=0 }) rfl rfl (l.2 _ c v M p) (Hc _ hp.2 _ c M)
 obtain⟨S,A,J,K⟩:=B.hid;refine(L.2 { V with nx:=0 } _ S ⟨B.iLt,IY,B.tabs,rfl,⟨A.r,A.ji,A.bi,λb ⟨_,_,h,_⟩=>by cases h⟩⟩ n).mono ?_;rintro e w' ⟨V1,v,Z,N,rfl,rfl,k,F,rfl⟩
 obtain⟨G,H⟩:=O9 B A J K (Vc:={ V with nx:=0 }) rfl k V1.I (λb hb=>k.ext.i b hb) (λb hb=>by
  rcases k.iNew b hb with h|h|h|h
  ·exact .inl h
  ·exact .inr (.inl ⟨h,k.iLt b hb⟩)
  ·obtain⟨_,_,h,_⟩:=h;cases h
  ·exact .inr (.inr h)) (λb hb _=>hb) (λb hb=>hb)
 exact⟨{ V with I:=V1.I,w:=V1.w },v,rfl,rfl,H,G,Y,Bu.Gz (V:=V1) (V':={ V with I:=V1.I,w:=V1.w }) rfl rfl F T⟩
theorem Mk{x:Operand}{args:Array Operand}{tys:Array TypeId}{gg:FuncId}{cap:List C}{es es':List E}{r:E}(H:ev f x=some (.o (.fn gg cap)))(K:KS f args.toList=some es)(q:mP σ (es++cap.map .o) es')
 (hs:Pure P TB gg es' r) (hr:r.sc=true):A5 P TB U ⟨d,.call ⟨.value x,args,tys⟩,ty,pos,af,g⟩ f σ nx r:=by
 intro V a G p h3;have G:=G.HR;unfold Oper.wp;generalize a.eval=ρ at G |-;obtain⟨vs,Q,t⟩:=Px (G.get (x:=x) (by simp[Op.operands,Call.operands]) H);rw[Lw hs.1 Q];have L:=C5 K
 have n:QS V (es++cap.map .o) (args.map ρ++vs):=by
  refine⟨by simp[t.1,L],λj e v m q=>?_⟩
  have u:(args.map ρ).size=es.length:=by simp[L]
  by_cases k:j<es.length
  ·rw[f9 k]at m
   rw[ru (by rw[u];exact k)]at q;exact Jj (λy hy e he=>G.get (by simp[Op.operands,Call.operands];right;simpa using hy) he) K j e v m (by rw[<-t7];simpa using q)
  ·rw[io (by omega)]at m
   rw[sG (by rw[u];omega),u]at q;simp only[f6,d7]at m;obtain⟨c,hc,rfl⟩:=m;exact t.2 _ c v hc q
 have R:∀ {l l':List E},mP σ l l'->l.length=l'.length/\∀(j:Nat) e e',l[j]?=some e->l'[j]?=some e'->EV σ e e':=by
  intro l l' h
  induction h with
  | nil=>exact⟨rfl,λj e e' m=>by simp at m⟩
  | cons h _ ih=>
   refine⟨by simp[ih.1],λj e e' m z=>?_⟩
   cases j with
   | zero=>simp at m z;subst m z;exact h
   | succ j=>exact ih.2 j e e' (by simpa using m) (by simpa using z)
 obtain⟨s,J⟩:=R q
 have F:QS (HY V σ) es' (args.map ρ++vs):=by
  refine⟨by rw[n.1,s],λj e v m q=>?_⟩
  have k:j<(es++cap.map E.o).length:=by rw[s];exact(am.1 m).1
  exact(J j _ e (d6 k) m).rel p (n.2 j _ v (d6 k) q)
 have k:∀b,(HY V σ).I b->b<(HY V σ).w.heap.size:=by
  rintro b (hb|⟨id,o,X,T,hb⟩)
  ·exact p.iLt b hb
  ·exact(p.st.obj id o X).blt T hb
 obtain⟨S,M,hSJ,hSB⟩:=p.hid;refine(hs.2 (HY V σ) _ S ⟨k,IY,λx H=>⟨.inl (p.tabs x H).1,(p.tabs x H).2⟩,rfl,⟨M.r,λb hb=>.inl (M.ji b hb),λb hb hi=>hi.elim (M.bi b hb) λ⟨id,o,X,T,H⟩=>M.ap b ⟨id,o,X,T,H⟩ hb,λb ⟨_,_,h,_⟩=>by cases h⟩⟩ F).mono ?_;rintro e w' ⟨V1,v,x1,σ1,rfl,rfl,A,N,rfl⟩;obtain⟨Y,Z⟩:=O9 p M hSJ hSB (Vc:=HY V σ) rfl A (λb=>V.I b\/(V.w.heap.size<=b\/S.B b)/\V1.I b) (λb hb=>.inl hb) (λb hb=>hb.elim .inl λh=>.inr (h.1.elim (λg=>.inl ⟨g,A.iLt b h.2⟩) .inr)) (λb G p=>.inr ⟨p,G⟩) (λb hb=>hb.elim (λh=>A.ext.i b (.inl h)) λh=>h.2);exact⟨{ V with I:=λb=>V.I b\/(V.w.heap.size<=b\/S.B b)/\V1.I b,w:=V1.w },v,rfl,rfl,Z,Y,h3,mB N hr⟩
end
def CS:List Nat->Ac->Ac
 | [],σ=>σ
 | id::r,σ=>CS r (kill id σ)
theorem Bs:∀(ids:List Nat) (σ:Ac) (i:Nat) (o:O),look (CS ids σ) i=some o->i∉ids/\look σ i=some o
 | [],σ,i,o,h=>⟨by simp,h⟩
 | id :: r,σ,i,o,h=>by
  obtain⟨b,a⟩:=Bs r (kill id σ) i o h;rw[Fo]at a;by_cases hi:i=id
  ·rw[if_pos hi]at a;cases a
  ·rw[if_neg hi]at a
   exact⟨by simp[hi,b],a⟩
inductive FC (σ:Ac) (ids:List Nat):C->C->Prop
 | A0 {c:C}:FC σ ids c c
 | arr {id k off len:Nat} {T:TypeId} {rows:List (List C)} {ds:List (List D)}:id∈ids->look σ id=some (.cells T k rows)->off+len<=rows.length->(rows.drop off).take len=ds.map (λr=>r.map .d)->FC σ ids (.arr id k off len) (.d (.l ds))
 | ptr {id k i j:Nat} {T:TypeId} {rows:List (List C)} {r:List C} {ds:List D}:id∈ids->look σ id=some (.cells T k rows)->rows[i]?=some r->r.drop j=ds.map .d->FC σ ids (.ptr id k i j) (.ip ds)
inductive FE (σ:Ac) (ids:List Nat):E->E->Prop
 | A0 {e:E}:FE σ ids e e
 | o {c c':C}:FC σ ids c c'->FE σ ids (.o c) (.o c')
 | nil:FE σ ids (.a []) (.a [])
 | cons {c c':C} {cs cs':List C}:FC σ ids c c'->FE σ ids (.a cs) (.a cs')->FE σ ids (.a (c::cs)) (.a (c'::cs'))
def Fg(σ:Ac)(ids:List Nat)(f:Env):List (Nat×E)->Prop
 | []=>True
 | (t,e')::L=>(∃e,f t=some e/\FE σ ids e e')/\Fg σ ids f L
theorem Fg.get{σ:Ac}{ids:List Nat}{f:Env}:∀ {L:List (Nat×E)},Fg σ ids f L->∀t e',look L t=some e'->∃e,f t=some e/\FE σ ids e e'
 | [],_,t,e,h=>by cases h
 | (k,x)::L,a,t,e,h=>by
  rw[AG]at h;by_cases hk:k=t
  ·rw[if_pos hk]at h;injection h with h;subst h;subst hk;exact a.1
  ·rw[if_neg hk]at h;exact Fg.get a.2 t e h
def Oy(V:View)(σ:Ac)(ids:List Nat):View:={ V with I:=λb=>V.I b\/∃id o,id∈ids/\look σ id=some o/\¬V.nl id/\FR V id o b }
section
variable {P:Program}{TB:BJ}{U:Ctx}{N:Nat}{σ:Ac}
theorem Tj{V:View}{ids:List Nat}:Ext V (Oy V σ ids):=⟨λ_ h=>.inl h,λ_ _=>rfl,lc _,λ_ _=>rfl,λ_ _=>rfl,λ_ _=>Iff.rfl,lc _⟩
theorem FC.rel{V:View}(hi:Inv TB U V σ){ids:List Nat}{c c':C}{v:Value}(h:FC σ ids c c')(G:AP V c v):AP (Oy V σ ids) c' v:=by
 have e:Ext V (Oy V σ ids):=Tj
 cases h with
 | A0=>exact G.ext e
 | @arr id k off len T rows ds F z M u=>
  cases G with
  | nil L K=>
   have:ds=[]:=by
    have:=congrArg List.length u;simp at this;exact pp.1 this.symm
   subst this;exact .d .nil
  | arr L p K=>
   rcases hi.st.obj id _ z with ⟨t,_⟩|⟨_,cur,t,Q,P,N,J,H⟩
   ·exact absurd t p
   ·have y:ds.length=len:=by
     have:=congrArg List.length u;simp at this;omega
    have m:∀(i:Nat) (r:List D),ds[i]?=some r->rows[off+i]?=some (r.map .d):=λi r hi=>by
     have n:((rows.drop off).take len)[i]?=some (r.map .d):=by rw[u];simp[hi]
     rw[rh]at n;split at n
     ·rwa[rm]at n
     ·cases n
    have a:∀(i:Nat) (r:List D) (j:Nat) (x:D),ds[i]?=some r->r[j]?=some x->∃v,cur[(off+i)*k+j]?=some v/\C9 V.I V.w x v:=λi r j x hi A=>by
     obtain⟨v,g,f⟩:=H (off+i) (r.map .d) j (.d x) (m i r hi) (by simp[A])
     cases f with
     | d f=>exact⟨v,g,f⟩
    rw[<-y]at K |-;refine .d (.l (b:=V.ρ id) (o:=off*k) (k:=k) (vs:=λi j=>cur.getD ((off+i)*k+j) undef) (.inr ⟨id,_,F,z,p,rfl⟩) (by omega) (by omega) (λi r hi=>?_) (λi r j x hi A=>?_) (λi r j x hi A=>?_))
    ·have:=J _ (co (m i r hi))
     simpa using this
    ·obtain⟨v,g,_⟩:=a i r j x hi A
     have e:off*k+i*k+j=(off+i)*k+j:=by rw[ry]
     rw[e];have:(Oy V σ ids).w.heap[V.ρ id]?=some (.cells cur T):=t;simp[World.cell?,this,g]
    ·obtain⟨v,g,f⟩:=a i r j x hi A
     have:cur.getD ((off+i)*k+j) undef=v:=by simp[g]
     simp only[this];exact f.ext e
 | @ptr id k i j T rows r ds F z B u=>
  cases G with
  | ptr L p=>
   rcases hi.st.obj id _ z with ⟨t,_⟩|⟨_,cur,t,Q,P,N,J,H⟩
   ·exact absurd t p
   ·have m:∀(q:Nat) (x:D),ds[q]?=some x->r[j+q]?=some (.d x):=λq x s=>by
     have n:(r.drop j)[q]?=some (.d x):=by rw[u];simp[s]
     rwa[rm]at n
    have a:∀(q:Nat) (x:D),ds[q]?=some x->∃v,cur[i*k+j+q]?=some v/\C9 V.I V.w x v:=λq x s=>by
     obtain⟨v,g,f⟩:=H i r (j+q) (.d x) B (m q x s)
     cases f with
     | d f=>exact⟨v,by rw[rz];exact g,f⟩
    refine .ip (V:=Oy V σ ids) (vs:=λq=>cur.getD (i*k+j+q) undef) (.inr ⟨id,_,F,z,p,rfl⟩) (λq x s=>?_) (λq x s=>?_)
    ·obtain⟨v,g,_⟩:=a q x s
     have:(Oy V σ ids).w.heap[V.ρ id]?=some (.cells cur T):=t;simp[World.cell?,this,g]
    ·obtain⟨v,g,f⟩:=a q x s
     have:cur.getD (i*k+j+q) undef=v:=by simp[g]
     simp only[this];exact f.ext e
theorem FE.rel{V:View}(hi:Inv TB U V σ){ids:List Nat}{e e':E}(h:FE σ ids e e'):∀ {v:Value},Bu V e v->Bu (Oy V σ ids) e' v:=by
 induction h with
 | A0=>intro v a;exact a.ext Tj
 | o f=>intro v a;exact f.rel hi a
 | nil=>intro v a;obtain⟨vs,rfl,d,_⟩:=a;exact⟨vs,rfl,d,λj c v b=>by simp at b⟩
 | @cons c c' cs cs' f _ k=>
  rintro v ⟨vs,rfl,d,i⟩
  have l:0<vs.size:=by rw[d];simp
  have ht:=@k (.agg (vs.extract 1 vs.size)) ⟨_,rfl,by simp[d],λj c v b a=>i (j+1) c v (by simpa using b) (by
   rw[uw]at a;split at a
   ·rw[uh]at a;exact a
   ·cases a)⟩
  obtain⟨ws,g,p,n⟩:=ht
  injection g with g
  subst g;refine⟨vs,rfl,by simp at p |-;omega,λj q v b a=>?_⟩
  cases j with
  | zero=>
   simp at b;subst b;exact f.rel hi (i 0 c v (by simp) a)
  | succ j=>
   refine n j q v (by simpa using b) ?_;have m:=(qZ.1 a).1;rw[uw,if_pos (by omega),uh];exact a
theorem CG.freeze{V:View}{f:Env}{nx:Nat}{a:Act}(h:CG TB U N V f σ nx a)(ids:List Nat)(L:List (Nat×E))(r:Fg σ ids f L):CG TB U N (Oy V σ ids) (look L) (CS ids σ) nx a:=by
 have e:Ext V (Oy V σ ids):=Tj;refine⟨λt x l=>?_,λt x l=>?_,h.size,?_,h.nx,h.defers⟩
 ·obtain⟨y,n,g⟩:=r.get t x l
  exact g.rel h.inv (h.env t y n)
 ·obtain⟨y,n,_⟩:=r.get t x l
  exact h.lt t y n
 ·have hi:=h.inv
  refine⟨hi.os,hi.tape,hi.output,hi.old,?_,?_,hi.ext.trans e,⟨?_,?_,?_,?_⟩,?_,λx l=>⟨.inl (hi.tabs x l).1,(hi.tabs x l).2⟩,hi.hid.same rfl (λ_ h=>.inl h) (λb hb=>hb.elim .inl λ⟨id,o,_,c,d,q⟩=>.inr ⟨id,o,c,d,q⟩) λb ⟨id,o,c,d,hb⟩=>have g:=(Bs ids σ id o c).2;⟨id,o,g,d,(AR e (hi.st.lt id o g)).1 hb⟩⟩
  ·rintro b (hb|⟨id,o,_,c,d,hb⟩)
   ·exact hi.iLt b hb
   ·exact(hi.st.obj id o c).blt d hb
  ·rintro b (hb|⟨id,o,_,c,d,hb⟩)
   ·exact hi.iNew b hb
   ·exact .inr (hi.live id o c d b hb)
  ·intro id o c
   have:=(Bs ids σ id o c).2;exact(hi.st.obj id o this).A0 e (hi.st.lt id o this) λ_ _ _=>rfl
  ·intro id o c;exact hi.st.lt id o (Bs ids σ id o c).2
  ·intro id o c d b i hb
   obtain⟨n,g⟩:=Bs ids σ id o c;have i:=(AR e (hi.st.lt id o g)).1 i
   rcases hb with hb|⟨id',o',s,k,j,q⟩
   ·exact hi.st.free id o g d b i hb
   ·exact hi.st.inj id id' o o' g k (λe=>n (e▸s)) d j b i q
  ·intro id id' o o' c k p d j b hb i
   have g:=(Bs ids σ id o c).2;have m:=(Bs ids σ id' o' k).2;exact hi.st.inj id id' o o' g m p d j b ((AR e (hi.st.lt id o g)).1 hb) ((AR e (hi.st.lt id' o' m)).1 i)
  ·intro id o c d b hb
   have g:=(Bs ids σ id o c).2;exact hi.live id o g d b ((AR e (hi.st.lt id o g)).1 hb)
theorem FC.full{ids:List Nat}{id k len:Nat}{T:TypeId}{rows:List (List C)}{ds:List (List D)}(c:id∈ids)(e:look σ id=some (.cells T k rows))(a:rows=ds.map (λr=>r.map .d))(b:rows.length=len):FC σ ids (.arr id k 0 len) (.d (.l ds)):=
 .arr c e (by omega) (by rw[sv,<-b,i8];exact a)
theorem CV.full{id k len:Nat}{T:TypeId}{rows:List (List C)}{ds:List (List D)}(c:look σ id=some (.cells T k rows))(a:rows=ds.map (λr=>r.map .d))(b:rows.length=len):CV σ (.arr id k 0 len) (.d (.l ds)):=
 .arr c (by omega) (by rw[sv,<-b,i8];exact a)
theorem Aj.freeze{c:Code}{Q:Exit->Env->Ac->Nat->Prop}{f:Env}{nx:Nat}(ids:List Nat)(L:List (Nat×E))(d:Fg σ ids f L)(h:Aj P TB U N c Q (look L) (CS ids σ) nx):Aj P TB U N c Q f σ nx:=
 λV a b=>h (Oy V σ ids) a (b.freeze ids L d)
end
def ML(l:List Nat)(nx:Nat)(i:Nat):Nat:=match l[i]? with|some j=>j|none=>nx+(i-l.length)
theorem l3{l:List Nat}{nx i:Nat}(h:i<l.length):ML l nx i=l[i]:=by unfold ML;rw[d6 h]
theorem lZ{l:List Nat}{nx i:Nat}(h:l.length<=i):ML l nx i=nx+(i-l.length):=by unfold ML;rw[qT h]
theorem IL{l:List Nat}{nx i:Nat}(h:i<l.length):nm l nx i=l[i]:=by unfold nm;rw[d6 h]
def Ac.Bj(r:Nat->Nat):Ac->Ac
 | []=>[]
 | (i,o)::σ=>(r i,o.Bj r)::Ac.Bj r σ
theorem PO{r:Nat->Nat}:∀ {σ:Ac} {i:Nat} {o:O},look (σ.Bj r) i=some o->∃j a,r j=i/\look σ j=some a/\o=a.Bj r
 | [],i,o,h=>by cases h
 | (k,x)::σ,i,o,h=>by
  simp only[Ac.Bj]at h;rw[AG]at h;by_cases hk:r k=i
  ·rw[if_pos hk]at h
   injection h with h
   exact⟨k,x,hk,by rw[AG,if_pos rfl],h.symm⟩
  ·rw[if_neg hk]at h
   obtain⟨j,a,b,d,c⟩:=PO h;refine⟨j,a,b,?_,c⟩;rw[AG,if_neg (λe=>hk (by rw[e];exact b))];exact d
theorem Jz{α:Type}:∀ {l m:List (Nat×α)} {i:Nat} {o:α},look (l++m) i=some o->look l i=some o\/look m i=some o
 | [],m,i,o,h=>.inr h
 | (k,x)::l,m,i,o,h=>by
  simp only[su]at h;rw[AG]at h |-;by_cases hk:k=i
  ·rw[if_pos hk]at h |-;exact .inl h
  ·rw[if_neg hk]at h |-;exact Jz h
structure W0 (V V':View) (r:Nat->Nat):Prop where
 I:V'.I=V.I
 w:V'.w=V.w
 lt:∀id,id<V.nx->r id<V'.nx
 ρ:∀id,id<V.nx->V'.ρ (r id)=V.ρ id
 cap:∀id,id<V.nx->V'.cap (r id)=V.cap id
 nl:∀id,id<V.nx->(V'.nl (r id)↔V.nl id)
theorem AP.push{V V':View}{r:Nat->Nat}(hp:W0 V V' r){c:C}{v:Value}(h:AP V c v):AP V' (c.Bj r) v:=by
 induction h with
 | d h=>exact .d (by rw[hp.I,hp.w];exact h)
 | @nil id k a l=>exact .nil (hp.lt id a) ((hp.nl id a).2 l)
 | @arr id k off len a m l=>
  rw[<-hp.ρ id a,<-hp.cap id a];exact .arr (hp.lt id a) (λh=>m ((hp.nl id a).1 h)) (by rw[hp.cap id a];exact l)
 | @ptr id k i j a m=>
  rw[<-hp.ρ id a];exact .ptr (hp.lt id a) (λh=>m ((hp.nl id a).1 h))
 | fn a _ f=>
  refine .fn (by rw[a,CM]) λj c v e g=>?_;rw[EU,d7]at e;obtain⟨n,b,rfl⟩:=e;exact f j n v b g
 | @mp id a=>rw[<-hp.ρ id a];exact .mp (hp.lt id a)
 | mv a _ f=>
  refine .mv (by rw[a,CM]) λj c v e g=>?_;rw[EU,d7]at e;obtain⟨n,b,rfl⟩:=e;exact f j n v b g
theorem Da.push{V V':View}{r:Nat->Nat}(hp:W0 V V' r){cs:List C}{vs:Array Value}(h:Da V cs vs):Da V' (C.Cp r cs) vs:=
 ⟨by rw[h.1,CM],λj c v b d=>by
  rw[EU,d7]at b;obtain⟨e,a,rfl⟩:=b
  exact(h.2 j e v a d).push hp⟩
theorem Bu.push{V V':View}{r:Nat->Nat}(hp:W0 V V' r){e:E}{v:Value}(h:Bu V e v):Bu V' (e.Bj r) v:=by
 cases e with
 | e=>exact h
 | o c=>exact AP.push hp h
 | a cs=>obtain⟨vs,i,g⟩:=h;exact⟨vs,i,g.push hp⟩
 | t xs=>
  obtain⟨vs,i,g,p⟩:=h;refine⟨vs,i,by rw[g];simp,λj x v k n=>?_⟩;rw[f6,d7]at k;obtain⟨⟨b,cs⟩,m,rfl⟩:=k;have l:=p j (b,cs) v m n;cases b
  ·obtain⟨c,d,f⟩:=l
   have d:cs=[c]:=d;subst d;exact⟨c.Bj r,rfl,f.push hp⟩
  ·obtain⟨ws,d,f⟩:=l
   exact⟨ws,d,f.push hp⟩
theorem C3.push{V V':View}{r:Nat->Nat}(hp:W0 V V' r){id:Nat}(a:id<V.nx){o:O}(h:C3 V id o):C3 V' (r id) (o.Bj r):=by
 cases o with
 | cells T k rows=>
  rcases h with ⟨f,b⟩|⟨g,cur,b,A,z,u,t,s⟩
  ·exact .inl ⟨(hp.nl id a).2 f,by simp[b]⟩
  ·refine .inr ⟨λh=>g ((hp.nl id a).1 h),cur,by rw[hp.w,hp.ρ id a];exact b,by rw[hp.cap id a];exact A,by rw[hp.cap id a];simpa using z,by rw[hp.cap id a];exact u,λx n=>?_,λi x j c hi m=>?_⟩
   ·obtain⟨y,d,rfl⟩:=d9.1 n
    rw[CM];exact t y d
   ·rw[f6,d7]at hi
    obtain⟨y,d,rfl⟩:=hi;rw[EU,d7]at m;obtain⟨F,e,rfl⟩:=m;obtain⟨v,q,p⟩:=s i y j F d e;exact⟨v,q,p.push hp⟩
 | mp es=>
  obtain⟨g,ents,clock,f,b⟩:=h;exact⟨λh=>g ((hp.nl id a).1 h),ents,clock,by rw[hp.w,hp.ρ id a];exact f,b⟩
 | sld T l=>exact⟨λB=>h.1 ((hp.nl id a).1 B),by rw[hp.w];exact h.2⟩
theorem CI{V V':View}{r:Nat->Nat}(hp:W0 V V' r){id:Nat}(a:id<V.nx){o:O}{b:Nat}:FR V' (r id) (o.Bj r) b↔FR V id o b:=by
 cases o<;>simp[FR,O.Bj,hp.ρ id a]
def HL(V V1:View)(l:List Nat):View:=
 {I:=V1.I,w:=V1.w,nx:=V.nx+(V1.nx-l.length),
  ρ:=λi=>if i<V.nx then V.ρ i else V1.ρ (i-V.nx+l.length),
  cap:=λi=>if i<V.nx then V.cap i else V1.cap (i-V.nx+l.length),
  nl:=λi=>if i<V.nx then V.nl i else V1.nl (i-V.nx+l.length) }
section
variable {P:Program}{TB:BJ}{U:Ctx}{d:Option Tmp}{ty:TypeId}{pos:String}{af:Array Edge}{g:Option (Nat×Bool)}{f:Env}{σ:Ac}{nx:Nat}
variable {K:E->Ac->Nat->Prop}
theorem KL{V V1:View}{l:List Nat}(f:∀i∈l,i<V.nx)(e:Ext (V.Bj (nm l V.nx) l.length) V1):W0 V1 (HL V V1 l) (ML l V.nx):=by
 have d:l.length<=V1.nx:=e.nx
 have key:∀id,(∃h:id<l.length,ML l V.nx id=l[id]/\l[id]<V.nx)\/l.length<=id/\ML l V.nx id=V.nx+(id-l.length):=λid=>by
  by_cases h:id<l.length
  ·exact .inl ⟨h,l3 h,f _ (rF h)⟩
  ·exact .inr ⟨by omega,lZ (by omega)⟩
 refine⟨rfl,rfl,λid h=>?_,λid h=>?_,λid h=>?_,λid h=>?_⟩
 ·show _<V.nx+(V1.nx-l.length)
  rcases key id with ⟨b,a,c⟩|⟨b,a⟩
  ·rw[a];omega
  ·rw[a];omega
 ·show (if _ then _ else _)=_
  rcases key id with ⟨b,a,c⟩|⟨b,a⟩
  ·rw[a,if_pos c,e.ρ id b];show _=V.ρ (nm l V.nx id);rw[IL b]
  ·rw[a,if_neg (by omega)];congr 1;omega
 ·show (if _ then _ else _)=_
  rcases key id with ⟨b,a,c⟩|⟨b,a⟩
  ·rw[a,if_pos c,e.cap id b];show _=V.cap (nm l V.nx id);rw[IL b]
  ·rw[a,if_neg (by omega)];congr 1;omega
 ·show (if _ then _ else _)↔_
  rcases key id with ⟨b,a,c⟩|⟨b,a⟩
  ·rw[a,if_pos c,e.nl id b];show _↔V.nl (nm l V.nx id);rw[IL b]
  ·rw[a,if_neg (by omega)]
   have:V.nx+(id-l.length)-V.nx+l.length=id:=by omega
   rw[this]
theorem dP{V V1:View}{l:List Nat}{v y:Ac}(h:Inv TB U V σ)(hl:∀i∈l,i<V.nx)(hS:A7 (nm l V.nx) σ v)
 {S:Xb} (K:QT TB V σ S) (hSJ:∀b,S.J b->U.J b\/U.V.w.heap.size<=b\/U.F b) (G:∀b,S.B b->U.V.w.heap.size<=b\/U.F b)
 (q:Inv TB (HQ (V.Bj (nm l V.nx) l.length) (V.Bj (nm l V.nx) l.length) v S) V1 y) :
 Inv TB U (HL V V1 l) (y.Bj (ML l V.nx)++CS l σ)/\Ext V (HL V V1 l):=by
 have hp:=KL hl q.ext;have hlen:l.length<=V1.nx:=q.ext.nx;have hsz:V.w.heap.size<=V1.w.heap.size:=q.ext.size
 have z:∀b,EF (V.Bj (nm l V.nx) l.length) v b->∃i o,i∈l/\look σ i=some o/\¬V.nl i/\FR V i o b:=by
  rintro b ⟨j,o,hj,P,hb⟩;have a:=hS.get j o hj;have g:=VE (h.st.lt _ _ a);have d:=IL (nx:=V.nx) g;refine⟨l[j],o.Bj _,rF g,by rw[<-d];exact a,?_,?_⟩
  ·have:¬V.nl (nm l V.nx j):=P
   rwa[d]at this
  ·have c:=C4.1 hb
   rwa[d]at c
 have A:∀b,EF (V.Bj (nm l V.nx) l.length) v b->b<V.w.heap.size/\¬V.I b/\(U.V.w.heap.size<=b\/U.F b):=by
  intro b hb;obtain⟨i,o,_,g,d,c⟩:=z b hb;exact⟨(h.st.obj i o g).blt d c,h.st.free i o g d b c,h.live i o g d b c⟩
 have t:∀i o,i∉l->look σ i=some o->¬V.nl i->∀b,FR V i o b->¬EF (V.Bj (nm l V.nx) l.length) v b:=by
  intro i o hi s P b hb R;obtain⟨j,o',g,d,c,h6⟩:=z _ R;exact h.st.inj j i o' o d s (λe=>hi (e▸g)) c P b h6 hb
 have M:∀b,b<V.w.heap.size->¬EF (V.Bj (nm l V.nx) l.length) v b->¬S.B b->V1.w.heap[b]?=V.w.heap[b]?:=λb hb R Z=>q.old b hb λh=>h.elim R Z
 have e:Ext V (HL V V1 l):=by
  refine⟨λb hb=>q.ext.i b hb,λb hb=>q.ext.heap b hb,hsz,λi hi=>?_,λi hi=>?_,λi hi=>?_,Nat.le_add_right _ _⟩
  ·show (if _ then _ else _)=_;rw[if_pos hi]
  ·show (if _ then _ else _)=_;rw[if_pos hi]
  ·show (if _ then _ else _)↔_;rw[if_pos hi]
 have f:∀i o,look (y.Bj (ML l V.nx)++CS l σ) i=some o->(∃j n,j<V1.nx/\ML l V.nx j=i/\look y j=some n/\o=n.Bj (ML l V.nx))\/(i∉l/\i<V.nx/\look σ i=some o):=by
  intro i o s
  rcases Jz s with a|a
  ·obtain⟨j,n,g,d,c⟩:=PO a
   exact .inl ⟨j,n,q.st.lt j n d,g,d,c⟩
  ·obtain⟨g,d⟩:=Bs l σ i o a
   exact .inr ⟨g,h.st.lt i o d,d⟩
 have m:∀i,i<V.nx->((HL V V1 l).nl i↔V.nl i):=λi hi=>e.nl i hi
 have N:∀j n,look y j=some n->¬V1.nl j->∀i o,i∉l->look σ i=some o->¬V.nl i->∀b,FR V1 j n b->¬FR V i o b:=by
  intro j n hj hnj i o hi s Q b hb p
  rcases q.live j n hj hnj b hb with a|a
  ·have:=(h.st.obj i o s).blt Q p
   have a:V.w.heap.size<=b:=a;omega
  ·rcases a with a|a
   ·exact t i o hi s Q b p a
   ·exact K.ap b ⟨i,o,s,Q,p⟩ a
 refine⟨⟨q.os.trans h.os,q.tape.trans h.tape,q.output.trans h.output,?_,q.iLt,?_,h.ext.trans e,⟨?_,?_,?_,?_⟩,?_,q.tabs,?_⟩,e⟩
 ·intro b hb R
  have:¬EF (V.Bj (nm l V.nx) l.length) v b:=λp=>by
   rcases(A b p).2.2 with a|a
   ·omega
   ·exact R a
  exact(M b (qV hb h.ext.size) this λhx=>(G b hx).elim (λh=>by omega) R).trans (h.old b hb R)
 ·intro b hb
  rcases q.iNew b hb with a|a|a
  ·exact h.iNew b a
  ·exact .inr (.inl (pm h.ext.size a))
  ·exact .inr (a.elim (λa=>(A b a).2.2) (G b))
 ·intro i o s
  rcases f i o s with ⟨j,n,a,rfl,d,rfl⟩|⟨a,g,d⟩
  ·exact(q.st.obj j n d).push hp a
  ·exact(h.st.obj i o d).A0 e g λu b hb=>M _ ((h.st.obj i o d).blt u hb) (t i o a d u b hb) (K.ap b ⟨i,o,d,u,hb⟩)
 ·intro i o s
  rcases f i o s with ⟨j,n,a,rfl,d,rfl⟩|⟨a,g,d⟩
  ·exact hp.lt j a
  ·exact qV g e.nx
 ·intro i o s u b hb hI
  rcases f i o s with ⟨j,n,a,rfl,d,rfl⟩|⟨a,g,d⟩
  ·exact q.st.free j n d (λh=>u ((hp.nl j a).2 h)) b ((CI hp a).1 hb) hI
  ·have k:¬V.nl i:=λh=>u ((m i g).2 h)
   have hb:=(AR e g).1 hb
   rcases q.iNew _ hI with c|c|c
   ·exact h.st.free i o d k b hb c
   ·have:=(h.st.obj i o d).blt k hb
    have c:V.w.heap.size<=b:=c;omega
   ·rcases c with c|c
    ·exact t i o a d k b hb c
    ·exact K.ap b ⟨i,o,d,k,hb⟩ c
 ·intro i i' o o' s ho' X u k b hb p
  rcases f i o s with ⟨j,n,a,rfl,d,rfl⟩|⟨a,g,d⟩<;>rcases f i' o' ho' with ⟨j',T,x,rfl,H,rfl⟩|⟨x,L,H⟩
  ·exact q.st.inj j j' n T d H (λe=>X (by rw[e])) (λh=>u ((hp.nl j a).2 h)) (λh=>k ((hp.nl j' x).2 h)) b ((CI hp a).1 hb) ((CI hp x).1 p)
  ·exact N j n d (λh=>u ((hp.nl j a).2 h)) i' o' x H (λh=>k ((m i' L).2 h)) b ((CI hp a).1 hb) ((AR e L).1 p)
  ·exact N j' T H (λh=>k ((hp.nl j' x).2 h)) i o a d (λh=>u ((m i g).2 h)) b ((CI hp x).1 p) ((AR e g).1 hb)
  ·exact h.st.inj i i' o o' d H X (λh=>u ((m i g).2 h)) (λh=>k ((m i' L).2 h)) b ((AR e g).1 hb) ((AR e L).1 p)
 ·intro i o s u b hb
  rcases f i o s with ⟨j,n,a,rfl,d,rfl⟩|⟨a,g,d⟩
  ·rcases q.live j n d (λh=>u ((hp.nl j a).2 h)) b ((CI hp a).1 hb) with c|c
   ·exact .inl (pm h.ext.size c)
   ·exact c.elim (λc=>(A _ c).2.2) (G b)
  ·exact h.live i o d (λh=>u ((m i g).2 h)) b ((AR e g).1 hb)
 ·obtain⟨S1,Y,k2,k3⟩:=q.hid
  refine⟨S1,⟨Y.r,Y.ji,Y.bi,λb ⟨i,o,s,u,hb⟩ Z=>?_⟩,λb hb=>?_,λb hb=>?_⟩
  ·rcases f i o s with ⟨j,n,a,rfl,d,rfl⟩|⟨a,g,d⟩
   ·exact Y.ap b ⟨j,n,d,λh=>u ((hp.nl j a).2 h),(CI hp a).1 hb⟩ Z
   ·have k:¬V.nl i:=λh=>u ((m i g).2 h)
    have hb:=(AR e g).1 hb
    rcases k3 b Z with c|c|c
    ·have:=(h.st.obj i o d).blt k hb
     have c:V.w.heap.size<=b:=c;omega
    ·exact t i o a d k b hb c
    ·exact K.ap b ⟨i,o,d,k,hb⟩ c
  ·rcases k2 b hb with c|c|c|c
   ·exact hSJ b c
   ·exact .inr (.inl (pm h.ext.size c))
   ·exact .inr (A _ c).2.2
   ·exact .inr (G b c)
  ·rcases k3 b hb with c|c|c
   ·exact .inl (pm h.ext.size c)
   ·exact(A _ c).2.2
   ·exact G b c
def Hd(r:Nat->Nat):List E->List E
 | []=>[]
 | e::l=>e.Bj r::Hd r l
theorem Nv(r:Nat->Nat):∀(l:List E) (j:Nat),(Hd r l)[j]?=(l[j]?).map (E.Bj r)
 | [],j=>by simp[Hd]
 | c::l,0=>by simp[Hd]
 | c::l,j+1=>by simpa[Hd]using Nv r l j
theorem IT(r:Nat->Nat):∀(l:List E),(Hd r l).length=l.length
 | []=>rfl
 | c::l=>by simp[Hd,IT r l]
theorem Ag{x:Operand}{args:Array Operand}{tys:Array TypeId}{gg:FuncId}{cap:List C}{es M:List E}{t:Ac}{n0:Nat}{post:E->Ac->Nat->Prop}(l:List Nat)(hx:ev f x=some (.o (.fn gg cap)))(R:KS f args.toList=some es)
 (hs:Spec P TB gg t n0 M post) (hl:l.length=n0/\l.Nodup/\∀i∈l,i<nx) (ha:es++cap.map .o=Hd (nm l nx) M) (L:A7 (nm l nx) σ t)
 (hK:∀x0 s A,post x0 s A->l.length<=A->K (x0.Bj (ML l nx)) (s.Bj (ML l nx)++CS l σ) (nx+(A-l.length))) :
 Ck P TB U ⟨d,.call ⟨.value x,args,tys⟩,ty,pos,af,g⟩ f σ nx K:=by
 obtain⟨hl0,hn,m⟩:=hl;subst hl0;intro V a Y z X;subst X;have Y:=Y.HR;unfold Oper.wp;generalize a.eval=ρ at Y |-;obtain⟨vs,u,w⟩:=Px (Y.get (x:=x) (by simp[Op.operands,Call.operands]) hx);rw[Lw hs.1 u];have T:=C5 R
 have h:QS V (es++cap.map .o) (args.map ρ++vs):=by
  refine⟨by simp[w.1,T],λj e v G u=>?_⟩
  have B:(args.map ρ).size=es.length:=by simp[T]
  by_cases m:j<es.length
  ·rw[f9 m]at G
   rw[ru (by rw[B];exact m)]at u;exact Jj (λy hy e Z=>Y.get (by simp[Op.operands,Call.operands];right;simpa using hy) Z) R j e v G (by rw[<-t7];simpa using u)
  ·rw[io (by omega)]at G
   rw[sG (by rw[B];omega),B]at u;simp only[f6,d7]at G;obtain⟨c,hc,rfl⟩:=G;exact w.2 _ c v hc u
 have hr:∀id,nm l V.nx id<V.nx->id<l.length:=λid=>VE
 have J:QS (V.Bj (nm l V.nx) l.length) M (args.map ρ++vs):=by
  rw[ha]at h;refine⟨by rw[h.1,IT],λj e v G u=>?_⟩;exact(h.2 j (e.Bj (nm l V.nx)) v (by rw[Nv,G];rfl) u).Bj hr
 have n:∀id o,look t id=some o->id<l.length:=λid o q=>hr id (z.st.lt _ _ (L.get id o q));obtain⟨S,p,hSJ,hSB⟩:=z.hid
 have I:Good TB (V.Bj (nm l V.nx) l.length) t l.length S:=by
  refine⟨z.iLt,⟨λid o q=>C3.Bj hr (z.st.obj _ _ (L.get id o q)),n,λid o q k b hb=>z.st.free _ _ (L.get id o q) k b (C4.1 hb),?_⟩,z.tabs,rfl,⟨p.r,p.ji,p.bi,λb ⟨id,o,q,k,hb⟩=>p.ap b ⟨_,_,L.get id o q,k,C4.1 hb⟩⟩⟩;intro id id' o o' q N hne k Q b hb hb';refine z.st.inj _ _ _ _ (L.get id o q) (L.get id' o' N) ?_ k Q b (C4.1 hb) (C4.1 hb');have X:=n id o q;have h4:=n id' o' N;rw[IL X,IL h4];intro Z;have hp:=q8.1 hn
  rcases ug hne with h5|h5
  ·exact hp _ _ X h4 h5 Z
  ·exact hp _ _ h4 X h5 Z.symm
 refine(hs.2 _ _ S I J).mono ?_;rintro e w' ⟨V1,v,x1,s,rfl,rfl,H,hx1,F⟩;obtain⟨hi',he'⟩:=dP z m L p hSJ hSB H;exact⟨HL V V1 l,v,x1.Bj (ML l V.nx),_,rfl,rfl,he',hi',hx1.push (KL m H.ext),hK x1 s V1.nx F H.ext.nx⟩
end
end Go.Am
