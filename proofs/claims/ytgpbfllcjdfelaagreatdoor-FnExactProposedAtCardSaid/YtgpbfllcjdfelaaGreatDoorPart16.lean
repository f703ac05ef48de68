/-
  At the end of a call: all that it made becomes data.
-/
import Derived.Test.YtgpbfllcjdfelaaGreatDoorPart13
import Derived.Test.YtgpbfllcjdfelaaGreatDoorPart12
set_option linter.all false
namespace Go.Am
open Go
set_option linter.unusedVariables false
inductive FZ (σ:Ab):C->D->Prop
 | d {x:D}:FZ σ (.d x) x
 | fn {g:FuncId}:FZ σ (.fn g []) (.v (.func (.func g) #[] #[]))
 | arr {id k off len:Nat} {T:TypeId} {rows:List (List C)} {ds:List (List D)} {rs:Nat->List C} {cs:Nat->Nat->C}:look σ id=some (.cells T k rows)->off+len<=rows.length->ds.length=len->
  (∀i r',ds[i]? = some r'->rows[off+i]? = some (rs i)/\(rs i).length=r'.length)->(∀i j r' x,ds[i]? = some r'->r'[j]? = some x->(rs i)[j]? = some (cs i j))->
  (∀i j r' x,ds[i]? = some r'->r'[j]? = some x->FZ σ (cs i j) x)->FZ σ (.arr id k off len) (.l ds)
 | ptr {id k i j:Nat} {T:TypeId} {rows:List (List C)} {r:List C} {ds:List D} {cs:Nat->C}:look σ id=some (.cells T k rows)->rows[i]? = some r->(∀q x,ds[q]? = some x->r[j+q]? = some (cs q))->(∀q x,ds[q]? = some x->FZ σ (cs q) x)->FZ σ (.ptr id k i j) (.p ds)
 | sld {id:Nat} {T:TypeId} {l:List (Value×List Value)} {v:Value} {row:List Value}:look σ id=some (.sld T l)->(v,row)∈l->FZ σ (.d (.v v)) (.l (row.map λx=>[.v x]))
 | nl {b:Option Addr}:FZ σ (.d (.v (.slice b 0 0))) (.l [])
inductive OX (σ:Ab):List C->List D->Prop
 | nil:OX σ [] []
 | cons {c:C} {d:D} {cs:List C} {ds:List D}:FZ σ c d->OX σ cs ds->OX σ (c::cs) (d::ds)
theorem OX.get{σ:Ab}{cs:List C}{ds:List D}(h:OX σ cs ds):cs.length=ds.length/\∀(j:Nat) x,ds[j]? = some x->∃c,cs[j]? = some c/\FZ σ c x:=by
 induction h with
 | nil=>exact⟨rfl,λj x h=>by simp at h⟩
 | @cons c d cs ds e _ b=>
  refine⟨by simp [b.1],λj x a=>?_⟩
  cases j with
  | zero=>simp at a;subst a;exact⟨c,rfl,e⟩
  | succ j=>exact b.2 j x (by simpa using a)
theorem OX.refl{σ:Ab}:∀(ds:List D),OX σ (ds.map .d) ds
 | []=>.nil
 | d::ds=>.cons .d (OX.refl ds)
theorem FZ.rows{σ:Ab}{id k len:Nat}{T:TypeId}{rows:List (List C)}{ds:List (List D)}(n:look σ id=some (.cells T k rows))(m:ds.length=len)(o:rows.length=len)(h:∀(i:Nat) (r':List D),ds[i]? = some r'->∃r,rows[i]? = some r/\OX σ r r'):FZ σ (.arr id k 0 len) (.l ds):=by
 refine .arr (rs:=λi=>(rows[i]?).getD []) (cs:=λi j=>(((rows[i]?).getD [])[j]?).getD (.d (.l []))) n (by omega) m (λi r' hi=>?_) (λi j r' x hi e=>?_) (λi j r' x hi e=>?_)
 ·obtain⟨r,b,a⟩:=h i r' hi
  rw [bW,b];exact⟨rfl,a.get.1⟩
 ·obtain⟨r,b,a⟩:=h i r' hi
  obtain⟨c,f,g⟩:=a.get.2 j x e;simp [b,f]
 ·obtain⟨r,b,a⟩:=h i r' hi
  obtain⟨c,f,g⟩:=a.get.2 j x e;simp [b,f,g]
theorem FZ.full{σ:Ab}{id k len:Nat}{T:TypeId}{rows:List (List C)}{ds:List (List D)}(c:look σ id=some (.cells T k rows))(a:rows=ds.map (λr=>r.map .d))(b:rows.length=len):FZ σ (.arr id k 0 len) (.l ds):=by
 refine .rows c (by rw [<-b,a];simp) b λi r' hi=>⟨r'.map .d,?_,OX.refl _⟩
 rw [a];simp [hi]
theorem FZ.box{σ:Ab}{id k:Nat}{T:TypeId}{r:List C}{ds:List D}(f:look σ id=some (.cells T k [r]))(h:OX σ r ds):FZ σ (.ptr id k 0 0) (.p ds):=by
 refine .ptr (cs:=λq=>(r[q]?).getD (.d (.l []))) f rfl (λq x a=>?_) (λq x a=>?_)
 ·obtain⟨c,b,e⟩:=h.get.2 q x a
  rw [bW,b];rfl
 ·obtain⟨c,b,e⟩:=h.get.2 q x a
  simp [b,e]
inductive EZ (σ:Ab):E->E->Prop
 | AU {e:E}:e.BI=true->EZ σ e e
 | o {c:C} {d:D}:FZ σ c d->EZ σ (.o c) (.o (.d d))
 | a {cs:List C} {ds:List D}:OX σ cs ds->EZ σ (.a cs) (.a (ds.map .d))
def Nu(σ:Ab)(f:Env):List (Nat×E)->Prop
 | []=>True
 | (t,e')::L=>(∃e,f t=some e/\EZ σ e e')/\Nu σ f L
theorem Nu.get{σ:Ab}{f:Env}:∀ {L:List (Nat×E)},Nu σ f L->∀t e',look L t=some e'->∃e,f t=some e/\EZ σ e e'
 | [],_,t,e,h=>by cases h
 | (k,x)::L,b,t,e,h=>by
  rw [Ak] at h;by_cases a:k=t
  ·rw [if_pos a] at h;injection h with h;subst h;subst a;exact b.1
  ·rw [if_neg a] at h;exact Nu.get b.2 t e h
def DK(V:View)(σ:Ab):View:={ V with I:=λb=>V.I b\/∃id o,look σ id=some o/\¬V.nl id/\Di V id o b }
theorem Jx{V:View}{σ:Ab}:Ext V (DK V σ):=⟨λ_ h=>.inl h,λ_ _=>rfl,bJ _,λ_ _=>rfl,λ_ _=>rfl,λ_ _=>Iff.rfl,bJ _⟩
section
variable {P:Program}{TB:Bg}{Z:Ctx}{N:Nat}{σ:Ab}
theorem Hr.data{I:Nat->Prop}{w:World}{T:TypeId}{v:Value}{row:List Value}(h:Hr w T v row)(n:∀b,GZ v b->I b):BX I w (.l (row.map λx=>[.v x])) v:=by
 rcases h with ⟨rfl,rfl⟩|⟨b,cap,cur,rfl,q,s,p,o,g⟩
 ·exact .nil
 ·have m:row.length=(row.map λx=>[D.v x]).length:=by simp
  have f:∀(i:Nat) (r:List D) (j:Nat) (d:D),(row.map λx=>[D.v x])[i]? = some r->r[j]? = some d->j=0/\∃x,row[i]? = some x/\d=.v x:=λi r j d hi c=>by
   simp only [bG,br] at hi;obtain⟨x,a,rfl⟩:=hi
   have e:j=0:=by have:=(am.1 c).1;simp at this;omega
   subst e;simp at c;exact⟨rfl,x,a,c.symm⟩
  rw [m];refine .l (k:=1) (vs:=λi _=>(row[i]?).getD undef) (n b ⟨_,_,_,rfl⟩) (by simpa using p) o (λi r hi=>?_) (λi r j d hi c=>?_) (λi r j d hi c=>?_)
  ·simp only [bG,br] at hi
   obtain⟨x,a,rfl⟩:=hi;rfl
  ·obtain⟨rfl,x,a,rfl⟩:=f i r j d hi c
   simp [World.cell?,q,a,(g i x a).1]
  ·obtain⟨rfl,x,a,rfl⟩:=f i r j d hi c
   simp only [a,dc];exact .v (g i x a).2
theorem FZ.rel{V:View}(hi:Inv TB Z V σ){c:C}{d:D}(h:FZ σ c d):∀ {v:Value},AA V c v->BX (DK V σ).I V.w d v:=by
 induction h with
 | d=>intro v t;cases t with|d h=>exact h.ext (V:=V) (V':=DK V σ) Jx
 | @sld id T l v row y M=>
  intro v' t;have J:v'=v:=AA.val t;subst J;have u:=hi.st.obj id _ y;exact(u.2.2 _ M).data λb hb=>.inr ⟨id,_,y,u.1,⟨_,M,hb⟩⟩
 | @nl b=>
  intro v' t;have J:v'=_:=AA.val t;subst J;cases b
  ·exact .nil
  ·exact .e (dP _)
 | fn =>
  intro v t
  cases t with
  | @fn f cap vs u _=>
   have:vs = #[]:=cZ (by simpa using u);subst this;exact .v rfl
 | @arr id k off len T rows ds rs cs y R L u h2 _ H=>
  intro v t
  cases t with
  | nil Q P=>
   have:ds=[]:=bM.1 L;subst this;exact .nil
  | arr Q s P=>
   rcases hi.st.obj id _ y with ⟨z,_⟩|⟨_,cur,z,h6,U,S,N,A⟩
   ·exact absurd z s
   ·have a:∀(i:Nat) (r:List D) (j:Nat) (x:D),ds[i]? = some r->r[j]? = some x->∃v,cur[(off+i)*k+j]? = some v/\BX (DK V σ).I V.w x v:=λi r j x m F=>by
     obtain⟨v,g,n⟩:=A (off+i) (rs i) j (cs i j) (u i r m).1 (h2 i j r x m F);exact⟨v,g,H i j r x m F n⟩
    rw [<-L] at P |-;refine .l (b:=V.X id) (o:=off*k) (k:=k) (vs:=λi j=>cur.getD ((off+i)*k+j) undef) (.inr ⟨id,_,y,s,rfl⟩) (by omega) (by omega) (λi r m=>?_) (λi r j x m F=>?_) (λi r j x m F=>?_)
    ·have G:=u i r m
     rw [<-G.2];exact N _ (bm G.1)
    ·obtain⟨v,g,_⟩:=a i r j x m F
     have e:off*k+i*k+j=(off+i)*k+j:=by rw [bY]
     rw [e];simp [World.cell?,z,g]
    ·obtain⟨v,g,n⟩:=a i r j x m F
     have:cur.getD ((off+i)*k+j) undef=v:=by simp [g]
     simp only [this];exact n
 | @ptr id k i j T rows r ds cs y K u _ H=>
  intro v t
  cases t with
  | ptr Q s=>
   rcases hi.st.obj id _ y with ⟨z,_⟩|⟨_,cur,z,h6,U,S,N,A⟩
   ·exact absurd z s
   ·have a:∀(q:Nat) (x:D),ds[q]? = some x->∃v,cur[i*k+j+q]? = some v/\BX (DK V σ).I V.w x v:=λq x B=>by
     obtain⟨v,g,n⟩:=A i r (j+q) (cs q) K (u q x B);exact⟨v,by rw [cy];exact g,H q x B n⟩
    refine .p (b:=V.X id) (o:=i*k+j) (vs:=λq=>cur.getD (i*k+j+q) undef) (.inr ⟨id,_,y,s,rfl⟩) (λq x B=>?_) (λq x B=>?_)
    ·obtain⟨v,g,_⟩:=a q x B
     simp [World.cell?,z,g]
    ·obtain⟨v,g,n⟩:=a q x B
     have:cur.getD (i*k+j+q) undef=v:=by simp [g]
     simp only [this];exact n
theorem EZ.rel{V:View}(hi:Inv TB Z V σ){e e':E}(h:EZ σ e e'){v:Value}(b:A1 V e v):A1 (DK V σ) e' v:=by
 cases h with
 | AU=>exact b.ext Jx
 | o h=>exact AA.d (V:=DK V σ) (h.rel hi b)
 | @a cs ds h=>
  obtain⟨vs,rfl,m,l⟩:=b;refine⟨vs,rfl,by rw [m,h.get.1];simp,λj c v f b=>?_⟩;simp only [bG,br] at f;obtain⟨x,g,rfl⟩:=f;obtain⟨c,k,i⟩:=h.get.2 j x g;exact AA.d (V:=DK V σ) (i.rel hi (l j c v k b))
theorem Al.settle{c:Code}{Q:Exit->Env->Ab->Nat->Prop}{f:Env}{nx:Nat}(L:List (Nat×E))(k:Nu σ f L)(h:Al P TB Z N c Q (look L) [] nx):Al P TB Z N c Q f σ nx:=by
 intro V a d;refine h (DK V σ) a ⟨λt x e=>?_,λt x e=>?_,d.size,?_,d.nx,d.defers⟩
 ·obtain⟨y,j,n⟩:=k.get t x e
  exact n.rel d.inv (d.env t y j)
 ·obtain⟨y,j,_⟩:=k.get t x e
  exact d.lt t y j
 ·have hi:=d.inv
  refine⟨hi.os,hi.tape,hi.output,hi.old,?_,?_,hi.ext.trans Jx,Ej,λid o l=>(by cases l),λx e=>⟨.inl (hi.tabs x e).1,(hi.tabs x e).2⟩,hi.hid.same rfl (λ_ h=>.inl h) (λb hb=>hb.elim .inl λ⟨id,o,i,g,m⟩=>.inr ⟨id,o,i,g,m⟩) λb ⟨_,_,h,_⟩=>by cases h⟩
  ·rintro b (hb|⟨id,o,i,g,hb⟩)
   ·exact hi.iLt b hb
   ·exact(hi.st.obj id o i).blt g hb
  ·rintro b (hb|⟨id,o,i,g,hb⟩)
   ·exact hi.iNew b hb
   ·exact .inr (hi.live id o i g b hb)
theorem LW{ids:List Nat}{L0:List (Nat×E)}:∀ {ks:List Nat} {Lk:List (Nat×E)},Ki L0 ks=some Lk->CO σ ids (look L0) Lk
 | [],Lk,h=>by injection h with h;subst h;trivial
 | k :: ks,Lk,h=>by
  unfold Ki at h;split at h
  ·rename_i e l b a
   injection h with h
   subst h;exact⟨⟨e,b,.AU⟩,LW a⟩
  ·cases h
theorem CO.app{ids:List Nat}{f:Env}:∀ {L M:List (Nat×E)},CO σ ids f L->CO σ ids f M->CO σ ids f (L++M)
 | [],_,_,h=>h
 | _::_,_,h,a=>⟨h.1,CO.app h.2 a⟩
theorem Al.HC{c:Code}{Q:Exit->Env->Ab->Nat->Prop}{L0 Lk:List (Nat×E)}{nx:Nat}(ids ks:List Nat)(a:Ki L0 ks=some Lk)(L:List (Nat×E))(b:CO σ ids (look L0) L)(h:Al P TB Z N c Q (look (L++Lk)) (Bt ids σ) nx):Al P TB Z N c Q (look L0) σ nx:=
 Al.freeze ids (L++Lk) (b.app (LW a)) h
section
variable {d:Option Tmp}{ty:TypeId}{pos:String}{af:Array Edge}{g:Option (Nat×Bool)}{f:Env}{nx:Nat}
theorem Na{t:TypeId}{x lo:Operand}{s:List UInt8}{m:Int}{k:IntKind}[ht:CD P t](a:ev f x=some (eT s))(b:ev f lo=some (eI k m))(e:0<=m)(c:m<=s.length):AP P TB Z ⟨d,.slice t x (some lo) none none,ty,pos,af,g⟩ f σ nx (eT (s.drop m.toNat)):=by
 have h:=QJ (P:=P) (TB:=TB) (Z:=Z) (d:=d) (ty:=ty) (pos:=pos) (af:=af) (g:=g) (σ:=σ) (nx:=nx) (t:=t) (x:=x) (lo:=some lo) (hi:=none) (l:=some (k,m)) (h:=none) a (by simp [Ut,b]) rfl e c (Int.le_refl _)
 simpa [Kg,Km] using h
theorem UT{t:TypeId}{x hi:Operand}{s:List UInt8}{m:Int}{k:IntKind}[ht:CD P t](a:ev f x=some (eT s))(b:ev f hi=some (eI k m))(e:0<=m)(c:m<=s.length):AP P TB Z ⟨d,.slice t x none (some hi) none,ty,pos,af,g⟩ f σ nx (eT (s.take m.toNat)):=by
 have h:=QJ (P:=P) (TB:=TB) (Z:=Z) (d:=d) (ty:=ty) (pos:=pos) (af:=af) (g:=g) (σ:=σ) (nx:=nx) (t:=t) (x:=x) (lo:=none) (hi:=some hi) (l:=none) (h:=some (k,m)) a rfl (by simp [Ut,b]) (Int.le_refl _) e c
 simpa [Kg,Km] using h
theorem Nd{t e:TypeId}{b n:Nat}{x hi:Operand}{rows:List (List D)}{m:Int}{k:IntKind}[c:Ch P t e n b](a:ev f x=some (.o (.d (.l rows))))(j:ev f hi=some (eI k m))(i:∀r∈rows,r.length=n)(q:0<=m)(p:m<=rows.length):AP P TB Z ⟨d,.slice t x none (some hi) none,ty,pos,af,g⟩ f σ nx (.o (.d (.l (rows.take m.toNat)))):=by
 have h:=UQ (P:=P) (TB:=TB) (Z:=Z) (d:=d) (ty:=ty) (pos:=pos) (af:=af) (g:=g) (σ:=σ) (nx:=nx) (t:=t) (x:=x) (lo:=none) (hi:=some hi) (l:=none) (h:=some (k,m)) a rfl (by simp [Ut,j]) i (Int.le_refl _) q p
 simpa [Kg,Km] using h
end
end
section
variable {P:Program}{TB:Bg}{Z:Ctx}{d:Option Tmp}{ty:TypeId}{pos:String}{af:Array Edge}{g:Option (Nat×Bool)}{f:Env}{σ:Ab}{nx:Nat}
variable {K:E->Ab->Nat->Prop}
theorem IC{t:TypeId}{z:List Value}{fl:List (Nat×Nat)}{parts:Array (Nat×Operand)}{es:List E}{qs:List (Nat×List C)}[N:BQ P t z][T:IW P t fl](p k e q k' e':Nat)(M:z[p]? = some (.slice none 0 0))(m:z[q]? = some (.slice none 0 0))(S:p≠q)(I:Hz f (parts.toList.map (·.2))=some es)(R:Gl fl parts.toList es=some qs)
 (A:z.all Mr=true) (B:(qs.all λx=>Nat.ble (x.1+x.2.length) z.length)=true) (hK:K (.a (BA qs (((z.map zC).set p (.arr nx k 0 0)).set q (.arr (nx+1) k' 0 0)))) ((nx+1,.cells e' k' [])::(nx,.cells e k [])::σ) (nx+2)):BH P TB Z ⟨d,.build t parts,ty,pos,af,g⟩ f σ nx K:=
 C7 λV X h1 h2 h3=>by
  subst h3;obtain⟨i,zv,hi,s,l⟩:=IU N.out;obtain⟨G,L⟩:=h2.alloc (c:=0) (nl:=True) (w:=V.w) (ob:=.cells e k []) rfl rfl rfl rfl (bJ _) (λ_ _=>rfl) (.inl ⟨by simp [Ai],rfl⟩);obtain⟨F,J⟩:=G.alloc (c:=0) (nl:=True) (w:=V.w) (ob:=.cells e' k' []) rfl rfl rfl rfl (bJ _) (λ_ _=>rfl) (.inl ⟨by simp [Ai],rfl⟩);have r:=L.trans J;have H:=EA (V:=Ai (Ai V V.w.heap.size 0 True V.w) V.w.heap.size 0 True V.w) (X:=X) parts.toList es qs (λx y e U=>(h1.get (by simp only [Op.operands];simpa using y) U).ext r) I R
  have u:Cy (Ai (Ai V V.w.heap.size 0 True V.w) V.w.heap.size 0 True V.w) (((z.map zC).set p (.arr V.nx k 0 0)).set q (.arr (V.nx+1) k' 0 0)) zv.cells:=by
   refine⟨by rw [dW,dW,bK,<-l];simp,λj c v h Q=>?_⟩
   have b:z[j]? = some v:=by rw [<-l,cU];exact Q
   by_cases n:q=j
   ·subst n
    rw [m] at b
    injection b with b
    subst b;rw [eb (by rw [dW,bK];exact(am.1 m).1)] at h
    injection h with h
    subst h;exact AA.nil (by simp [Ai]) (by simp [Ai])
   ·rw [dN n] at h
    by_cases o:p=j
    ·subst o
     rw [M] at b
     injection b with b
     subst b;rw [eb (by rw [bK];exact(am.1 M).1)] at h
     injection h with h
     subst h;exact AA.nil (by simp [Ai];omega) (by simp [Ai])
    ·rw [dN o,bG,b] at h
     injection h with h
     subst h;exact Lg (bH.1 A v (bm b))
  obtain⟨cells,h4,h5⟩:=HA _ _ _ _ H u (λx y=>by rw [dW,dW,bK];exact NI _ _ B x y);have hb:=run_build (P:=P) (X:=X) (parts:=parts) (V:=V) hi s T.out h4;refine⟨.agg cells,_,_,_,?_,r,F,(show A1 _ (.a _) _ from ⟨cells,rfl,h5⟩),hK⟩
  show ((do let v <-Instr.build t (parts.map λ(i,x)=>(i,X x));pure (Go.Next.value v):Sem Go.Next)).run P V.w=_
  simp only [bV,hb,bQ];rfl
end
end Go.Am
namespace Go.Am
open Go Go.Proofs
instance:Vo Tryz.prog 79:=⟨by kernel_rfl⟩
end Go.Am
namespace Go.Am
open Go
set_option linter.unusedVariables false
def ZT:Bool×List C->Option E
 | (false,[c])=>some (.o c)
 | (true,cs)=>some (.a cs)
 | _=>none
def Qm(f:Env)(σ:Ab)(t:Tmp)(ag:Bool)(n:Nat):Option (Bool×List C):=match f t with
 | some (.o (.d (.p cs)))=>match Nat.ble n cs.length with
  | true=>some (ag,(cs.take n).map .d)
  | false=>none
 | some (.o (.ptr id k i j))=>match look σ id with
  | some (.cells _ k' rows)=>match Nat.beq k k',nth rows i with
   | true,some r=>match Nat.ble (j+n) r.length with
    | true=>some (ag,(r.drop j).take n)
    | false=>none
   | _,_=>none
  | _=>none
 | _=>none
def RO(T:List (Nat×TI))(f:Env)(σ:Ab):ResultVar->Option (Bool×List C)
 | .tmp t=>match f t with
  | some e=>Ol e
  | none=>none
 | .cell t T'=>match (GG T T').ld with
  | some (true,n)=>Qm f σ t true n
  | some (false,1)=>Qm f σ t false 1
  | _=>none
def RP(T:List (Nat×TI))(f:Env)(σ:Ab):List ResultVar->Option (List (Bool×List C))
 | []=>some []
 | r::rs=>match RO T f σ r,RP T f σ rs with
  | some x,some xs=>some (x::xs)
  | _,_=>none
def TK(T:List (Nat×TI))(rs:Array ResultVar)(f:Env)(σ:Ab):Option E:=match rs.toList with
 | []=>some (.t [])
 | [r]=>match RO T f σ r with
  | some x=>ZT x
  | none=>none
 | rs=>match rs.length,RP T f σ rs with
  | 2,some xs=>some (.t xs)
  | 3,some xs=>some (.t xs)
  | 4,some xs=>some (.t xs)
  | _,_=>none
def Sg(T:List (Nat×TI))(rs:Array ResultVar)(post:E->Ab->Nat->Prop):Exit->Env->Ab->Nat->Prop
 | .ret,f,σ,nx|.normal,f,σ,nx=>∃x,TK T rs f σ=some x/\post x σ nx
 | _,_,_,_=>False
section
variable {P:Program}{TB:Bg}{Z:Ctx}{σ:Ab}
theorem LM{V:View}{f:Env}{a:Act}{t:Tmp}{T':TypeId}{ag:Bool}{n:Nat}{x:Bool×List C}(hi:Inv TB Z V σ)(G:Dl P T' ag n)(M:ag=false->n=1)(S:CP V f a.tmps)(h:Qm f σ t ag n=some x) :
 ∃v,((do loadVar T' (<-asAddr (a.tmps.getD t undef))):Sem Value).run P V.w=.ok v V.w/\Jj V x v:=by
 have key : ∃ (b o:Nat) (cs:List C) (vs:Nat->Value),a.tmps.getD t undef=.pointer (some ⟨b,o,none⟩)/\x=(ag,cs)/\cs.length=n/\∀(q:Nat) (c:C),cs[q]? = some c->V.w.cell? ⟨b,o+q,none⟩=some (vs q)/\AA V c (vs q):=by
  unfold Qm at h;split at h
  ·rename_i ds I
   split at h
   ·rename_i u
    have u:=bn u
    injection h with h
    subst h;have m:AA V (.d (.p ds)) (a.tmps.getD t undef):=S t _ I;generalize a.tmps.getD t undef=T at m;obtain⟨m⟩:=m
    cases m with
    | @p _ b o vs hb z L=>
     refine⟨b,o,_,vs,rfl,rfl,by simp;omega,λq c g=>?_⟩;rw [bG,br] at g;obtain⟨dd,y,rfl⟩:=g;rw [bS] at y;split at y
     ·exact⟨z q dd y,.d (L q dd y)⟩
     ·cases y
   ·cases h
  ·rename_i id k i j I
   split at h
   ·rename_i T0 k' rows ho
    split at h
    ·rename_i r H Q
     have H:=bA H;subst H;split at h
     ·rename_i u
      have u:=bn u
      injection h with h
      subst h;rw [JG] at Q;have m:AA V (.ptr id k i j) (a.tmps.getD t undef):=S t _ I;generalize a.tmps.getD t undef=T at m
      cases m with
      | ptr hid B=>
       rcases hi.st.obj id _ ho with ⟨K,_⟩|⟨_,cur,K,h5,h6,h7,h8,h9⟩
       ·exact absurd K B
       ·refine⟨V.X id,i*k+j,_,λq=>cur.getD (i*k+j+q) undef,rfl,rfl,by simp;omega,λq c g=>?_⟩
        rw [bS] at g;split at g
        ·rw [bX] at g
         obtain⟨v,s,N⟩:=h9 i r (j+q) c Q g;rw [<-cy] at s
         have e:cur.getD (i*k+j+q) undef=v:=by simp [s]
         dsimp only;rw [e];exact⟨by simp [World.cell?,K,s],N⟩
        ·cases g
     ·cases h
    ·cases h
   ·cases h
  ·cases h
 obtain⟨b,o,cs,vs,U,rfl,l,J⟩:=key;rw [U]
 cases ag with
 | false=>
  have F:=M rfl;subst F
  match cs,l with
  | [c],_=>
   obtain⟨z,L⟩:=J 0 c rfl;refine⟨vs 0,?_,c,rfl,L⟩;rw [em] at z;simp [asAddr,loadVar,(Be G.out V.w).1,z,go_sem]
 | true =>
  refine⟨.agg ((List.range n).map λq=>vs q).toArray,?_,_,rfl,by simp [l],λj c v R A=>?_⟩
  ·have:(loadCells ⟨b,o,none⟩ n).run P V.w=.ok ((List.range n).map λq=>vs q).toArray V.w:=run_loadCells V.w _ n _ λq g=>by
    rw [Bi];exact(J q cs[q] (bt (by omega))).1
   unfold loadCells at this;simp [asAddr,loadVar,(Be G.out V.w).1,(Be G.out V.w).2,this,go_sem]
  ·have g:j < n:=by have:=(am.1 R).1;omega
   have:v=vs j:=by simpa [g] using A.symm
   subst this;exact(J j c R).2
theorem TJ[i:BY P]{V:View}{f:Env}{a:Act}{r:ResultVar}{x:Bool×List C}(hi:Inv TB Z V σ)(g:CP V f a.tmps)(h:RO i.T f σ r=some x) :
 ∃v,((match r with
  | .tmp t=>pure (a.tmps.getD t undef)
  | .cell b t=>do loadVar t (<-asAddr (a.tmps.getD b undef))):Sem Value).run P V.w=.ok v V.w/\Jj V x v:=by
 have c:=λt=>CJ (P:=P) t i.ok;unfold RO at h;split at h
 ·rename_i t
  split at h
  ·rename_i e j
   exact⟨_,by simp [go_sem],Eg h (g t e j)⟩
  ·cases h
 ·rename_i t T'
  split at h
  ·rename_i n d
   exact LM hi ((c T').I6 d) (λh=>(by cases h)) g h
  ·rename_i d
   exact LM hi ((c T').I6 d) (λ_=>rfl) g h
  ·cases h
theorem Vn{V:View}{x:Bool×List C}{e:E}{v:Value}(h:ZT x=some e)(a:Jj V x v):A1 V e v:=by
 unfold ZT at h;split at h
 ·injection h with h;subst h
  obtain⟨c,b,d⟩:=a;simp at b;subst b;exact d
 ·injection h with h;subst h;exact a
 ·cases h
theorem TL[m:BY P]{fn:Func}{V:View}{f:Env}{a:Act}{x:E}(hi:Inv TB Z V σ)(hE:CP V f a.tmps)(h:TK m.T fn.results f σ=some x):∃v,(results fn a.tmps).run P V.w=.ok v V.w/\A1 V x v:=by
 obtain⟨F,U,e⟩:∃F:ResultVar->Sem Value,results fn a.tmps=(do let vs <-fn.results.mapM F;pure (if h:vs.size=1 then vs[0] else .tuple vs))/\∀r x,RO m.T f σ r=some x->∃v,(F r).run P V.w=.ok v V.w/\Jj V x v:=
  ⟨λr=>match r with
   | .tmp t=>pure (a.tmps.getD t undef)
   | .cell b t=>do loadVar t (<-asAddr (a.tmps.getD b undef)),rfl,λr x S=>TJ hi hE S⟩
 have two:∀ {r:ResultVar} {rs:List ResultVar} {xs:List (Bool×List C)},RP m.T f σ (r::rs)=some xs->∃y ys,xs=y::ys/\RO m.T f σ r=some y/\RP m.T f σ rs=some ys:=by
  intro r rs xs h;unfold RP at h;split at h
  ·rename_i y ys k i
   injection h with h;subst h;exact⟨y,ys,rfl,k,i⟩
  ·cases h
 have nil:∀ {xs:List (Bool×List C)},RP m.T f σ []=some xs->xs=[]:=λh=>by injection h with h;exact h.symm
 have key:∀l:List ResultVar,fn.results=l.toArray->TK m.T l.toArray f σ=some x->∃v,(results fn a.tmps).run P V.w=.ok v V.w/\A1 V x v:=by
  intro l B h;rw [U,B];unfold TK at h;simp only at h
  match l with
  | []=>
   injection h with h;subst h
   exact⟨.tuple #[],by simp [go_sem],#[],rfl,rfl,λj x v c=>by simp at c⟩
  | [r]=>
   simp only at h;split at h
   ·rename_i y R
    obtain⟨v,k,i⟩:=e r y R;exact⟨v,by simp [k,go_sem],Vn h i⟩
   ·cases h
  | [L,K]=>
   simp only [cg,dV] at h;split at h
   ·rename_i xs _ d
    injection h with h;subst h
    obtain⟨J,ys,rfl,k,d⟩:=two d;obtain⟨I,ys,rfl,i,d⟩:=two d;have:=nil d;subst this;obtain⟨o,u,q⟩:=e _ _ k;obtain⟨n,s,p⟩:=e _ _ i;refine⟨.tuple #[o,n],by simp [u,s,go_sem],_,rfl,rfl,λj x v' c g=>?_⟩
    match j with
    | 0=>simp at c g;subst c;subst g;exact q
    | 1=>simp at c g;subst c;subst g;exact p
    | j+2=>simp at c
   ·omega
   ·omega
   ·cases h
  | [L,K,Q]=>
   simp only [cg,dV] at h;split at h
   ·omega
   ·rename_i xs _ d
    injection h with h;subst h
    obtain⟨J,ys,rfl,k,d⟩:=two d;obtain⟨I,ys,rfl,i,d⟩:=two d;obtain⟨M,ys,rfl,G,d⟩:=two d;have:=nil d;subst this;obtain⟨o,u,q⟩:=e _ _ k;obtain⟨n,s,p⟩:=e _ _ i;obtain⟨z,H,A⟩:=e _ _ G;refine⟨.tuple #[o,n,z],by simp [u,s,H,go_sem],_,rfl,rfl,λj x v' c g=>?_⟩
    match j with
    | 0=>simp at c g;subst c;subst g;exact q
    | 1=>simp at c g;subst c;subst g;exact p
    | 2=>simp at c g;subst c;subst g;exact A
    | j+3=>simp at c
   ·omega
   ·cases h
  | [L,K,Q,r4]=>
   simp only [cg,dV] at h;split at h
   ·omega
   ·omega
   ·rename_i xs _ d
    injection h with h;subst h
    obtain⟨J,ys,rfl,k,d⟩:=two d;obtain⟨I,ys,rfl,i,d⟩:=two d;obtain⟨M,ys,rfl,G,d⟩:=two d;obtain⟨y4,ys,rfl,h4,d⟩:=two d;have:=nil d;subst this;obtain⟨o,u,q⟩:=e _ _ k;obtain⟨n,s,p⟩:=e _ _ i;obtain⟨z,H,A⟩:=e _ _ G;obtain⟨N,e4,t4⟩:=e _ _ h4;refine⟨.tuple #[o,n,z,N],by simp [u,s,H,e4,go_sem],_,rfl,rfl,λj x v' c g=>?_⟩
    match j with
    | 0=>simp at c g;subst c;subst g;exact q
    | 1=>simp at c g;subst c;subst g;exact p
    | 2=>simp at c g;subst c;subst g;exact A
    | 3=>simp at c g;subst c;subst g;exact t4
    | j+4=>simp at c
   ·cases h
  | _::_::_::_::_::_=>
   simp only [cg] at h;cases h
 exact key fn.results.toList (by simp) (by simpa using h)
theorem AR.Tj [s:BY P] {g:FuncId} {fn:Func} {c:Code} {m:Nat} {σ:Ab} {nx:Nat} {args:List E} {post:E->Ab->Nat->Prop} (F:m<=nx) (r:P.funcs[g]? = some fn) (hb:fn.body=some c) (f:(fn.name == "runtime.NumGoroutine")=false)
 (j:args.length<=fn.ntmps) (h:∀Z:Ctx,Z.V.nx=m->Al P TB Z fn.ntmps c (Sg s.T fn.results post) (look (Br 0 args)) σ nx):AR P TB g m σ nx args post:=by
 refine⟨⟨fn,r,f,by rw [hb];rfl⟩,?_⟩;intro V vs S n ha;refine calls_of_wp r hb ?_
 have H:vs.size<=fn.ntmps:=by rw [ha.1];exact j
 have hi:Inv TB (Dj V (IA V m) σ S) V σ:=
  ⟨rfl,rfl,rfl,λ_ _ _=>rfl,n.iLt,λ_ h=>.inl h,Qx (by rw [n.nx];exact F),n.st,λid o B q b hb=>.inr (.inl ⟨id,o,B,q,hb⟩),n.tabs,⟨S,n.hid,λb hb=>.inl hb,λb hb=>.inr (.inr hb)⟩⟩
 have z:Bv TB (Dj V (IA V m) σ S) fn.ntmps V (look (Br 0 args)) σ nx { tmps:=vs++Array.replicate (fn.ntmps - vs.size) undef,defers:=[] } := by
  refine⟨?_,?_,by simp;omega,hi,n.nx,rfl⟩
  ·intro t e p
   obtain⟨_,d⟩:=Bn args 0 t e p
   have d:args[t]? = some e:=by simpa using d
   have i:t < vs.size:=by rw [ha.1];exact(am.1 d).1
   have G:=ha.2 t e vs[t] d (bP i)
   simpa [bU i,i] using G
  ·intro t e p
   obtain⟨_,d⟩:=Bn args 0 t e p
   have d:args[t]? = some e:=by simpa using d
   have:=(am.1 d).1;omega
 refine wp_mono (h (Dj V (IA V m) σ S) rfl V _ z) ?_;rintro e a' w' ⟨V',f',σ',rfl,k,a⟩
 have fin:(∃x,TK s.T fn.results f' σ'=some x/\post x σ' V'.nx)->a'.defers=[]/\∃v,(results fn a'.tmps).run P V'.w=.ok v V'.w/\∃V'' v' x σ'',Ending.returned v=.returned v'/\V''.w=V'.w/\Inv TB (Dj V (IA V m) σ S) V'' σ''/\A1 V'' x v'/\post x σ'' V''.nx:=by
  rintro⟨x,u,A⟩;obtain⟨v,y,p⟩:=TL (P:=P) a.inv a.env u;exact⟨a.defers,v,y,V',v,x,σ',rfl,rfl,a.inv,p,A⟩
 cases e with
 | normal=>exact fin k
 | ret=>exact fin k
 | exit id=>exact k.elim
 | goto l=>exact k.elim
 | panic ch=>exact k.elim
 | outgrown=>exact k.elim
theorem eG [d:BY P] {g:FuncId} {fn:Func} {c:Code} {nx:Nat} {args:List E} {post:E->Ab->Nat->Prop} (b:P.funcs[g]? = some fn) (hb:fn.body=some c) (a:(fn.name == "runtime.NumGoroutine")=false)
 (ha:Nat.ble args.length fn.ntmps=true) (h:∀Z:Ctx,Z.V.nx=nx->Al P TB Z fn.ntmps c (Sg d.T fn.results post) (look (Br 0 args)) σ nx):Spec P TB g σ nx args post:=
 AR.ED (AR.Tj (bJ _) b hb a (bn ha) h)
end
section
variable {P:Program}{TB:Bg}{Z:Ctx}{d:Option Tmp}{ty:TypeId}{pos:String}{af:Array Edge}{g:Option (Nat×Bool)}{f:Env}{σ:Ab}{nx:Nat}
variable {K:E->Ab->Nat->Prop}
theorem Nb{t e:TypeId}{k b:Nat}{z:List Value}[j:Ch P t e k b][h:BQ P e z](a:z.length=k)(c:z.all Mr=true):AP P TB Z ⟨d,.buildSlice t 0 #[],ty,pos,af,g⟩ f σ nx .e:=
 IF λV X o n=>by
  obtain⟨cur,m,q,p⟩:=Fu (es:=[]) j.out h.out a c o rfl rfl rfl rfl (by simp) (by simp);have i:∀b,b < V.w.heap.size->(V.w.alloc (.cells cur e)).heap[b]? = V.w.heap[b]?:=λb hb=>AQ V.w _ b hb;obtain⟨hi,l⟩:=R.Inv.grow n (w:=V.w.alloc (.cells cur e)) rfl rfl rfl (by simp) i;exact⟨_,{ V with w:=V.w.alloc (.cells cur e) },m,l,hi,rfl,⟨_,rfl⟩⟩
theorem RE{t e:TypeId}{k b:Nat}{z:List Value}{s x:Operand}{news:List (List C)}{ex:E}[hl:Ch P t e k b][hz:BQ P e z]
 (hs:ev f s=some .e) (hx:ev f x=some ex) (L:Ic σ k ex=some news) (S:∀r∈news,r.length=k) (hzk:z.length=k) (hb0:0 < b) (hb:news.length*b<=140737488355328)
 (hK0:news=[]->∀b,∃y,(∀V:View,A1 V y (.slice b 0 0))/\K y σ nx) (hK:news≠[]->K (.o (.arr nx k 0 news.length)) ((nx,.cells e k news)::σ) (nx+1)):BH P TB Z ⟨d,.call ⟨.builtin .append,#[s,x],#[t,t]⟩,ty,pos,af,g⟩ f σ nx K:=
 C7 λV X h1 h2 h3=>by
  subst h3;obtain⟨i,hu,hi,hsz,hby⟩:=EC hl.out;have I:=hz.out;simp only [RZ,hi,cT,br] at I;obtain⟨zv,H,hzz⟩:=I
  have hzc:zv.cells.size=k:=by rw [<-hzk,<-hzz];simp
  obtain⟨sb,hsv⟩:=h1.get (x:=s) (by simp [Op.operands,Call.operands]) hs;have hxr:=QR h2 L S (h1.get (x:=x) (by simp [Op.operands,Call.operands]) hx)
  have l:∀w,(execOp X ⟨d,.call ⟨.builtin .append,#[s,x],#[t,t]⟩,ty,pos,af,g⟩).run P w=((Builtin.append_ #[t,t] ty #[X s,X x]).run P w).andThen λv w'=>.ok (.value v) w':=λw=>by
   simp only [execOp,resolve,invoke,builtin,eX,cH,dY,pure_bind,bind_pure_comp,ea]
  have R:news.length<=maxLen:=by
   have:news.length<=news.length*b:=cR _ hb0;unfold maxLen;omega
  have T:((news.length:Nat):Int)<=9223372036854775807:=by
   have:news.length<=news.length*b:=cR _ hb0;omega
  rw [hsv] at l;generalize hvx:X x=vx at *;have A:=λh=>hK0 h sb;have nothing:news=[]->∀v,(Builtin.append_ #[t,t] ty #[.slice sb 0 0,vx]).run P V.w=.ok (.slice sb 0 0) V.w->v=Value.slice sb 0 0->
   ∃v V' xx σ',(execOp X ⟨d,.call ⟨.builtin .append,#[s,x],#[t,t]⟩,ty,pos,af,g⟩).run P V.w=.ok (.value v) V'.w/\Ext V V'/\Inv TB Z V' σ'/\A1 V' xx v/\K xx σ' V'.nx:=λhn v B _=>
   let ⟨y,k1,k2⟩:=A hn
   ⟨.slice sb 0 0,V,y,σ,by rw [l,B];rfl,Ext.refl _,h2,k1 V,k2⟩
  rcases hxr with ⟨rfl,Q⟩|⟨xa,xc,xv,rfl,J,m⟩
  ·exact nothing Q _ (DE hu hi V.w sb 0 0 (bJ _) ty) rfl
  ·have n:(Cn news.length k xv).length=news.length*i.size:=by rw [Cf,hsz]
   have p:∀j u,(Cn news.length k xv)[j]? = some u->V.w.cell? (xa.add j)=some u:=by
    intro q u hq;obtain⟨a,b,rfl,ha,hb,rfl⟩:=Iv hq
    have hbl:b < news[a].length:=by rw [J _ (cx ha)];exact hb
    exact(m a news[a] b news[a][b] (bt ha) (bt hbl)).1
   rcases cD news.length with F|F
   ·have N:news=[]:=bM.1 F
    refine nothing N _ ?_ rfl;subst N;cases sb<;>simp [Builtin.append_,run_underlying hu,sizeOf,typeInfo,hi,Builtin.lenOf,Builtin.firstCells,loadCells,loadCellsFrom,storeCells,go_sem]
   ·have hne:news≠[]:=λh=>by subst h;simp at F
    have M:(Builtin.append_ #[t,t] ty #[.slice sb 0 0,.slice (some xa) news.length xc]).run P V.w=.ok (.slice (some ⟨V.w.heap.size,0,none⟩) news.length (grownCap V.w news.length 0 e))
     (V.w.drew.alloc (.cells ((Cn news.length k xv).toArray++Builtin.zeroCells zv.cells (grownCap V.w news.length 0 e - news.length)) e)):=by
     cases sb with
     | none=>
      have B:=run_append_nil (P:=P) V.w t ty e i zv hu hi H xa news.length xc _ n p F (by omega) (by rw [hby];omega);rw [B]
     | some sa=>
      have B:=run_append_grow (P:=P) V.w t ty e i zv hu hi H sa 0 0 [] (by simp) (λj v hj=>by simp at hj) xa news.length xc _ n p (by omega) (by simpa using T) (by rw [hby];exact growslice_fits (by omega) (by simpa using hb))
      simpa using B
    have G:=grownCap_ge V.w news.length 0 e;have hcm:=grownCap_le_maxLen V.w news.length 0 e R;generalize grownCap V.w news.length 0 e=cap' at *
    let w':=V.w.drew.alloc (.cells ((Cn news.length k xv).toArray++Builtin.zeroCells zv.cells (cap' - news.length)) e)
    have ee:Ext V (Ai V V.w.heap.size cap' False w'):=C8 (by simp [w']) λb hb=>AQ V.w.drew _ b (h2.iLt b hb)
    obtain⟨hi',he'⟩:=h2.alloc (c:=cap') (nl:=False) (w:=w') (ob:=.cells e k news) rfl rfl rfl rfl (by simp [w']) (λb hb=>AQ V.w.drew _ b hb) (by
     have B:(Ai V V.w.heap.size cap' False w').X V.nx=V.w.heap.size:=by simp [Ai]
     have U:(Ai V V.w.heap.size cap' False w').cap V.nx=cap':=by simp [Ai]
     refine .inr ⟨by simp [Ai],(Cn news.length k xv).toArray++Builtin.zeroCells zv.cells (cap' - news.length),?_,?_,?_,?_,S,?_⟩
     ·have:=BB V.w.drew (.cells ((Cn news.length k xv).toArray++Builtin.zeroCells zv.cells (cap' - news.length)) e)
      rw [B];exact this
     ·rw [U]
      simp only [Array.size_append,eL,Cf,Builtin.zeroCells,Array.size_map,Array.size_range,hzc,<-bY];congr 1;omega
     ·rw [U];exact G
     ·rw [U];exact hcm
     ·intro a r j c hi hj
      have hil:=(am.1 hi).1
      have hjl:j < k:=by rw [<-J r (bm hi)];exact(am.1 hj).1
      have h10:=Iu (vs:=xv) hil hjl;refine⟨xv a j,?_,(m a r j c hi hj).2.ext ee⟩;have hlt:=(am.1 h10).1;rw [bU (by simpa using hlt)]
      simpa using h10)
    refine⟨.slice (some ⟨V.w.heap.size,0,none⟩) news.length cap',_,_,(V.nx,.cells e k news)::σ,?_,he',hi',?_,hK hne⟩
    ·rw [l,M];rfl
    ·have:=@AA.arr (Ai V V.w.heap.size cap' False w') V.nx k 0 news.length (by simp [Ai]) (by simp [Ai]) (by simp [Ai];exact G)
     have B:(Ai V V.w.heap.size cap' False w').X V.nx=V.w.heap.size:=by simp [Ai]
     have U:(Ai V V.w.heap.size cap' False w').cap V.nx=cap':=by simp [Ai]
     rw [B,U,dh,eY] at this;exact this
theorem Gw{t e:TypeId}{k b:Nat}{z:List Value}{s x:Operand}{news:List (List C)}{ex:E}[u:Ch P t e k b][q:BQ P e z]
 (n:ev f s=some .e) (m:ev f x=some ex) (a:Ic σ k ex=some news) (i:∀r∈news,r.length=k) (c:z.length=k) (j:0 < b) (hb:news.length*b<=140737488355328)
 (l:news=[]->K .e σ nx) (p:news≠[]->K (.o (.arr nx k 0 news.length)) ((nx,.cells e k news)::σ) (nx+1)):BH P TB Z ⟨d,.call ⟨.builtin .append,#[s,x],#[t,t]⟩,ty,pos,af,g⟩ f σ nx K:=RE n m a i c j hb (λh b=>⟨.e,λV=>⟨b,rfl⟩,l h⟩) p
end
section
variable {P:Program}{TB:Bg}{Z:Ctx}{N:Nat}
theorem Al.CR{c:Code}{Q:Exit->Env->Ab->Nat->Prop}{L0 Lk:List (Nat×E)}{σ Sk:Ab}{nx:Nat}(ks is:List Nat)(d:Ki L0 ks=some Lk)(hi:Qt σ is=some Sk)(v:List (Nat×E))(s:Ab)(l:List Nat)
 (a:(∀i,i < Z.V.nx->l[i]? = some i)/\l.Nodup) (b:CC (nm l nx) (look L0) (v++Lk)/\AL (nm l nx) σ (s++Sk)) (h:Al P TB Z N c Q (look (v++Lk)) (s++Sk) l.length):Al P TB Z N c Q (look L0) σ nx:=
 Al.names l (v++Lk) (s++Sk) a.1 a.2 b.1 b.2 h
end
end Go.Am
