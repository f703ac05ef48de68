/-
  At the end of a call: all that it made becomes data.
-/
import Derived.Test.YtdipaikojjjebaaGreatDoorPart14
import Derived.Test.YtdipaikojjjebaaGreatDoorPart13
set_option linter.all false
namespace Go.Am
open Go
inductive FZ (σ:Ac):C->D->Prop
 | d {x:D}:FZ σ (.d x) x
 | fn {g:FuncId}:FZ σ (.fn g []) (.v (.func (.func g) #[] #[]))
 | arr {id k off len:Nat} {T:TypeId} {rows:List (List C)} {ds:List (List D)} {rs:Nat->List C} {cs:Nat->Nat->C}:look σ id=some (.cells T k rows)->off+len<=rows.length->ds.length=len->
  (∀i r',ds[i]?=some r'->rows[off+i]?=some (rs i)/\(rs i).length=r'.length)->(∀i j r' x,ds[i]?=some r'->r'[j]?=some x->(rs i)[j]?=some (cs i j))->
  (∀i j r' x,ds[i]?=some r'->r'[j]?=some x->FZ σ (cs i j) x)->FZ σ (.arr id k off len) (.l ds)
 | ptr {id k i j:Nat} {T:TypeId} {rows:List (List C)} {r:List C} {ds:List D} {cs:Nat->C}:look σ id=some (.cells T k rows)->rows[i]?=some r->(∀q x,ds[q]?=some x->r[j+q]?=some (cs q))->(∀q x,ds[q]?=some x->FZ σ (cs q) x)->FZ σ (.ptr id k i j) (.p ds)
 | sld {id:Nat} {T:TypeId} {l:List (Value×List Value)} {v:Value} {row:List Value}:look σ id=some (.sld T l)->(v,row)∈l->FZ σ (.d (.v v)) (.l (row.map λx=>[.v x]))
 | nl {b:Option Addr}:FZ σ (.d (.v (.slice b 0 0))) (.l [])
inductive Eb (σ:Ac):List C->List D->Prop
 | nil:Eb σ [] []
 | cons {c:C} {d:D} {cs:List C} {ds:List D}:FZ σ c d->Eb σ cs ds->Eb σ (c::cs) (d::ds)
theorem Eb.get{σ:Ac}{cs:List C}{ds:List D}(h:Eb σ cs ds):cs.length=ds.length/\∀(j:Nat) x,ds[j]?=some x->∃c,cs[j]?=some c/\FZ σ c x:=by
 induction h with
 | nil=>exact⟨rfl,λj x h=>by simp at h⟩
 | @cons c d cs ds e _ b=>
  refine⟨by simp[b.1],λj x a=>?_⟩
  cases j with
  | zero=>simp at a;subst a;exact⟨c,rfl,e⟩
  | succ j=>exact b.2 j x (by simpa using a)
theorem Eb.refl{σ:Ac}:∀(ds:List D),Eb σ (ds.map .d) ds
 | []=>.nil
 | d::ds=>.cons .d (Eb.refl ds)
theorem FZ.rows{σ:Ac}{id k len:Nat}{T:TypeId}{rows:List (List C)}{ds:List (List D)}(n:look σ id=some (.cells T k rows))(m:ds.length=len)(o:rows.length=len)(h:∀(i:Nat) (r':List D),ds[i]?=some r'->∃r,rows[i]?=some r/\Eb σ r r'):FZ σ (.arr id k 0 len) (.l ds):=by
 refine .arr (rs:=λi=>(rows[i]?).getD []) (cs:=λi j=>(((rows[i]?).getD [])[j]?).getD (.d (.l []))) n (by omega) m (λi r' hi=>?_) (λi j r' x hi e=>?_) (λi j r' x hi e=>?_)
 ·obtain⟨r,b,a⟩:=h i r' hi
  rw[ms,b];exact⟨rfl,a.get.1⟩
 ·obtain⟨r,b,a⟩:=h i r' hi
  obtain⟨c,f,g⟩:=a.get.2 j x e;simp[b,f]
 ·obtain⟨r,b,a⟩:=h i r' hi
  obtain⟨c,f,g⟩:=a.get.2 j x e;simp[b,f,g]
theorem FZ.full{σ:Ac}{id k len:Nat}{T:TypeId}{rows:List (List C)}{ds:List (List D)}(c:look σ id=some (.cells T k rows))(a:rows=ds.map (λr=>r.map .d))(b:rows.length=len):FZ σ (.arr id k 0 len) (.l ds):=by
 refine .rows c (by rw[<-b,a];simp) b λi r' hi=>⟨r'.map .d,?_,Eb.refl _⟩
 rw[a];simp[hi]
theorem FZ.box{σ:Ac}{id k:Nat}{T:TypeId}{r:List C}{ds:List D}(f:look σ id=some (.cells T k [r]))(h:Eb σ r ds):FZ σ (.ptr id k 0 0) (.p ds):=by
 refine .ptr (cs:=λq=>(r[q]?).getD (.d (.l []))) f rfl (λq x a=>?_) (λq x a=>?_)
 ·obtain⟨c,b,e⟩:=h.get.2 q x a
  rw[ms,b];rfl
 ·obtain⟨c,b,e⟩:=h.get.2 q x a
  simp[b,e]
inductive EZ (σ:Ac):E->E->Prop
 | A0 {e:E}:e.Gz=true->EZ σ e e
 | o {c:C} {d:D}:FZ σ c d->EZ σ (.o c) (.o (.d d))
 | a {cs:List C} {ds:List D}:Eb σ cs ds->EZ σ (.a cs) (.a (ds.map .d))
def dB(σ:Ac)(f:Env):List (Nat×E)->Prop
 | []=>True
 | (t,e')::L=>(∃e,f t=some e/\EZ σ e e')/\dB σ f L
theorem dB.get{σ:Ac}{f:Env}:∀ {L:List (Nat×E)},dB σ f L->∀t e',look L t=some e'->∃e,f t=some e/\EZ σ e e'
 | [],_,t,e,h=>by cases h
 | (k,x)::L,a,t,e,h=>by
  rw[AG]at h;by_cases hk:k=t
  ·rw[if_pos hk]at h;injection h with h;subst h;subst hk;exact a.1
  ·rw[if_neg hk]at h;exact dB.get a.2 t e h
def Pa(V:View)(σ:Ac):View:={ V with I:=λb=>V.I b\/∃id o,look σ id=some o/\¬V.nl id/\FR V id o b }
theorem OF{V:View}{σ:Ac}:Ext V (Pa V σ):=⟨λ_ h=>.inl h,λ_ _=>rfl,lc _,λ_ _=>rfl,λ_ _=>rfl,λ_ _=>Iff.rfl,lc _⟩
section
variable {P:Program}{TB:BJ}{U:Ctx}{N:Nat}{σ:Ac}
theorem Lp.data{I:Nat->Prop}{w:World}{T:TypeId}{v:Value}{row:List Value}(h:Lp w T v row)(hI:∀b,KN v b->I b):C9 I w (.l (row.map λx=>[.v x])) v:=by
 rcases h with ⟨rfl,rfl⟩|⟨b,cap,cur,rfl,p,q,o,n,g⟩
 ·exact .nil
 ·have m:row.length=(row.map λx=>[D.v x]).length:=by simp
  have f:∀(i:Nat) (r:List D) (j:Nat) (d:D),(row.map λx=>[D.v x])[i]?=some r->r[j]?=some d->j=0/\∃x,row[i]?=some x/\d=.v x:=λi r j d hi c=>by
   simp only[f6,d7]at hi;obtain⟨x,a,rfl⟩:=hi
   have e:j=0:=by have:=(am.1 c).1;simp at this;omega
   subst e;simp at c;exact⟨rfl,x,a,c.symm⟩
  rw[m];refine .l (k:=1) (vs:=λi _=>(row[i]?).getD undef) (hI b ⟨_,_,_,rfl⟩) (by simpa using o) n (λi r hi=>?_) (λi r j d hi c=>?_) (λi r j d hi c=>?_)
  ·simp only[f6,d7]at hi
   obtain⟨x,a,rfl⟩:=hi;rfl
  ·obtain⟨rfl,x,a,rfl⟩:=f i r j d hi c
   simp[World.cell?,p,a,(g i x a).1]
  ·obtain⟨rfl,x,a,rfl⟩:=f i r j d hi c
   simp only[a,sr];exact .v (g i x a).2
theorem FZ.rel{V:View}(hi:Inv TB U V σ){c:C}{d:D}(h:FZ σ c d):∀ {v:Value},AP V c v->C9 (Pa V σ).I V.w d v:=by
 induction h with
 | d=>intro v t;cases t with|d h=>exact h.ext (V:=V) (V':=Pa V σ) OF
 | @sld id T l v row y M=>
  intro v' t;have J:v'=v:=AP.val t;subst J;have u:=hi.st.obj id _ y;exact(u.2.2 _ M).data λb hb=>.inr ⟨id,_,y,u.1,⟨_,M,hb⟩⟩
 | @nl b=>
  intro v' t;have J:v'=_:=AP.val t;subst J;cases b
  ·exact .nil
  ·exact .e (rQ _)
 | fn =>
  intro v t
  cases t with
  | @fn f cap vs u _=>
   have:vs = #[]:=sS (by simpa using u);subst this;exact .v rfl
 | @arr id k off len T rows ds rs cs y R L u Z _ H=>
  intro v t
  cases t with
  | nil Q P=>
   have:ds=[]:=pp.1 L;subst this;exact .nil
  | arr Q s P=>
   rcases hi.st.obj id _ y with ⟨z,_⟩|⟨_,cur,z,Y,X,S,N,A⟩
   ·exact absurd z s
   ·have a:∀(i:Nat) (r:List D) (j:Nat) (x:D),ds[i]?=some r->r[j]?=some x->∃v,cur[(off+i)*k+j]?=some v/\C9 (Pa V σ).I V.w x v:=λi r j x m F=>by
     obtain⟨v,g,n⟩:=A (off+i) (rs i) j (cs i j) (u i r m).1 (Z i j r x m F);exact⟨v,g,H i j r x m F n⟩
    rw[<-L]at P |-;refine .l (b:=V.ρ id) (o:=off*k) (k:=k) (vs:=λi j=>cur.getD ((off+i)*k+j) undef) (.inr ⟨id,_,y,s,rfl⟩) (by omega) (by omega) (λi r m=>?_) (λi r j x m F=>?_) (λi r j x m F=>?_)
    ·have G:=u i r m
     rw[<-G.2];exact N _ (co G.1)
    ·obtain⟨v,g,_⟩:=a i r j x m F
     have e:off*k+i*k+j=(off+i)*k+j:=by rw[ry]
     rw[e];simp[World.cell?,z,g]
    ·obtain⟨v,g,n⟩:=a i r j x m F
     have:cur.getD ((off+i)*k+j) undef=v:=by simp[g]
     simp only[this];exact n
 | @ptr id k i j T rows r ds cs y K u _ H=>
  intro v t
  cases t with
  | ptr Q s=>
   rcases hi.st.obj id _ y with ⟨z,_⟩|⟨_,cur,z,Y,X,S,N,A⟩
   ·exact absurd z s
   ·have a:∀(q:Nat) (x:D),ds[q]?=some x->∃v,cur[i*k+j+q]?=some v/\C9 (Pa V σ).I V.w x v:=λq x B=>by
     obtain⟨v,g,n⟩:=A i r (j+q) (cs q) K (u q x B);exact⟨v,by rw[rz];exact g,H q x B n⟩
    refine .p (b:=V.ρ id) (o:=i*k+j) (vs:=λq=>cur.getD (i*k+j+q) undef) (.inr ⟨id,_,y,s,rfl⟩) (λq x B=>?_) (λq x B=>?_)
    ·obtain⟨v,g,_⟩:=a q x B
     simp[World.cell?,z,g]
    ·obtain⟨v,g,n⟩:=a q x B
     have:cur.getD (i*k+j+q) undef=v:=by simp[g]
     simp only[this];exact n
theorem EZ.rel{V:View}(hi:Inv TB U V σ){e e':E}(h:EZ σ e e'){v:Value}(b:Bu V e v):Bu (Pa V σ) e' v:=by
 cases h with
 | A0=>exact b.ext OF
 | o h=>exact AP.d (V:=Pa V σ) (h.rel hi b)
 | @a cs ds h=>
  obtain⟨vs,rfl,m,l⟩:=b;refine⟨vs,rfl,by rw[m,h.get.1];simp,λj c v f b=>?_⟩;simp only[f6,d7]at f;obtain⟨x,g,rfl⟩:=f;obtain⟨c,k,i⟩:=h.get.2 j x g;exact AP.d (V:=Pa V σ) (i.rel hi (l j c v k b))
theorem Aj.settle{c:Code}{Q:Exit->Env->Ac->Nat->Prop}{f:Env}{nx:Nat}(L:List (Nat×E))(k:dB σ f L)(h:Aj P TB U N c Q (look L) [] nx):Aj P TB U N c Q f σ nx:=by
 intro V a d;refine h (Pa V σ) a ⟨λt x e=>?_,λt x e=>?_,d.size,?_,d.nx,d.defers⟩
 ·obtain⟨y,j,n⟩:=k.get t x e
  exact n.rel d.inv (d.env t y j)
 ·obtain⟨y,j,_⟩:=k.get t x e
  exact d.lt t y j
 ·have hi:=d.inv
  refine⟨hi.os,hi.tape,hi.output,hi.old,?_,?_,hi.ext.trans OF,IY,λid o l=>(by cases l),λx e=>⟨.inl (hi.tabs x e).1,(hi.tabs x e).2⟩,hi.hid.same rfl (λ_ h=>.inl h) (λb hb=>hb.elim .inl λ⟨id,o,i,g,m⟩=>.inr ⟨id,o,i,g,m⟩) λb ⟨_,_,h,_⟩=>by cases h⟩
  ·rintro b (hb|⟨id,o,i,g,hb⟩)
   ·exact hi.iLt b hb
   ·exact(hi.st.obj id o i).blt g hb
  ·rintro b (hb|⟨id,o,i,g,hb⟩)
   ·exact hi.iNew b hb
   ·exact .inr (hi.live id o i g b hb)
theorem RZ{ids:List Nat}{L0:List (Nat×E)}:∀ {ks:List Nat} {Lk:List (Nat×E)},PG L0 ks=some Lk->Fg σ ids (look L0) Lk
 | [],Lk,h=>by injection h with h;subst h;trivial
 | k :: ks,Lk,h=>by
  unfold PG at h;split at h
  ·rename_i e l b a
   injection h with h
   subst h;exact⟨⟨e,b,.A0⟩,RZ a⟩
  ·cases h
theorem Fg.app{ids:List Nat}{f:Env}:∀ {L M:List (Nat×E)},Fg σ ids f L->Fg σ ids f M->Fg σ ids f (L++M)
 | [],_,_,h=>h
 | _::_,_,h,a=>⟨h.1,Fg.app h.2 a⟩
theorem Aj.IF{c:Code}{Q:Exit->Env->Ac->Nat->Prop}{L0 Lk:List (Nat×E)}{nx:Nat}(ids ks:List Nat)(hk:PG L0 ks=some Lk)(L:List (Nat×E))(a:Fg σ ids (look L0) L)(h:Aj P TB U N c Q (look (L++Lk)) (CS ids σ) nx):Aj P TB U N c Q (look L0) σ nx:=
 Aj.freeze ids (L++Lk) (a.app (RZ hk)) h
section
variable {d:Option Tmp}{ty:TypeId}{pos:String}{af:Array Edge}{g:Option (Nat×Bool)}{f:Env}{nx:Nat}
theorem FJ{t:TypeId}{x lo:Operand}{s:List UInt8}{m:Int}{k:IntKind}[ht:Dx P t](a:ev f x=some (eT s))(b:ev f lo=some (eI k m))(e:0<=m)(c:m<=s.length):A5 P TB U ⟨d,.slice t x (some lo) none none,ty,pos,af,g⟩ f σ nx (eT (s.drop m.toNat)):=by
 have h:=OX (P:=P) (TB:=TB) (U:=U) (d:=d) (ty:=ty) (pos:=pos) (af:=af) (g:=g) (σ:=σ) (nx:=nx) (t:=t) (x:=x) (lo:=some lo) (hi:=none) (l:=some (k,m)) (h:=none) a (by simp[dQ,b]) rfl e c (ux _)
 simpa[Nc,Nl]using h
theorem ZW{t:TypeId}{x hi:Operand}{s:List UInt8}{m:Int}{k:IntKind}[ht:Dx P t](a:ev f x=some (eT s))(b:ev f hi=some (eI k m))(e:0<=m)(c:m<=s.length):A5 P TB U ⟨d,.slice t x none (some hi) none,ty,pos,af,g⟩ f σ nx (eT (s.take m.toNat)):=by
 have h:=OX (P:=P) (TB:=TB) (U:=U) (d:=d) (ty:=ty) (pos:=pos) (af:=af) (g:=g) (σ:=σ) (nx:=nx) (t:=t) (x:=x) (lo:=none) (hi:=some hi) (l:=none) (h:=some (k,m)) a rfl (by simp[dQ,b]) (ux _) e c
 simpa[Nc,Nl]using h
theorem OY{t e:TypeId}{b n:Nat}{x hi:Operand}{rows:List (List D)}{m:Int}{k:IntKind}[c:CE P t e n b](a:ev f x=some (.o (.d (.l rows))))(j:ev f hi=some (eI k m))(i:∀r∈rows,r.length=n)(q:0<=m)(p:m<=rows.length):A5 P TB U ⟨d,.slice t x none (some hi) none,ty,pos,af,g⟩ f σ nx (.o (.d (.l (rows.take m.toNat)))):=by
 have h:=jJ (P:=P) (TB:=TB) (U:=U) (d:=d) (ty:=ty) (pos:=pos) (af:=af) (g:=g) (σ:=σ) (nx:=nx) (t:=t) (x:=x) (lo:=none) (hi:=some hi) (l:=none) (h:=some (k,m)) a rfl (by simp[dQ,j]) i (ux _) q p
 simpa[Nc,Nl]using h
end
end
def pY:Bool×List C->Option E
 | (false,[c])=>some (.o c)
 | (true,cs)=>some (.a cs)
 | _=>none
def Zl(f:Env)(σ:Ac)(t:Tmp)(ag:Bool)(n:Nat):Option (Bool×List C):=match f t with
 | some (.o (.d (.p cs)))=>match Nat.ble n cs.length with
  | true=>some (ag,(cs.take n).map .d)
  | false=>none
 | some (.o (.ptr id k i j))=>match look σ id with
  | some (.cells _ k' rows)=>match Nat.beq k k',nth rows i with
   | true,some r=>match Nat.ble (j+n) r.length with
    | true=>some (ag,(r.drop j).take n)
    | false=>none
   | _,_=>none
  | _=>none
 | _=>none
def cJ(T:List (Nat×TI))(f:Env)(σ:Ac):ResultVar->Option (Bool×List C)
 | .tmp t=>match f t with
  | some e=>X0 e
  | none=>none
 | .cell t T'=>match (KB T T').ld with
  | some (true,n)=>Zl f σ t true n
  | some (false,1)=>Zl f σ t false 1
  | _=>none
def cK(T:List (Nat×TI))(f:Env)(σ:Ac):List ResultVar->Option (List (Bool×List C))
 | []=>some []
 | r::rs=>match cJ T f σ r,cK T f σ rs with
  | some x,some xs=>some (x::xs)
  | _,_=>none
def gy(T:List (Nat×TI))(rs:Array ResultVar)(f:Env)(σ:Ac):Option E:=match rs.toList with
 | []=>some (.t [])
 | [r]=>match cJ T f σ r with
  | some x=>pY x
  | none=>none
 | rs=>match rs.length,cK T f σ rs with
  | 2,some xs=>some (.t xs)
  | 3,some xs=>some (.t xs)
  | 4,some xs=>some (.t xs)
  | _,_=>none
def dC(T:List (Nat×TI))(rs:Array ResultVar)(post:E->Ac->Nat->Prop):Exit->Env->Ac->Nat->Prop
 | .ret,f,σ,nx|.normal,f,σ,nx=>∃x,gy T rs f σ=some x/\post x σ nx
 | _,_,_,_=>False
section
variable {P:Program}{TB:BJ}{U:Ctx}{σ:Ac}
theorem RN{V:View}{f:Env}{a:Act}{t:Tmp}{T':TypeId}{ag:Bool}{n:Nat}{x:Bool×List C}(hi:Inv TB U V σ)(G:Fa P T' ag n)(L:ag=false->n=1)(R:Fh V f a.tmps)(h:Zl f σ t ag n=some x) :
 ∃v,((do loadVar T' (<-asAddr (a.tmps.getD t undef))):Sem Value).run P V.w=.ok v V.w/\On V x v:=by
 have key : ∃ (b o:Nat) (cs:List C) (vs:Nat->Value),a.tmps.getD t undef=.pointer (some ⟨b,o,none⟩)/\x=(ag,cs)/\cs.length=n/\∀(q:Nat) (c:C),cs[q]?=some c->V.w.cell? ⟨b,o+q,none⟩=some (vs q)/\AP V c (vs q):=by
  unfold Zl at h;split at h
  ·rename_i ds H
   split at h
   ·rename_i u
    have u:=ce u
    injection h with h
    subst h;have m:AP V (.d (.p ds)) (a.tmps.getD t undef):=R t _ H;generalize a.tmps.getD t undef=S at m;obtain⟨m⟩:=m
    cases m with
    | @p _ b o vs hb z K=>
     refine⟨b,o,_,vs,rfl,rfl,by simp;omega,λq c g=>?_⟩;rw[f6,d7]at g;obtain⟨dd,y,rfl⟩:=g;rw[rh]at y;split at y
     ·exact⟨z q dd y,.d (K q dd y)⟩
     ·cases y
   ·cases h
  ·rename_i id k i j H
   split at h
   ·rename_i T0 k' rows X
    split at h
    ·rename_i r hk N
     have hk:=i9 hk;subst hk;split at h
     ·rename_i u
      have u:=ce u
      injection h with h
      subst h;rw[OS]at N;have m:AP V (.ptr id k i j) (a.tmps.getD t undef):=R t _ H;generalize a.tmps.getD t undef=S at m
      cases m with
      | ptr Y B=>
       rcases hi.st.obj id _ X with ⟨J,_⟩|⟨_,cur,J,h5,h6,h7,h8,Z⟩
       ·exact absurd J B
       ·refine⟨V.ρ id,i*k+j,_,λq=>cur.getD (i*k+j+q) undef,rfl,rfl,by simp;omega,λq c g=>?_⟩
        rw[rh]at g;split at g
        ·rw[rm]at g
         obtain⟨v,s,M⟩:=Z i r (j+q) c N g;rw[<-rz]at s
         have e:cur.getD (i*k+j+q) undef=v:=by simp[s]
         dsimp only;rw[e];exact⟨by simp[World.cell?,J,s],M⟩
        ·cases g
     ·cases h
    ·cases h
   ·cases h
  ·cases h
 obtain⟨b,o,cs,vs,T,rfl,l,I⟩:=key;rw[T]
 cases ag with
 | false=>
  have F:=L rfl;subst F
  match cs,l with
  | [c],_=>
   obtain⟨z,K⟩:=I 0 c rfl;refine⟨vs 0,?_,c,rfl,K⟩;rw[tY]at z;simp[asAddr,loadVar,(BR G.out V.w).1,z,go_sem]
 | true =>
  refine⟨.agg ((List.range n).map λq=>vs q).toArray,?_,_,rfl,by simp[l],λj c v Q A=>?_⟩
  ·have:(loadCells ⟨b,o,none⟩ n).run P V.w=.ok ((List.range n).map λq=>vs q).toArray V.w:=run_loadCells V.w _ n _ λq g=>by
    rw[BO];exact(I q cs[q] (d6 (by omega))).1
   unfold loadCells at this;simp[asAddr,loadVar,(BR G.out V.w).1,(BR G.out V.w).2,this,go_sem]
  ·have g:j<n:=by have:=(am.1 Q).1;omega
   have:v=vs j:=by simpa[g]using A.symm
   subst this;exact(I j c Q).2
theorem gx[i:C1 P]{V:View}{f:Env}{a:Act}{r:ResultVar}{x:Bool×List C}(hi:Inv TB U V σ)(g:Fh V f a.tmps)(h:cJ i.T f σ r=some x) :
 ∃v,((match r with
  | .tmp t=>pure (a.tmps.getD t undef)
  | .cell b t=>do loadVar t (<-asAddr (a.tmps.getD b undef))):Sem Value).run P V.w=.ok v V.w/\On V x v:=by
 have c:=λt=>D0 (P:=P) t i.ok;unfold cJ at h;split at h
 ·rename_i t
  split at h
  ·rename_i e j
   exact⟨_,by simp[go_sem],HZ h (g t e j)⟩
  ·cases h
 ·rename_i t T'
  split at h
  ·rename_i n d
   exact RN hi ((c T').NT d) (λh=>(by cases h)) g h
  ·rename_i d
   exact RN hi ((c T').NT d) (λ_=>rfl) g h
  ·cases h
theorem kq{V:View}{x:Bool×List C}{e:E}{v:Value}(h:pY x=some e)(a:On V x v):Bu V e v:=by
 unfold pY at h;split at h
 ·injection h with h;subst h
  obtain⟨c,b,d⟩:=a;simp at b;subst b;exact d
 ·injection h with h;subst h;exact a
 ·cases h
theorem gz[m:C1 P]{fn:Func}{V:View}{f:Env}{a:Act}{x:E}(hi:Inv TB U V σ)(Y:Fh V f a.tmps)(h:gy m.T fn.results f σ=some x):∃v,(results fn a.tmps).run P V.w=.ok v V.w/\Bu V x v:=by
 obtain⟨F,X,e⟩:∃F:ResultVar->Sem Value,results fn a.tmps=(do let vs <-fn.results.mapM F;pure (if h:vs.size=1 then vs[0] else .tuple vs))/\∀r x,cJ m.T f σ r=some x->∃v,(F r).run P V.w=.ok v V.w/\On V x v:=
  ⟨λr=>match r with
   | .tmp t=>pure (a.tmps.getD t undef)
   | .cell b t=>do loadVar t (<-asAddr (a.tmps.getD b undef)),rfl,λr x S=>gx hi Y S⟩
 have two:∀ {r:ResultVar} {rs:List ResultVar} {xs:List (Bool×List C)},cK m.T f σ (r::rs)=some xs->∃y ys,xs=y::ys/\cJ m.T f σ r=some y/\cK m.T f σ rs=some ys:=by
  intro r rs xs h;unfold cK at h;split at h
  ·rename_i y ys k i
   injection h with h;subst h;exact⟨y,ys,rfl,k,i⟩
  ·cases h
 have nil:∀ {xs:List (Bool×List C)},cK m.T f σ []=some xs->xs=[]:=λh=>by injection h with h;exact h.symm
 have key:∀l:List ResultVar,fn.results=l.toArray->gy m.T l.toArray f σ=some x->∃v,(results fn a.tmps).run P V.w=.ok v V.w/\Bu V x v:=by
  intro l B h;rw[X,B];unfold gy at h;simp only at h
  match l with
  | []=>
   injection h with h;subst h
   exact⟨.tuple #[],by simp[go_sem],#[],rfl,rfl,λj x v c=>by simp at c⟩
  | [r]=>
   simp only at h;split at h
   ·rename_i y R
    obtain⟨v,k,i⟩:=e r y R;exact⟨v,by simp[k,go_sem],kq h i⟩
   ·cases h
  | [L,K]=>
   simp only[rO,uI]at h;split at h
   ·rename_i xs _ d
    injection h with h;subst h
    obtain⟨J,ys,rfl,k,d⟩:=two d;obtain⟨I,ys,rfl,i,d⟩:=two d;have:=nil d;subst this;obtain⟨o,u,q⟩:=e _ _ k;obtain⟨n,s,p⟩:=e _ _ i;refine⟨.tuple #[o,n],by simp[u,s,go_sem],_,rfl,rfl,λj x v' c g=>?_⟩
    match j with
    | 0=>simp at c g;subst c;subst g;exact q
    | 1=>simp at c g;subst c;subst g;exact p
    | j+2=>simp at c
   ·omega
   ·omega
   ·cases h
  | [L,K,Q]=>
   simp only[rO,uI]at h;split at h
   ·omega
   ·rename_i xs _ d
    injection h with h;subst h
    obtain⟨J,ys,rfl,k,d⟩:=two d;obtain⟨I,ys,rfl,i,d⟩:=two d;obtain⟨M,ys,rfl,G,d⟩:=two d;have:=nil d;subst this;obtain⟨o,u,q⟩:=e _ _ k;obtain⟨n,s,p⟩:=e _ _ i;obtain⟨z,H,A⟩:=e _ _ G;refine⟨.tuple #[o,n,z],by simp[u,s,H,go_sem],_,rfl,rfl,λj x v' c g=>?_⟩
    match j with
    | 0=>simp at c g;subst c;subst g;exact q
    | 1=>simp at c g;subst c;subst g;exact p
    | 2=>simp at c g;subst c;subst g;exact A
    | j+3=>simp at c
   ·omega
   ·cases h
  | [L,K,Q,r4]=>
   simp only[rO,uI]at h;split at h
   ·omega
   ·omega
   ·rename_i xs _ d
    injection h with h;subst h
    obtain⟨J,ys,rfl,k,d⟩:=two d;obtain⟨I,ys,rfl,i,d⟩:=two d;obtain⟨M,ys,rfl,G,d⟩:=two d;obtain⟨y4,ys,rfl,Z,d⟩:=two d;have:=nil d;subst this;obtain⟨o,u,q⟩:=e _ _ k;obtain⟨n,s,p⟩:=e _ _ i;obtain⟨z,H,A⟩:=e _ _ G;obtain⟨N,e4,t4⟩:=e _ _ Z;refine⟨.tuple #[o,n,z,N],by simp[u,s,H,e4,go_sem],_,rfl,rfl,λj x v' c g=>?_⟩
    match j with
    | 0=>simp at c g;subst c;subst g;exact q
    | 1=>simp at c g;subst c;subst g;exact p
    | 2=>simp at c g;subst c;subst g;exact A
    | 3=>simp at c g;subst c;subst g;exact t4
    | j+4=>simp at c
   ·cases h
  | _::_::_::_::_::_=>
   simp only[rO]at h;cases h
 exact key fn.results.toList (by simp) (by simpa using h)
theorem Bd.Ui [s:C1 P] {g:FuncId} {fn:Func} {c:Code} {m:Nat} {σ:Ac} {nx:Nat} {args:List E} {post:E->Ac->Nat->Prop} (B:m<=nx) (r:P.funcs[g]?=some fn) (hb:fn.body=some c) (f:(fn.name == "runtime.NumGoroutine")=false)
 (j:args.length<=fn.ntmps) (h:∀U:Ctx,U.V.nx=m->Aj P TB U fn.ntmps c (dC s.T fn.results post) (look (Cw 0 args)) σ nx):Bd P TB g m σ nx args post:=by
 refine⟨⟨fn,r,f,by rw[hb];rfl⟩,?_⟩;intro V vs S n ha;refine calls_of_wp r hb ?_
 have G:vs.size<=fn.ntmps:=by rw[ha.1];exact j
 have hi:Inv TB (HQ V (Tt V m) σ S) V σ:=
  ⟨rfl,rfl,rfl,λ_ _ _=>rfl,n.iLt,λ_ h=>.inl h,jg (by rw[n.nx];exact B),n.st,λid o A q b hb=>.inr (.inl ⟨id,o,A,q,hb⟩),n.tabs,⟨S,n.hid,λb hb=>.inl hb,λb hb=>.inr (.inr hb)⟩⟩
 have z:CG TB (HQ V (Tt V m) σ S) fn.ntmps V (look (Cw 0 args)) σ nx { tmps:=vs++Array.replicate (fn.ntmps-vs.size) undef,defers:=[] } := by
  refine⟨?_,?_,by simp;omega,hi,n.nx,rfl⟩
  ·intro t e p
   obtain⟨_,d⟩:=CN args 0 t e p
   have d:args[t]?=some e:=by simpa using d
   have i:t<vs.size:=by rw[ha.1];exact(am.1 d).1
   have F:=ha.2 t e vs[t] d (qU i)
   simpa[ru i,i]using F
  ·intro t e p
   obtain⟨_,d⟩:=CN args 0 t e p
   have d:args[t]?=some e:=by simpa using d
   have:=(am.1 d).1;omega
 refine wp_mono (h (HQ V (Tt V m) σ S) rfl V _ z) ?_;rintro e a' w' ⟨V',f',σ',rfl,k,a⟩
 have fin:(∃x,gy s.T fn.results f' σ'=some x/\post x σ' V'.nx)->a'.defers=[]/\∃v,(results fn a'.tmps).run P V'.w=.ok v V'.w/\∃V'' v' x σ'',Ending.returned v=.returned v'/\V''.w=V'.w/\Inv TB (HQ V (Tt V m) σ S) V'' σ''/\Bu V'' x v'/\post x σ'' V''.nx:=by
  rintro⟨x,u,hp⟩;obtain⟨v,y,p⟩:=gz (P:=P) a.inv a.env u;exact⟨a.defers,v,y,V',v,x,σ',rfl,rfl,a.inv,p,hp⟩
 cases e with
 | normal=>exact fin k
 | ret=>exact fin k
 | exit id=>exact k.elim
 | goto l=>exact k.elim
 | panic ch=>exact k.elim
 | outgrown=>exact k.elim
theorem eG [d:C1 P] {g:FuncId} {fn:Func} {c:Code} {nx:Nat} {args:List E} {post:E->Ac->Nat->Prop} (b:P.funcs[g]?=some fn) (hb:fn.body=some c) (a:(fn.name == "runtime.NumGoroutine")=false)
 (ha:Nat.ble args.length fn.ntmps=true) (h:∀U:Ctx,U.V.nx=nx->Aj P TB U fn.ntmps c (dC d.T fn.results post) (look (Cw 0 args)) σ nx):Spec P TB g σ nx args post:=
 Bd.ie (Bd.Ui (lc _) b hb a (ce ha) h)
end
section
variable {P:Program}{TB:BJ}{U:Ctx}{d:Option Tmp}{ty:TypeId}{pos:String}{af:Array Edge}{g:Option (Nat×Bool)}{f:Env}{σ:Ac}{nx:Nat}
variable {K:E->Ac->Nat->Prop}
theorem TQ{t e:TypeId}{k b:Nat}{z:List Value}[j:CE P t e k b][h:BN P e z](a:z.length=k)(c:z.all QN=true):A5 P TB U ⟨d,.buildSlice t 0 #[],ty,pos,af,g⟩ f σ nx .e:=
 Km λV ρ o n=>by
  obtain⟨cur,m,q,p⟩:=IU (es:=[]) j.out h.out a c o rfl rfl rfl rfl (by simp) (by simp);have i:∀b,b<V.w.heap.size->(V.w.alloc (.cells cur e)).heap[b]?=V.w.heap[b]?:=λb hb=>A6 V.w _ b hb;obtain⟨hi,l⟩:=R.Inv.grow n (w:=V.w.alloc (.cells cur e)) rfl rfl rfl (by simp) i;exact⟨_,{ V with w:=V.w.alloc (.cells cur e) },m,l,hi,rfl,⟨_,rfl⟩⟩
theorem cf{t e:TypeId}{k b:Nat}{z:List Value}{s x:Operand}{news:List (List C)}{ex:E}[hl:CE P t e k b][hz:BN P e z]
 (hs:ev f s=some .e) (hx:ev f x=some ex) (L:IX σ k ex=some news) (S:∀r∈news,r.length=k) (hzk:z.length=k) (Z:0<b) (hb:news.length*b<=140737488355328)
 (hK0:news=[]->∀b,∃y,(∀V:View,Bu V y (.slice b 0 0))/\K y σ nx) (hK:news≠[]->K (.o (.arr nx k 0 news.length)) ((nx,.cells e k news)::σ) (nx+1)):Ck P TB U ⟨d,.call ⟨.builtin .append,#[s,x],#[t,t]⟩,ty,pos,af,g⟩ f σ nx K:=
 DC λV ρ h1 h2 h3=>by
  subst h3;obtain⟨i,hu,hi,hsz,Y⟩:=He hl.out;have I:=hz.out;simp only[dn,hi,tF,d7]at I;obtain⟨zv,H,hzz⟩:=I
  have hzc:zv.cells.size=k:=by rw[<-hzk,<-hzz];simp
  obtain⟨sb,hsv⟩:=h1.get (x:=s) (by simp[Op.operands,Call.operands]) hs;have hxr:=aA h2 L S (h1.get (x:=x) (by simp[Op.operands,Call.operands]) hx)
  have l:∀w,(execOp ρ ⟨d,.call ⟨.builtin .append,#[s,x],#[t,t]⟩,ty,pos,af,g⟩).run P w=((Builtin.append_ #[t,t] ty #[ρ s,ρ x]).run P w).andThen λv w'=>.ok (.value v) w':=λw=>by
   simp only[execOp,resolve,invoke,builtin,uZ,rX,u6,pure_bind,bind_pure_comp,tS]
  have R:news.length<=maxLen:=by
   have:news.length<=news.length*b:=sF _ Z;unfold maxLen;omega
  have T:((news.length:Nat):Int)<=9223372036854775807:=by
   have:news.length<=news.length*b:=sF _ Z;omega
  rw [hsv]at l;generalize hvx:ρ x=vx at *;have A:=λh=>hK0 h sb;have nothing:news=[]->∀v,(Builtin.append_ #[t,t] ty #[.slice sb 0 0,vx]).run P V.w=.ok (.slice sb 0 0) V.w->v=Value.slice sb 0 0->
   ∃v V' xx σ',(execOp ρ ⟨d,.call ⟨.builtin .append,#[s,x],#[t,t]⟩,ty,pos,af,g⟩).run P V.w=.ok (.value v) V'.w/\Ext V V'/\Inv TB U V' σ'/\Bu V' xx v/\K xx σ' V'.nx:=λhn v B _=>
   let ⟨y,k1,k2⟩:=A hn
   ⟨.slice sb 0 0,V,y,σ,by rw[l,B];rfl,Ext.refl _,h2,k1 V,k2⟩
  rcases hxr with ⟨rfl,Q⟩|⟨xa,xc,xv,rfl,J,m⟩
  ·exact nothing Q _ (Gn hu hi V.w sb 0 0 (lc _) ty) rfl
  ·have n:(Dr news.length k xv).length=news.length*i.size:=by rw[C6,hsz]
   have p:∀j u,(Dr news.length k xv)[j]?=some u->V.w.cell? (xa.add j)=some u:=by
    intro q u hq;obtain⟨a,b,rfl,ha,hb,rfl⟩:=Na hq
    have hbl:b<news[a].length:=by rw[J _ (rF ha)];exact hb
    exact(m a news[a] b news[a][b] (d6 ha) (d6 hbl)).1
   rcases rV news.length with F|F
   ·have N:news=[]:=pp.1 F
    refine nothing N _ ?_ rfl;subst N;cases sb<;>simp[Builtin.append_,run_underlying hu,sizeOf,typeInfo,hi,Builtin.lenOf,Builtin.firstCells,loadCells,loadCellsFrom,storeCells,go_sem]
   ·have hne:news≠[]:=λh=>by subst h;simp at F
    have M:(Builtin.append_ #[t,t] ty #[.slice sb 0 0,.slice (some xa) news.length xc]).run P V.w=.ok (.slice (some ⟨V.w.heap.size,0,none⟩) news.length (grownCap V.w news.length 0 e))
     (V.w.drew.alloc (.cells ((Dr news.length k xv).toArray++Builtin.zeroCells zv.cells (grownCap V.w news.length 0 e-news.length)) e)):=by
     cases sb with
     | none=>
      have B:=run_append_nil (P:=P) V.w t ty e i zv hu hi H xa news.length xc _ n p F (by omega) (by rw[Y];omega);rw[B]
     | some sa=>
      have B:=run_append_grow (P:=P) V.w t ty e i zv hu hi H sa 0 0 [] (by simp) (λj v hj=>by simp at hj) xa news.length xc _ n p (by omega) (by simpa using T) (by rw[Y];exact growslice_fits (by omega) (by simpa using hb))
      simpa using B
    have G:=grownCap_ge V.w news.length 0 e;have hcm:=grownCap_le_maxLen V.w news.length 0 e R;generalize grownCap V.w news.length 0 e=cap' at *
    let w':=V.w.drew.alloc (.cells ((Dr news.length k xv).toArray++Builtin.zeroCells zv.cells (cap'-news.length)) e)
    have ee:Ext V (Az V V.w.heap.size cap' False w'):=ES (by simp[w']) λb hb=>A6 V.w.drew _ b (h2.iLt b hb)
    obtain⟨hi',he'⟩:=h2.alloc (c:=cap') (nl:=False) (w:=w') (ob:=.cells e k news) rfl rfl rfl rfl (by simp[w']) (λb hb=>A6 V.w.drew _ b hb) (by
     have B:(Az V V.w.heap.size cap' False w').ρ V.nx=V.w.heap.size:=by simp[Az]
     have X:(Az V V.w.heap.size cap' False w').cap V.nx=cap':=by simp[Az]
     refine .inr ⟨by simp[Az],(Dr news.length k xv).toArray++Builtin.zeroCells zv.cells (cap'-news.length),?_,?_,?_,?_,S,?_⟩
     ·have:=BW V.w.drew (.cells ((Dr news.length k xv).toArray++Builtin.zeroCells zv.cells (cap'-news.length)) e)
      rw[B];exact this
     ·rw[X]
      simp only[Array.size_append,uU,C6,Builtin.zeroCells,Array.size_map,Array.size_range,hzc,<-ry];congr 1;omega
     ·rw[X];exact G
     ·rw[X];exact hcm
     ·intro a r j c hi hj
      have hil:=(am.1 hi).1
      have hjl:j<k:=by rw[<-J r (co hi)];exact(am.1 hj).1
      have h10:=MZ (vs:=xv) hil hjl;refine⟨xv a j,?_,(m a r j c hi hj).2.ext ee⟩;have hlt:=(am.1 h10).1;rw[ru (by simpa using hlt)]
      simpa using h10)
    refine⟨.slice (some ⟨V.w.heap.size,0,none⟩) news.length cap',_,_,(V.nx,.cells e k news)::σ,?_,he',hi',?_,hK hne⟩
    ·rw[l,M];rfl
    ·have:=@AP.arr (Az V V.w.heap.size cap' False w') V.nx k 0 news.length (by simp[Az]) (by simp[Az]) (by simp[Az];exact G)
     have B:(Az V V.w.heap.size cap' False w').ρ V.nx=V.w.heap.size:=by simp[Az]
     have X:(Az V V.w.heap.size cap' False w').cap V.nx=cap':=by simp[Az]
     rw[B,X,th,u7]at this;exact this
theorem EC{t e:TypeId}{k b:Nat}{z:List Value}{s x:Operand}{news:List (List C)}{ex:E}[u:CE P t e k b][q:BN P e z]
 (n:ev f s=some .e) (m:ev f x=some ex) (a:IX σ k ex=some news) (i:∀r∈news,r.length=k) (c:z.length=k) (j:0<b) (hb:news.length*b<=140737488355328)
 (l:news=[]->K .e σ nx) (p:news≠[]->K (.o (.arr nx k 0 news.length)) ((nx,.cells e k news)::σ) (nx+1)):Ck P TB U ⟨d,.call ⟨.builtin .append,#[s,x],#[t,t]⟩,ty,pos,af,g⟩ f σ nx K:=cf n m a i c j hb (λh b=>⟨.e,λV=>⟨b,rfl⟩,l h⟩) p
end
section
variable {P:Program}{TB:BJ}{U:Ctx}{N:Nat}
theorem Aj.Ay{c:Code}{Q:Exit->Env->Ac->Nat->Prop}{L0 Lk:List (Nat×E)}{σ Sk:Ac}{nx:Nat}(ks is:List Nat)(hk:PG L0 ks=some Lk)(hi:Zw σ is=some Sk)(v:List (Nat×E))(s:Ac)(l:List Nat)
 (a:(∀i,i<U.V.nx->l[i]?=some i)/\l.Nodup) (b:DU (nm l nx) (look L0) (v++Lk)/\A7 (nm l nx) σ (s++Sk)) (h:Aj P TB U N c Q (look (v++Lk)) (s++Sk) l.length):Aj P TB U N c Q (look L0) σ nx:=
 Aj.names l (v++Lk) (s++Sk) a.1 a.2 b.1 b.2 h
end
section
variable {P:Program}{TB:BJ}{U:Ctx}{d:Option Tmp}{ty:TypeId}{pos:String}{af:Array Edge}{g:Option (Nat×Bool)}{f:Env}{σ:Ac}{nx:Nat}
variable {K:E->Ac->Nat->Prop}
theorem Nn{t:TypeId}{z:List Value}{fl:List (Nat×Nat)}{parts:Array (Nat×Operand)}{es:List E}{qs:List (Nat×List C)}[M:BN P t z][S:EJ P t fl](p k e q k' e':Nat)(hp:z[p]?=some (.slice none 0 0))(m:z[q]?=some (.slice none 0 0))(R:p≠q)(I:KS f (parts.toList.map (·.2))=some es)(Q:Ge fl parts.toList es=some qs)
 (A:z.all QN=true) (B:(qs.all λx=>Nat.ble (x.1+x.2.length) z.length)=true) (X:K (.a (BM qs (((z.map zC).set p (.arr nx k 0 0)).set q (.arr (nx+1) k' 0 0)))) ((nx+1,.cells e' k' [])::(nx,.cells e k [])::σ) (nx+2)):Ck P TB U ⟨d,.build t parts,ty,pos,af,g⟩ f σ nx K:=
 DC λV ρ h1 h2 h3=>by
  subst h3;obtain⟨i,zv,hi,s,l⟩:=HF M.out;obtain⟨G,L⟩:=h2.alloc (c:=0) (nl:=True) (w:=V.w) (ob:=.cells e k []) rfl rfl rfl rfl (lc _) (λ_ _=>rfl) (.inl ⟨by simp[Az],rfl⟩);obtain⟨F,J⟩:=G.alloc (c:=0) (nl:=True) (w:=V.w) (ob:=.cells e' k' []) rfl rfl rfl rfl (lc _) (λ_ _=>rfl) (.inl ⟨by simp[Az],rfl⟩);have r:=L.trans J;have H:=Dk (V:=Az (Az V V.w.heap.size 0 True V.w) V.w.heap.size 0 True V.w) (ρ:=ρ) parts.toList es qs (λx y e T=>(h1.get (by simp only[Op.operands];simpa using y) T).ext r) I Q
  have u:Da (Az (Az V V.w.heap.size 0 True V.w) V.w.heap.size 0 True V.w) (((z.map zC).set p (.arr V.nx k 0 0)).set q (.arr (V.nx+1) k' 0 0)) zv.cells:=by
   refine⟨by rw[rx,rx,gt,<-l];simp,λj c v h N=>?_⟩
   have b:z[j]?=some v:=by rw[<-l,rY];exact N
   by_cases n:q=j
   ·subst n
    rw[m]at b
    injection b with b
    subst b;rw[rS (by rw[rx,gt];exact(am.1 m).1)]at h
    injection h with h
    subst h;exact AP.nil (by simp[Az]) (by simp[Az])
   ·rw [rT n]at h
    by_cases o:p=j
    ·subst o
     rw[hp]at b
     injection b with b
     subst b;rw[rS (by rw[gt];exact(am.1 hp).1)]at h
     injection h with h
     subst h;exact AP.nil (by simp[Az];omega) (by simp[Az])
    ·rw[rT o,f6,b]at h
     injection h with h
     subst h;exact Lm (ge.1 A v (co b))
  obtain⟨cells,Z,Y⟩:=GR _ _ _ _ H u (λx y=>by rw[rx,rx,gt];exact Jo _ _ B x y);have hb:=run_build (P:=P) (ρ:=ρ) (parts:=parts) (V:=V) hi s S.out Z;refine⟨.agg cells,_,_,_,?_,r,F,(show Bu _ (.a _) _ from ⟨cells,rfl,Y⟩),X⟩
  show ((do let v <-Instr.build t (parts.map λ(i,x)=>(i,ρ x));pure (Go.Next.value v):Sem Go.Next)).run P V.w=_
  simp only[pu,hb,lm];rfl
end
end Go.Am
namespace Go.Am
open Go Go.Proofs
end Go.Am
