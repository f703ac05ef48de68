/-
  At the end of a call: all that it made becomes data.
-/
import Derived.Test.YtkkihplpglchjaaGreatDoorPart13
import Derived.Test.YtkkihplpglchjaaGreatDoorPart8
import Derived.Test.YtkkihplpglchjaaGreatDoorPart12
import Derived.Test.YtkkihplpglchjaaGreatDoorPart9
set_option linter.constructorNameAsVariable false
set_option linter.unusedSimpArgs false
set_option linter.unusedVariables false
namespace Go.Am
open Go
set_option linter.unusedVariables false
inductive FZ (σ:Ab):C→D→Prop
 | d {x:D}:FZ σ (.d x) x
 | fn {g:FuncId}:FZ σ (.fn g []) (.v (.func (.func g) #[] #[]))
 | arr {id k off len:Nat} {T:TypeId} {rows:List (List C)} {ds:List (List D)} {rs:Nat→List C} {cs:Nat→Nat→C}:look σ id=some (.cells T k rows)→off+len≤rows.length→ds.length=len→
  (∀i r',ds[i]? = some r'→rows[off+i]? = some (rs i)∧(rs i).length=r'.length)→(∀i j r' x,ds[i]? = some r'→r'[j]? = some x→(rs i)[j]? = some (cs i j))→
  (∀i j r' x,ds[i]? = some r'→r'[j]? = some x→FZ σ (cs i j) x)→FZ σ (.arr id k off len) (.l ds)
 | ptr {id k i j:Nat} {T:TypeId} {rows:List (List C)} {r:List C} {ds:List D} {cs:Nat→C}:look σ id=some (.cells T k rows)→rows[i]? = some r→(∀q x,ds[q]? = some x→r[j+q]? = some (cs q))→(∀q x,ds[q]? = some x→FZ σ (cs q) x)→FZ σ (.ptr id k i j) (.p ds)
 | sld {id:Nat} {T:TypeId} {l:List (Value×List Value)} {v:Value} {row:List Value}:look σ id=some (.sld T l)→(v,row)∈l→FZ σ (.d (.v v)) (.l (row.map fun x=>[.v x]))
 | nl {b:Option Addr}:FZ σ (.d (.v (.slice b 0 0))) (.l [])
inductive Pu (σ:Ab):List C→List D→Prop
 | nil:Pu σ [] []
 | cons {c:C} {d:D} {cs:List C} {ds:List D}:FZ σ c d→Pu σ cs ds→Pu σ (c::cs) (d::ds)
theorem Pu.get{σ:Ab}{cs:List C}{ds:List D}(h:Pu σ cs ds):cs.length=ds.length∧∀(j:Nat) x,ds[j]? = some x→∃c,cs[j]? = some c∧FZ σ c x:=by
 induction h with
 | nil=>exact⟨rfl,fun j x h=>by simp at h⟩
 | @cons c d cs ds h1 _ ih=>
  refine⟨by simp [ih.1],fun j x hj=>?_⟩
  cases j with
  | zero=>simp at hj;subst hj;exact⟨c,rfl,h1⟩
  | succ j=>exact ih.2 j x (by simpa using hj)
theorem Pu.refl{σ:Ab}:∀(ds:List D),Pu σ (ds.map .d) ds
 | []=>.nil
 | d::ds=>.cons .d (Pu.refl ds)
theorem FZ.rows{σ:Ab}{id k len:Nat}{T:TypeId}{rows:List (List C)}{ds:List (List D)}(hl:look σ id=some (.cells T k rows))(hn:ds.length=len)(hr:rows.length=len)(h:∀(i:Nat) (r':List D),ds[i]? = some r'→∃r,rows[i]? = some r∧Pu σ r r'):FZ σ (.arr id k 0 len) (.l ds):=by
 refine .arr (rs:=fun i=>(rows[i]?).getD []) (cs:=fun i j=>(((rows[i]?).getD [])[j]?).getD (.d (.l []))) hl (by omega) hn (fun i r' hi=>?_) (fun i j r' x hi hj=>?_) (fun i j r' x hi hj=>?_)
 ·obtain⟨r,h1,h2⟩:=h i r' hi
  rw [Nat.zero_add,h1]
  exact⟨rfl,h2.get.1⟩
 ·obtain⟨r,h1,h2⟩:=h i r' hi
  obtain⟨c,h3,h4⟩:=h2.get.2 j x hj
  simp [h1,h3]
 ·obtain⟨r,h1,h2⟩:=h i r' hi
  obtain⟨c,h3,h4⟩:=h2.get.2 j x hj
  simp [h1,h3,h4]
theorem FZ.full{σ:Ab}{id k len:Nat}{T:TypeId}{rows:List (List C)}{ds:List (List D)}(hl:look σ id=some (.cells T k rows))(hr:rows=ds.map (fun r=>r.map .d))(hn:rows.length=len):FZ σ (.arr id k 0 len) (.l ds):=by
 refine .rows hl (by rw [←hn,hr];simp) hn fun i r' hi=>⟨r'.map .d,?_,Pu.refl _⟩
 rw [hr];simp [hi]
theorem FZ.box{σ:Ab}{id k:Nat}{T:TypeId}{r:List C}{ds:List D}(hl:look σ id=some (.cells T k [r]))(h:Pu σ r ds):FZ σ (.ptr id k 0 0) (.p ds):=by
 refine .ptr (cs:=fun q=>(r[q]?).getD (.d (.l []))) hl rfl (fun q x hq=>?_) (fun q x hq=>?_)
 ·obtain⟨c,h3,h4⟩:=h.get.2 q x hq
  rw [Nat.zero_add,h3];rfl
 ·obtain⟨c,h3,h4⟩:=h.get.2 q x hq
  simp [h3,h4]
inductive EZ (σ:Ab):E→E→Prop
 | Bb {e:E}:e.AS=true→EZ σ e e
 | o {c:C} {d:D}:FZ σ c d→EZ σ (.o c) (.o (.d d))
 | a {cs:List C} {ds:List D}:Pu σ cs ds→EZ σ (.a cs) (.a (ds.map .d))
def Pt(σ:Ab)(f:Env):List (Nat×E)→Prop
 | []=>True
 | (t,e')::L=>(∃e,f t=some e∧EZ σ e e')∧Pt σ f L
theorem Pt.get{σ:Ab}{f:Env}:∀ {L:List (Nat×E)},Pt σ f L→∀t e',look L t=some e'→∃e,f t=some e∧EZ σ e e'
 | [],_,t,e,h=>by cases h
 | (k,x)::L,hs,t,e,h=>by
  rw [Aw] at h
  by_cases hk:k=t
  ·rw [if_pos hk] at h;injection h with h;subst h;subst hk;exact hs.1
  ·rw [if_neg hk] at h;exact Pt.get hs.2 t e h
def EO(V:View)(σ:Ab):View:={ V with I:=fun b=>V.I b∨∃id o,look σ id=some o∧¬V.nl id∧DS V id o b }
theorem Le{V:View}{σ:Ab}:Ext V (EO V σ):=⟨fun _ h=>.inl h,fun _ _=>rfl,Nat.le_refl _,fun _ _=>rfl,fun _ _=>rfl,fun _ _=>Iff.rfl,Nat.le_refl _⟩
section
variable {P:Program}{TB:Bh}{Γ:Ctx}{N:Nat}{σ:Ab}
theorem IZ.data{I:Nat→Prop}{w:World}{T:TypeId}{v:Value}{row:List Value}(h:IZ w T v row)(hI:∀b,IC v b→I b):C7 I w (.l (row.map fun x=>[.v x])) v:=by
 rcases h with ⟨rfl,rfl⟩|⟨b,cap,cur,rfl,h2,h3,h4,h5,h6⟩
 ·exact .nil
 ·have hn:row.length=(row.map fun x=>[D.v x]).length:=by simp
  have hg:∀(i:Nat) (r:List D) (j:Nat) (d:D),(row.map fun x=>[D.v x])[i]? = some r→r[j]? = some d→j=0∧∃x,row[i]? = some x∧d=.v x:=fun i r j d hi hj=>by
   simp only [List.getElem?_map,Option.map_eq_some_iff] at hi
   obtain⟨x,hx,rfl⟩:=hi
   have hj0:j=0:=by have:=(List.getElem?_eq_some_iff.1 hj).1;simp at this;omega
   subst hj0
   simp at hj
   exact⟨rfl,x,hx,hj.symm⟩
  rw [hn]
  refine .l (k:=1) (vs:=fun i _=>(row[i]?).getD undef) (hI b ⟨_,_,_,rfl⟩) (by simpa using h4) h5 (fun i r hi=>?_) (fun i r j d hi hj=>?_) (fun i r j d hi hj=>?_)
  ·simp only [List.getElem?_map,Option.map_eq_some_iff] at hi
   obtain⟨x,hx,rfl⟩:=hi;rfl
  ·obtain⟨rfl,x,hx,rfl⟩:=hg i r j d hi hj
   simp [World.cell?,h2,hx,(h6 i x hx).1]
  ·obtain⟨rfl,x,hx,rfl⟩:=hg i r j d hi hj
   simp only [hx,Option.getD_some]
   exact .v (h6 i x hx).2
theorem FZ.rel{V:View}(hi:Inv TB Γ V σ){c:C}{d:D}(h:FZ σ c d):∀ {v:Value},AE V c v→C7 (EO V σ).I V.w d v:=by
 induction h with
 | d=>intro v hc;cases hc with|d h=>exact h.ext (V:=V) (V':=EO V σ) Le
 | @sld id T l v row hl hm=>
  intro v' hc
  have hv:v'=v:=AE.val hc
  subst hv
  have h1:=hi.st.obj id _ hl
  exact(h1.2.2 _ hm).data fun b hb=>.inr ⟨id,_,hl,h1.1,⟨_,hm,hb⟩⟩
 | @nl b=>
  intro v' hc
  have hv:v'=_:=AE.val hc
  subst hv
  cases b
  ·exact .nil
  ·exact .e (Nat.zero_le _)
 | fn =>
  intro v hc
  cases hc with
  | @fn f cap vs h1 _=>
   have:vs = #[]:=Array.eq_empty_of_size_eq_zero (by simpa using h1)
   subst this
   exact .v rfl
 | @arr id k off len T rows ds rs cs hl hle hn h1 h2 _ ih=>
  intro v hc
  cases hc with
  | nil h3 h4=>
   have:ds=[]:=List.length_eq_zero_iff.1 hn
   subst this
   exact .nil
  | arr h3 hnl h4=>
   rcases hi.st.obj id _ hl with ⟨h5,_⟩|⟨_,cur,h5,h6,h7,h8,h9,h10⟩
   ·exact absurd h5 hnl
   ·have hcell:∀(i:Nat) (r:List D) (j:Nat) (x:D),ds[i]? = some r→r[j]? = some x→∃v,cur[(off+i)*k+j]? = some v∧C7 (EO V σ).I V.w x v:=fun i r j x hi' hj=>by
     obtain⟨v,h11,h12⟩:=h10 (off+i) (rs i) j (cs i j) (h1 i r hi').1 (h2 i j r x hi' hj)
     exact⟨v,h11,ih i j r x hi' hj h12⟩
    rw [←hn] at h4 ⊢
    refine .l (b:=V.ρ id) (o:=off*k) (k:=k) (vs:=fun i j=>cur.getD ((off+i)*k+j) undef) (.inr ⟨id,_,hl,hnl,rfl⟩) (by omega) (by omega) (fun i r hi'=>?_) (fun i r j x hi' hj=>?_) (fun i r j x hi' hj=>?_)
    ·have h13:=h1 i r hi'
     rw [←h13.2]
     exact h9 _ (List.mem_of_getElem? h13.1)
    ·obtain⟨v,h11,_⟩:=hcell i r j x hi' hj
     have e:off*k+i*k+j=(off+i)*k+j:=by rw [Nat.add_mul]
     rw [e]
     simp [World.cell?,h5,h11]
    ·obtain⟨v,h11,h12⟩:=hcell i r j x hi' hj
     have:cur.getD ((off+i)*k+j) undef=v:=by simp [h11]
     simp only [this]
     exact h12
 | @ptr id k i j T rows r ds cs hl hri h1 _ ih=>
  intro v hc
  cases hc with
  | ptr h3 hnl=>
   rcases hi.st.obj id _ hl with ⟨h5,_⟩|⟨_,cur,h5,h6,h7,h8,h9,h10⟩
   ·exact absurd h5 hnl
   ·have hcell:∀(q:Nat) (x:D),ds[q]? = some x→∃v,cur[i*k+j+q]? = some v∧C7 (EO V σ).I V.w x v:=fun q x hq=>by
     obtain⟨v,h11,h12⟩:=h10 i r (j+q) (cs q) hri (h1 q x hq)
     exact⟨v,by rw [Nat.add_assoc];exact h11,ih q x hq h12⟩
    refine .p (b:=V.ρ id) (o:=i*k+j) (vs:=fun q=>cur.getD (i*k+j+q) undef) (.inr ⟨id,_,hl,hnl,rfl⟩) (fun q x hq=>?_) (fun q x hq=>?_)
    ·obtain⟨v,h11,_⟩:=hcell q x hq
     simp [World.cell?,h5,h11]
    ·obtain⟨v,h11,h12⟩:=hcell q x hq
     have:cur.getD (i*k+j+q) undef=v:=by simp [h11]
     simp only [this]
     exact h12
theorem EZ.rel{V:View}(hi:Inv TB Γ V σ){e e':E}(h:EZ σ e e'){v:Value}(hv:Bc V e v):Bc (EO V σ) e' v:=by
 cases h with
 | Bb=>exact hv.ext Le
 | o h=>exact AE.d (V:=EO V σ) (h.rel hi hv)
 | @a cs ds h=>
  obtain⟨vs,rfl,h1,h2⟩:=hv
  refine⟨vs,rfl,by rw [h1,h.get.1];simp,fun j c v hj hv=>?_⟩
  simp only [List.getElem?_map,Option.map_eq_some_iff] at hj
  obtain⟨x,hx,rfl⟩:=hj
  obtain⟨c,h3,h4⟩:=h.get.2 j x hx
  exact AE.d (V:=EO V σ) (h4.rel hi (h2 j c v h3 hv))
theorem Ai.settle{c:Code}{Q:Exit→Env→Ab→Nat→Prop}{f:Env}{nx:Nat}(L:List (Nat×E))(hE:Pt σ f L)(h:Ai P TB Γ N c Q (look L) [] nx):Ai P TB Γ N c Q f σ nx:=by
 intro V a hr
 refine h (EO V σ) a ⟨fun t x hx=>?_,fun t x hx=>?_,hr.size,?_,hr.nx,hr.defers⟩
 ·obtain⟨y,h1,h2⟩:=hE.get t x hx
  exact h2.rel hr.inv (hr.env t y h1)
 ·obtain⟨y,h1,_⟩:=hE.get t x hx
  exact hr.lt t y h1
 ·have hi:=hr.inv
  refine⟨hi.os,hi.tape,hi.output,hi.old,?_,?_,hi.ext.trans Le,DH,fun id o ho=>(by cases ho),fun x hx=>⟨.inl (hi.tabs x hx).1,(hi.tabs x hx).2⟩,hi.hid.same rfl (fun _ h=>.inl h) (fun b hb=>hb.elim .inl fun ⟨id,o,hl,hn,he⟩=>.inr ⟨id,o,hl,hn,he⟩) fun b ⟨_,_,h,_⟩=>by cases h⟩
  ·rintro b (hb|⟨id,o,hl,hn,hb⟩)
   ·exact hi.iLt b hb
   ·exact(hi.st.obj id o hl).blt hn hb
  ·rintro b (hb|⟨id,o,hl,hn,hb⟩)
   ·exact hi.iNew b hb
   ·exact .inr (hi.live id o hl hn b hb)
theorem N5{ids:List Nat}{L0:List (Nat×E)}:∀ {ks:List Nat} {Lk:List (Nat×E)},Mg L0 ks=some Lk→DD σ ids (look L0) Lk
 | [],Lk,h=>by injection h with h;subst h;trivial
 | k :: ks,Lk,h=>by
  unfold Mg at h
  split at h
  ·rename_i e l h1 h2
   injection h with h
   subst h
   exact⟨⟨e,h1,.Bb⟩,N5 h2⟩
  ·cases h
theorem DD.app{ids:List Nat}{f:Env}:∀ {L M:List (Nat×E)},DD σ ids f L→DD σ ids f M→DD σ ids f (L++M)
 | [],_,_,h=>h
 | _::_,_,h,h'=>⟨h.1,DD.app h.2 h'⟩
theorem Ai.OT{c:Code}{Q:Exit→Env→Ab→Nat→Prop}{L0 Lk:List (Nat×E)}{nx:Nat}(ids ks:List Nat)(hk:Mg L0 ks=some Lk)(L:List (Nat×E))(hE:DD σ ids (look L0) L)(h:Ai P TB Γ N c Q (look (L++Lk)) (CL ids σ) nx):Ai P TB Γ N c Q (look L0) σ nx:=
 Ai.freeze ids (L++Lk) (hE.app (N5 hk)) h
section
variable {d:Option Tmp}{ty:TypeId}{pos:String}{af:Array Edge}{g:Option (Nat×Bool)}{f:Env}{nx:Nat}
theorem C5{t:TypeId}{x lo:Operand}{s:List UInt8}{m:Int}{k:IntKind}[ht:Dq P t](hx:ev f x=some (eT s))(hl:ev f lo=some (eI k m))(h0:0≤m)(h1:m≤s.length):A1 P TB Γ ⟨d,.slice t x (some lo) none none,ty,pos,af,g⟩ f σ nx (eT (s.drop m.toNat)):=by
 have h:=Pc (P:=P) (TB:=TB) (Γ:=Γ) (d:=d) (ty:=ty) (pos:=pos) (af:=af) (g:=g) (σ:=σ) (nx:=nx) (t:=t) (x:=x) (lo:=some lo) (hi:=none) (l:=some (k,m)) (h:=none) hx (by simp [Xy,hl]) rfl h0 h1 (Int.le_refl _)
 simpa [Kb,Kh] using h
theorem Ls{t:TypeId}{x hi:Operand}{s:List UInt8}{m:Int}{k:IntKind}[ht:Dq P t](hx:ev f x=some (eT s))(hl:ev f hi=some (eI k m))(h0:0≤m)(h1:m≤s.length):A1 P TB Γ ⟨d,.slice t x none (some hi) none,ty,pos,af,g⟩ f σ nx (eT (s.take m.toNat)):=by
 have h:=Pc (P:=P) (TB:=TB) (Γ:=Γ) (d:=d) (ty:=ty) (pos:=pos) (af:=af) (g:=g) (σ:=σ) (nx:=nx) (t:=t) (x:=x) (lo:=none) (hi:=some hi) (l:=none) (h:=some (k,m)) hx rfl (by simp [Xy,hl]) (Int.le_refl _) h0 h1
 simpa [Kb,Kh] using h
theorem Tu{t e:TypeId}{b n:Nat}{x lo:Operand}{rows:List (List D)}{m:Int}{k:IntKind}[hsl:Cb P t e n b](hx:ev f x=some (.o (.d (.l rows))))(hl:ev f lo=some (eI k m))(hn:∀r∈rows,r.length=n)(h0:0≤m)(h1:m≤rows.length):A1 P TB Γ ⟨d,.slice t x (some lo) none none,ty,pos,af,g⟩ f σ nx (.o (.d (.l (rows.drop m.toNat)))):=by
 have h:=Tx (P:=P) (TB:=TB) (Γ:=Γ) (d:=d) (ty:=ty) (pos:=pos) (af:=af) (g:=g) (σ:=σ) (nx:=nx) (t:=t) (x:=x) (lo:=some lo) (hi:=none) (l:=some (k,m)) (h:=none) hx (by simp [Xy,hl]) rfl hn h0 h1 (Int.le_refl _)
 simpa [Kb,Kh] using h
theorem HZ{t e:TypeId}{b n:Nat}{x hi:Operand}{rows:List (List D)}{m:Int}{k:IntKind}[hsl:Cb P t e n b](hx:ev f x=some (.o (.d (.l rows))))(hl:ev f hi=some (eI k m))(hn:∀r∈rows,r.length=n)(h0:0≤m)(h1:m≤rows.length):A1 P TB Γ ⟨d,.slice t x none (some hi) none,ty,pos,af,g⟩ f σ nx (.o (.d (.l (rows.take m.toNat)))):=by
 have h:=Tx (P:=P) (TB:=TB) (Γ:=Γ) (d:=d) (ty:=ty) (pos:=pos) (af:=af) (g:=g) (σ:=σ) (nx:=nx) (t:=t) (x:=x) (lo:=none) (hi:=some hi) (l:=none) (h:=some (k,m)) hx rfl (by simp [Xy,hl]) hn (Int.le_refl _) h0 h1
 simpa [Kb,Kh] using h
end
end
end Go.Am
namespace Go.Am
open Go Go.Proofs
end Go.Am
namespace Go.Am
open Go Go.Proofs
set_option maxHeartbeats 1000000
attribute [local irreducible] A1 BZ Lex Bj Ai Spec
variable {TB:Bh}
end Go.Am
namespace Go.Am
open Go
section
variable {P:Program}{TB:Bh}{Γ:Ctx}{d:Option Tmp}{ty:TypeId}{pos:String}{af:Array Edge}{g:Option (Nat×Bool)}{f:Env}{σ:Ab}{nx:Nat}
variable {K:E→Ab→Nat→Prop}
theorem HV{t:TypeId}{z:List Value}{fl:List (Nat×Nat)}{parts:Array (Nat×Operand)}{es:List E}{qs:List (Nat×List C)}[hz:BO P t z][hf:Ev P t fl](p k e q k' e':Nat)(hp:z[p]? = some (.slice none 0 0))(hp':z[q]? = some (.slice none 0 0))(hpq:p≠q)(hes:HM f (parts.toList.map (·.2))=some es)(hq:EB fl parts.toList es=some qs)
 (hok:z.all Ng=true) (hle:(qs.all fun x=>Nat.ble (x.1+x.2.length) z.length)=true) (hK:K (.a (B2 qs (((z.map zC).set p (.arr nx k 0 0)).set q (.arr (nx+1) k' 0 0)))) ((nx+1,.cells e' k' [])::(nx,.cells e k [])::σ) (nx+2)):BZ P TB Γ ⟨d,.build t parts,ty,pos,af,g⟩ f σ nx K:=
 Dy fun V ρ h1 h2 h3=>by
  subst h3
  obtain⟨i,zv,hi,hzv,hzz⟩:=HG hz.out
  obtain⟨hi1,he1⟩:=h2.alloc (c:=0) (nl:=True) (w:=V.w) (ob:=.cells e k []) rfl rfl rfl rfl (Nat.le_refl _) (fun _ _=>rfl) (.inl ⟨by simp [Au],rfl⟩)
  obtain⟨hi2,he2⟩:=hi1.alloc (c:=0) (nl:=True) (w:=V.w) (ob:=.cells e' k' []) rfl rfl rfl rfl (Nat.le_refl _) (fun _ _=>rfl) (.inl ⟨by simp [Au],rfl⟩)
  have he3:=he1.trans he2
  have hfo:=CT (V:=Au (Au V V.w.heap.size 0 True V.w) V.w.heap.size 0 True V.w) (ρ:=ρ) parts.toList es qs (fun x hx e he=>(h1.get (by simp only [Op.operands];simpa using hx) he).ext he3) hes hq
  have hzr:CU (Au (Au V V.w.heap.size 0 True V.w) V.w.heap.size 0 True V.w) (((z.map zC).set p (.arr V.nx k 0 0)).set q (.arr (V.nx+1) k' 0 0)) zv.cells:=by
   refine⟨by rw [List.length_set,List.length_set,List.length_map,←hzz];simp,fun j c v hj hv=>?_⟩
   have hzj:z[j]? = some v:=by rw [←hzz,Array.getElem?_toList];exact hv
   by_cases hjq:q=j
   ·subst hjq
    rw [hp'] at hzj
    injection hzj with hzj
    subst hzj
    rw [List.getElem?_set_self (by rw [List.length_set,List.length_map];exact(List.getElem?_eq_some_iff.1 hp').1)] at hj
    injection hj with hj
    subst hj
    exact AE.nil (by simp [Au]) (by simp [Au])
   ·rw [List.getElem?_set_ne hjq] at hj
    by_cases hjp:p=j
    ·subst hjp
     rw [hp] at hzj
     injection hzj with hzj
     subst hzj
     rw [List.getElem?_set_self (by rw [List.length_map];exact(List.getElem?_eq_some_iff.1 hp).1)] at hj
     injection hj with hj
     subst hj
     exact AE.nil (by simp [Au];omega) (by simp [Au])
    ·rw [List.getElem?_set_ne hjp,List.getElem?_map,hzj] at hj
     injection hj with hj
     subst hj
     exact IX (List.all_eq_true.1 hok v (List.mem_of_getElem? hzj))
  obtain⟨cells,h4,h5⟩:=E6 _ _ _ _ hfo hzr (fun x hx=>by rw [List.length_set,List.length_set,List.length_map];exact Hn _ _ hle x hx)
  have hb:=run_build (P:=P) (ρ:=ρ) (parts:=parts) (V:=V) hi hzv hf.out h4
  refine⟨.agg cells,_,_,_,?_,he3,hi2,(show Bc _ (.a _) _ from ⟨cells,rfl,h5⟩),hK⟩
  show ((do let v ←Instr.build t (parts.map fun (i,x)=>(i,ρ x));pure (Go.Next.value v):Sem Go.Next)).run P V.w=_
  simp only [Sem.run_bind,hb,Result.andThen_ok]
  rfl
end
end Go.Am
namespace Go.Am
open Go Go.Proofs
set_option maxHeartbeats 1000000
attribute [local irreducible] A1 BZ Lex Bj Ai Spec
variable {TB:Bh}
theorem Im{c:C}{L:W→Bool}{ok:W→Prop}(hc:FD Tryz.prog TB c L ok)(al:Int)(t:AT)(hf:Ij ok (AY al) t)(ht:Fp al 20012 t)(ho:AO L (AY al) t=none) :
 Pure Tryz.prog TB 72 [Ji al c,BV t] (BL (A9 L al t)):=by
 have hr:=Cm c hc.AS
 have hrl:=ht.rl
 have hcl:=ht.cl
 have hla:(Ac al).length≤6:=AR al 6
 have hask:=ht.PG hf (by omega)
 have hnl:(A9 L al t).nx.length=t.rows.length:=by simp [A9]
 have hal:(A9 L al t).ac.length=t.rows.length:=by simp [A9]
 refine AU.GW (AU.ofM 3 (Nat.le_refl _) Tryz.func72 rfl rfl (by kernel_rfl) (Nat.le_of_ble_eq_true rfl) ?_);intro Γ hΓ
 (repeat first|refine aU rfl ?_)
 (refine pW rfl ?_ rfl (by rfl);refine Dm rfl rfl ?_)
 (refine Af rfl ?_;refine Ci (fun _ _=>C0 rfl rfl rfl) rfl ?_)
 (repeat first|refine tA rfl ?_ |refine aU rfl ?_ |refine Aa ?_)
 (refine pW rfl ?_ rfl (by rfl);refine Ae [] rfl rfl (FN hc al t hask.1) ⟨rfl,by simp,by simp⟩ (by simp [Ha,E.A4,C.Ce,C.A4,hr,eC]) trivial ?_;rintro x0 σ1 nx1 ⟨rfl,rfl,rfl⟩ _)
 (repeat first|refine tA rfl ?_ |refine aU rfl ?_ |refine Aa ?_)
 (refine pW rfl ?_ rfl (by rfl);refine HV 1 1 90 2 1 4 rfl rfl (by decide) rfl rfl (by rfl) (by rfl) ?_)
 (repeat first|refine sN rfl ?_ |refine tA rfl ?_ |refine aU rfl ?_ |refine Aa ?_)
 refine aB ?_
 refine Ai.Bm (α:={k:Nat // k≤t.rows.length}) (fun ⟨k,hkl⟩=>[(2,.o (.ptr 0 2 0 0)),(3,.o (.ip (QT t))),(4,.o (.ptr 1 3 0 0)),(5,.o (.mp 2)),(6,.o (.ptr 3 3 0 0)),(19,.o (.d (AM t.rows))),(20,eI .i64 t.rows.length),(21,eI .i64 k)]) (fun ⟨k,hkl⟩=>[(0,.cells 71 2 [[.d (iD al),c]]),(1,.cells 26 3 [[.d (iD 0),.d (.l []),.d (.l [])]]),(2,.mp (Gj (Bn L t t.rows.length))),(3,.cells 26 3 [[.d (iD al),.arr 4 1 0 k,.arr 5 1 0 k]]),(4,.cells 90 1 (((A9 L al t).nx.take k).map fun r=>[.d (Ez r)])),(5,.cells 4 1 (((A9 L al t).ac.take k).map fun b=>[.d (bD b)]))]) 6 (fun ⟨k,hkl⟩=>t.rows.length - k) (⟨0,by omega⟩) [0,1,2,5,3,4] (Fq hΓ rfl rfl) (by (simp[cX,zC,hΓ,hr,eC,Ab.A4,CL,HW,B2,Ag])) ?_;rintro⟨k,hkl⟩;(try dsimp only)
 (repeat first|refine s2 rfl fun _ _hb=>?_ |refine aU rfl ?_ |refine Aa ?_)
 (refine aC rfl ?_ ?_<;>rintro⟨⟩)
 ·have hlt:k < t.rows.length:=by (simp only[oZ] at *;omega)
  obtain⟨r,hx⟩:=get_some (l:=t.rows) (k:=k) hlt
  have hx':=get_map (g:=BD) hx
  have hxm:=List.mem_of_getElem? hx
  refine aK ?_
  refine aS (aB ?_)
  (repeat first|refine tM rfl ?_ |(refine s4 rfl ‹_› rfl ?_ ?_;omega) |refine aU rfl ?_ |refine Aa ?_)
  (refine pW rfl ?_ rfl (by rfl);refine Wx 1 3 ?_)
  (repeat first|refine sN rfl ?_ |refine tM rfl ?_ |refine sP rfl (DV al) rfl ?_ |refine aU rfl ?_ |refine Aa ?_)
  refine aB ?_
  refine Ai.Bm (α:={j:Nat // j≤(Ac al).length}) (fun ⟨j,hjl⟩=>[(2,.o (.ptr 0 2 0 0)),(3,.o (.ip (QT t))),(4,.o (.ptr 1 3 0 0)),(5,.o (.mp 2)),(6,.o (.ptr 3 3 0 0)),(19,.o (.d (AM t.rows))),(20,eI .i64 t.rows.length),(21,eI .i64 k),(8,eT r),(9,.o (.arr 6 1 0 j)),(27,Ay (Ac al)),(28,eI .i64 (Ac al).length),(29,eI .i64 j)]) (fun ⟨j,hjl⟩=>[(0,.cells 71 2 [[.d (iD al),c]]),(1,.cells 26 3 [[.d (iD 0),.d (.l []),.d (.l [])]]),(2,.mp (Gj (Bn L t t.rows.length))),(3,.cells 26 3 [[.d (iD al),.arr 4 1 0 k,.arr 5 1 0 k]]),(4,.cells 90 1 (((A9 L al t).nx.take k).map fun r=>[.d (Ez r)])),(5,.cells 4 1 (((A9 L al t).ac.take k).map fun b=>[.d (bD b)])),(6,.cells 3 1 (((Ac al).take j).map fun l=>[.d (iD ((De L t (r++[lb l]):Nat):Int))]))]) 7 (fun ⟨j,hjl⟩=>(Ac al).length - j) (⟨0,by omega⟩) [0,1,2,3,4,5,6] (Fq hΓ rfl rfl) (by (simp[cX,zC,hΓ,hr,eC,Ab.A4,CL,HW])) ?_;rintro⟨j,hjl⟩;(try dsimp only)
  (repeat first|refine s2 rfl fun _ _hb=>?_ |refine aU rfl ?_ |refine Aa ?_)
  (refine aC rfl ?_ ?_<;>rintro⟨⟩)
  ·have hjlt:j < (Ac al).length:=by (simp only[oZ] at *;omega)
   obtain⟨l,hl⟩:=get_some (l:=Ac al) (k:=j) hjlt
   have hl':=get_map (g:=Bv) hl
   have hlm:=List.mem_of_getElem? hl
   have hlb:=A2 hlm
   have hrb:=ht.onR r hxm
   have hm:=Mo (TB:=TB) hc al t (r++[lb l]) (by omega) (fun x hx=>hask.2 r hxm _ (List.mem_map.2 ⟨l,hlm,rfl⟩) x hx) (fun y hy=>by have:=(ht.onC y hy).2;simp;omega)
   have hlk:=Wm ho hxm hlm
   refine aK ?_
   refine aS (aB ?_)
   (repeat first|refine tA rfl ?_ |(refine s4 rfl ‹_› rfl ?_ ?_;omega) |refine aU rfl ?_ |refine Aa ?_)
   refine rG (HN [13]) (by kernel_rfl) ?_
   (repeat first|(refine sA rfl ?_ ?_;first|exact tI|omega|simp only[oZ] at *;omega) |refine sP rfl (Iq l hlb.1 (by omega)) rfl ?_|(refine Af rfl ?_;refine gA rfl ?_;first| refine gS (fun _ _=>W7 rfl (by omega) (by omega)) ?_))
   rw [YT hlb.1]
   (repeat first| (refine Af rfl ?_;refine gA rfl ?_;first| refine gS (fun _ _=>AJ rfl rfl (by simp [E.AS,C.Be,C.AS,hc.AS]) hm rfl) ?_|refine gQ (Yp rfl rfl rfl) (by rfl) ?_))
   (repeat first|refine tA rfl ?_)
   (refine pW rfl ?_ rfl (by rfl);refine Ax rfl rfl rfl (by first| (simp;done)|(simp;(omega))) rfl (by intro r hr;simp at hr;subst hr;rfl) (by rfl) (Nat.le_of_ble_eq_true rfl) (by simp;omega) ?_)
   (repeat first|(refine sA rfl ?_ ?_;first|exact tI|omega) |refine aU rfl ?_ |refine Aa ?_)
   rw [hlk]
   refine⟨⟨j+1,by omega⟩,by dsimp only;(omega),[0,1,2,3,4,5,7],?_⟩
   simp[cX,zC,hΓ,hr,List.take_add_one,hl]
  ·obtain rfl:j=(Ac al).length:=by (simp only[oZ] at *;omega)
   have hok:=hf r ⟨r,hxm,[],.inl rfl,[],.inl rfl,by simp⟩
   have hnx:(A9 L al t).nx.take (k+1)=(A9 L al t).nx.take k++[(Ac al).map fun l=>((De L t (r++[lb l]):Nat):Int)]:=by
    rw [List.take_add_one];simp [A9,hx]
   have hac:(A9 L al t).ac.take (k+1)=(A9 L al t).ac.take k++[L r]:=by
    rw [List.take_add_one];simp [A9,hx]
   refine aE ?_
   rw [List.take_length]
   refine Ai.OT [6] [2,3,4,5,6,8,19,20,21] rfl [(9,Ay ((Ac al).map fun l=>((De L t (r++[lb l]):Nat):Int)))] ⟨⟨_,rfl,.o (.full (by simp) rfl (by simp [Function.comp_def]) (by simp))⟩,trivial⟩ ?_;(try dsimp only[cA,cB])
   (repeat first|refine tA rfl ?_ |refine aU rfl ?_)
   (refine pW rfl ?_ rfl (by rfl);refine Ax rfl rfl rfl (by first| (simp;done)|(simp;(omega))) rfl (by intro r hr;simp at hr;subst hr;rfl) (by rfl) (Nat.le_of_ble_eq_true rfl) (by simp;omega) ?_)
   (repeat first|refine tA rfl ?_ |refine Aa ?_)
   refine rG (HN [7,9]) (by kernel_rfl) ?_
   (repeat first|refine tA rfl ?_|(refine Af rfl ?_;refine gA rfl ?_;first| refine gS (fun _ _=>hc.ask rfl rfl hok) ?_))
   (refine pW rfl ?_ rfl (by rfl);refine Ax rfl rfl rfl (by first| (simp;done)|(simp;(omega))) rfl (by intro r hr;simp at hr;subst hr;rfl) (by rfl) (Nat.le_of_ble_eq_true rfl) (by simp;omega) ?_)
   (repeat first|(refine sA rfl ?_ ?_;first|exact tI|omega) |refine aU rfl ?_ |refine Aa ?_)
   refine⟨⟨k+1,by omega⟩,by dsimp only;(omega),[0,1,2,3,7,8],?_⟩
   simp[cX,zC,hΓ,hr,eC,Ab.A4,CL,HW,B2,Ag,hnx,hac]
 ·obtain rfl:k=t.rows.length:=by (simp only[oZ] at *;omega)
  have ht1:(A9 L al t).nx.take t.rows.length=(A9 L al t).nx:=List.take_of_length_le (by simp [A9])
  have ht2:(A9 L al t).ac.take t.rows.length=(A9 L al t).ac:=List.take_of_length_le (by simp [A9])
  rw [ht1,ht2]
  refine aE ?_
  (repeat first|refine tM rfl ?_ |refine aU rfl ?_ |refine Aa ?_)
  refine Ai.settle [(4,.o (.ip [iD al,CX (A9 L al t).nx,Fu (A9 L al t).ac]))] ⟨⟨_,rfl,.o (.box rfl (.cons .d (.cons (.full rfl (by simp [Function.comp_def]) (by simp [A9])) (.cons (.full rfl (by simp [Function.comp_def]) (by simp [A9])) .nil))))⟩,trivial⟩ ?_
  refine aR ⟨_,rfl,rfl⟩
theorem DL(w:W)(i:Nat)(c:UInt8)(hc:w[((i:Nat):Int).toNat]? = some c)(hl:0≤(c.toNat:Int) - 97∧(c.toNat:Int) - 97 < 6):Pure Tryz.prog TB 84 [eT w,eI .i64 i] (eI .i64 ((c.toNat:Int) - 97)):=by
 refine eN Tryz.func84 rfl (by kernel_rfl) rfl ?_;intro Γ hΓ
 (repeat' first|(refine sA rfl ?_ ?_;first|exact tI|omega) |(refine s4 rfl ‹_› rfl ?_ ?_;omega) |refine s2 rfl fun _ _hb=>?_ |refine s3 rfl ?_ ?_<;>rintro rfl |refine aU rfl ?_ |refine Aa ?_|(refine aC rfl ?_ ?_<;>rintro⟨⟩)|refine aK ?_|refine aE ?_|refine aB ?_|refine aR ⟨_,rfl,?_⟩)
 all_goals first
  | rfl
  | (exfalso;grind)
abbrev Iw(kn:Bool)(p:BT)(s:Sys)(q:BT)(al:Int):List D:=[bD kn,iD p.al,CX p.nx,Fu p.ac,iD s.al,iD s.st,FK s.es,iD q.al,CX q.nx,Fu q.ac,iD al]
theorem ES{ls:List UInt8}{w:W}(h:AN ls w)(k:Nat):AN ls (w.take k):=fun c hc=>h c (List.mem_of_mem_take hc)
theorem Tn{ls:List UInt8}{w:W}(h:AN ls w)(k:Nat):AN ls (w.drop k):=fun c hc=>h c (List.mem_of_mem_drop hc)
theorem Kx{p:BT}{w:W}{k:Nat}{c:UInt8}(hc:w[k]? = some c)(q:Int):Cv p q (w.take (k+1))=CW p (Cv p q (w.take k)).toNat ((c.toNat:Int) - 97):=by
 rw [List.take_add_one,hc,JE];rfl
theorem Ky{L:W→Bool}{t:AT}{w:W}{k:Nat}{c:UInt8}(hc:w[k]? = some c)(q:Nat):runM L t q (w.take (k+1))=De L t (t.rows.getD (runM L t q (w.take k)) []++[c]):=by
 rw [List.take_add_one,hc,QI];rfl
theorem XM{p:BT}(hp:A5 p=true)(s:Sys)(q:BT)(al:Int)(kn:Bool)(w:W)(hw:AN (AY p.al) w)(hl:w.length≤1048576) :
 Pure Tryz.prog TB 106 [eT w,.o (.ip [.l (ND p)]),.o (.ip (Iw kn p s q al))] (eB (LA p w)):=by
 have hph:=AI hp
 refine eN Tryz.func106 rfl (by kernel_rfl) rfl ?_;intro Γ hΓ
 (repeat first|refine tA rfl ?_ |refine aU rfl ?_ |refine Aa ?_)
 refine aB ?_
 refine aL (α:={k:Nat // k≤w.length}) [0,1,2,8] [] rfl rfl (fun ⟨k,hk⟩=>[(5,eI .i64 (Cv p 0 (w.take k))),(9,eI .i64 k)]) (fun ⟨k,hk⟩=>[]) 0 (fun ⟨k,hk⟩=>w.length - k) (⟨0,by omega⟩) hΓ rfl (by (simp[cX,zC,hΓ]<;>rfl)) ?_;rintro⟨k,hk⟩;(try dsimp only[cA,cB])
 have hr:=Ea hp (w.take k) 0 (ES hw k) (by omega)
 by_cases hlt:k < w.length
 ·obtain⟨c,hc⟩:=get_some hlt
  have hc':w[((k:Nat):Int).toNat]? = some c:=by simpa using hc
  have hcl:=ER (hw c (List.mem_of_getElem? hc))
  have hla:=DL (TB:=TB) w k c hc' hcl
  have ta:=JJ (a:=p) (q:=(Cv p 0 (w.take k)).toNat) (by omega)
  have el:((((c.toNat:Int) - 97).toNat:Nat):Int)=(c.toNat:Int) - 97:=by omega
  have ra:=Hx (h:=fun l=>CW p (Cv p 0 (w.take k)).toNat l) hcl.1 (by omega)
  simp only [el] at ra
  have hst:=Kx (p:=p) hc 0
  (repeat first|refine s2 rfl fun _ _hb=>?_ |refine aU rfl ?_ |refine Aa ?_)
  (refine aC rfl ?_ ?_<;>rintro⟨⟩)
  ·(repeat' first|(refine sA rfl ?_ ?_;first|exact tI|omega) |(refine s4 rfl ‹_› rfl ?_ ?_;omega) |refine sP rfl (hla) rfl ?_|(refine Af rfl ?_;refine gA rfl ?_;first| refine gS (fun _ _=>En rfl ra) ?_) |refine aU rfl ?_ |refine Aa ?_ |refine rE (by kernel_rfl) ?_|(refine aC rfl ?_ ?_<;>rintro⟨⟩)|refine aK ?_|refine aE ?_|refine aB ?_|refine aR ⟨_,rfl,?_⟩)
   refine⟨⟨k+1,by omega⟩,by dsimp only;(omega),[],?_⟩
   simp[cX,zC,hΓ,hst]
  ·exfalso;(simp only[oZ] at *;omega)
 ·obtain rfl:k=w.length:=by omega
  rw [List.take_length] at *
  obtain⟨b,hb⟩:=get_some (l:=p.ac) (k:=(Cv p 0 w).toNat) (by omega)
  have hb':(p.ac.map Ja)[(Cv p 0 w).toNat]? = some (Ja b):=by simp [hb]
  have hbl:LA p w=b:=by unfold LA;simp [List.getD,hb]
  rw [hbl]
  (repeat first|refine s2 rfl fun _ _hb=>?_ |refine aU rfl ?_ |refine Aa ?_)
  (refine aC rfl ?_ ?_<;>rintro⟨⟩)
  ·exfalso;(simp only[oZ] at *;omega)
  ·(repeat' first|refine tA rfl ?_ |(refine s4 rfl ‹_› rfl ?_ ?_;omega) |refine aU rfl ?_ |refine Aa ?_|(refine aC rfl ?_ ?_<;>rintro⟨⟩)|refine aK ?_|refine aE ?_|refine aB ?_|refine aR ⟨_,rfl,?_⟩)
   rfl
def BX(L:W→Bool)(t:AT)(w:W):Option W:=if I0 L t w=L w then none else splitAt L t (L w) 0 w
theorem JG{L:W→Bool}{t:AT}{b:Bool}{w:W}{k q:Nat}{c:UInt8}(hc:w[k]? = some c):splitAt L t b q (w.drop k)=if L (t.rows.getD (De L t (t.rows.getD q []++[c])) []++w.drop (k+1))≠b then some (w.drop (k+1)) else splitAt L t b (De L t (t.rows.getD q []++[c])) (w.drop (k+1)):=by
 rw [Cz hc,splitAt]
def SB(t:AT)(w v:W):Prop:=∃r,(r=[]∨r∈t.rows)∧∃k:Nat,v=r++w.drop k
theorem Iv{c:C}{L:W→Bool}{ok:W→Prop}(hc:FD Tryz.prog TB c L ok)(al:Int)(t:AT)(hf:Ij ok (AY al) t)(ht:Fp al 20012 t)(hal:Bo al=true)(hcl:BN L (AY al) t)(ho:AO L (AY al) t=none)(w:W)(hfs:∀v,SB t w v→ok v)(hw:AN (AY al) w)(hwl:w.length≤20000) :
 Pure Tryz.prog TB 99 [Ji al c,BV t,eT w] (OS (BX L t w)):=by
 have hr:=Cm c hc.AS
 have hrl:=ht.rl
 have hau:=Im (TB:=TB) hc al t hf ht ho
 have haok:=Lg hal hcl hrl
 have hta:=GV (TB:=TB) (A9 L al t) haok
 have hnl:(A9 L al t).nx.length=t.rows.length:=by simp [A9]
 have h0:0 < t.rows.length:=(List.getElem?_eq_some_iff.1 hcl.r0).1
 have hokw:=hfs w ⟨[],.inl rfl,0,rfl⟩
 have hpu:([Ji al c,BV t].all E.AS && C.Be [])=true:=by simp [E.AS,C.Be,C.AS,hc.AS]
 refine eN Tryz.func99 rfl (by kernel_rfl) rfl ?_;intro Γ hΓ
 (repeat first|refine aU rfl ?_)
 (refine pW rfl ?_ rfl (by rfl);refine Dm rfl rfl ?_)
 (refine Af rfl ?_;refine Ci (fun _ _=>C0 rfl rfl rfl) rfl ?_)
 (repeat first|refine tA rfl ?_ |refine aU rfl ?_ |refine Aa ?_)
 (repeat first|refine tA rfl ?_|(refine Af rfl ?_;refine gA rfl ?_;first| refine gS (fun _ _=>AJ rfl rfl hpu hau rfl) ?_) |refine aU rfl ?_ |refine Aa ?_)
 (repeat first|refine tA rfl ?_ |refine sP rfl (hta) rfl ?_ |refine aU rfl ?_ |refine Aa ?_)
 refine aB ?_
 refine aL (α:={k:Nat // k≤w.length}) [2,3,4,8,9,20] [0,1] rfl rfl (fun ⟨k,hk⟩=>[(10,eI .i64 (runM L t 0 (w.take k):Nat)),(21,eI .i64 k)]) (fun ⟨k,hk⟩=>[]) 2 (fun ⟨k,hk⟩=>w.length - k) (⟨0,by omega⟩) hΓ rfl (by (simp[cX,zC,hΓ,hr]<;>rfl)) ?_;rintro⟨k,hk⟩;(try dsimp only[cA,cB])
 have hrn:=hcl.run (w.take k) 0 (ES hw k) h0
 by_cases hlt:k < w.length
 ·obtain⟨c2,hc2⟩:=get_some hlt
  have hc':w[((k:Nat):Int).toNat]? = some c2:=by simpa using hc2
  have hcm:=hw c2 (List.mem_of_getElem? hc2)
  have hcn:=ER hcm
  have hla:=DL (TB:=TB) w k c2 hc' hcn
  have ta:=JJ (a:=A9 L al t) (q:=(((runM L t 0 (w.take k):Nat):Int)).toNat) (by omega)
  have el:((((c2.toNat:Int) - 97).toNat:Nat):Int)=(c2.toNat:Int) - 97:=by omega
  have ra:=Hx (h:=fun l=>CW (A9 L al t) (((runM L t 0 (w.take k):Nat):Int)).toNat l) hcn.1 (by omega)
  simp only [el] at ra
  have hga:=Jm (L:=L) (al:=al) (t:=t) (q:=runM L t 0 (w.take k)) hrn hcm
  have hst:=Ky (L:=L) (t:=t) hc2 0
  rw [←hst] at hga
  rw [Int.toNat_natCast,hga] at ra
  (repeat first|refine s2 rfl fun _ _hb=>?_ |refine aU rfl ?_ |refine Aa ?_)
  (refine aC rfl ?_ ?_<;>rintro⟨⟩)
  ·(repeat' first|(refine sA rfl ?_ ?_;first|exact tI|omega) |(refine s4 rfl ‹_› rfl ?_ ?_;omega) |refine sP rfl (hla) rfl ?_|(refine Af rfl ?_;refine gA rfl ?_;first| refine gS (fun _ _=>En rfl ra) ?_) |refine aU rfl ?_ |refine Aa ?_ |refine rE (by kernel_rfl) ?_|(refine aC rfl ?_ ?_<;>rintro⟨⟩)|refine aK ?_|refine aE ?_|refine aB ?_|refine aR ⟨_,rfl,?_⟩)
   refine⟨⟨k+1,by omega⟩,by dsimp only;(omega),[0,1],?_⟩
   simp[cX,zC,hΓ,hr]
  ·exfalso;(simp only[oZ] at *;omega)
 ·obtain rfl : k=w.length:=by omega
  rw [List.take_length] at *
  (repeat first|refine s2 rfl fun _ _hb=>?_ |refine aU rfl ?_ |refine Aa ?_)
  (refine aC rfl ?_ ?_<;>rintro⟨⟩)
  ·exfalso;(simp only[oZ] at *;omega)
  ·refine aE ?_
   have hacx:((A9 L al t).ac.map Ja)[(((runM L t 0 w:Nat):Int)).toNat]? = some (Ja (I0 L t w)):=by
    unfold I0
    simp [A9,List.getD,hrn]
   (repeat first|refine tA rfl ?_ |(refine s4 rfl ‹_› rfl ?_ ?_;omega) |refine s2 rfl fun _ _hb=>?_|(refine Af rfl ?_;refine gA rfl ?_;first| refine gS (fun _ _=>hc.ask rfl rfl hokw) ?_) |refine aU rfl ?_ |refine Aa ?_)
   (refine aC rfl ?_ ?_<;>rintro⟨⟩)
   ·have hn:BX L t w=none:=by unfold BX;rw [if_pos (by simpa using _hb)]
    (repeat first|refine tA rfl ?_ |refine aU rfl ?_ |refine Aa ?_)
    refine aR ⟨_,rfl,?_⟩
    rw [hn];rfl
   ·have hso:BX L t w=splitAt L t (L w) 0 w:=by unfold BX;rw [if_neg (by simpa using _hb)]
    rw [hso]
    refine aK ?_
    (repeat first|refine tA rfl ?_ |refine aU rfl ?_ |refine Aa ?_)
    refine aB ?_
    refine aL (α:={k:Nat // k≤w.length∧splitAt L t (L w) 0 w=splitAt L t (L w) (runM L t 0 (w.take k)) (w.drop k)}) [2,3,4,9,12,45] [0] rfl rfl (fun ⟨k,hk,he⟩=>[(10,eI .i64 (runM L t 0 (w.take k):Nat)),(46,eI .i64 k)]) (fun ⟨k,hk,he⟩=>[]) 1 (fun ⟨k,hk,he⟩=>w.length - k) (⟨0,by omega,rfl⟩) hΓ rfl (by (simp[cX,zC,hΓ,hr]<;>rfl)) ?_;rintro⟨k,hk,he⟩;(try dsimp only[cA,cB])
    have hrn:=hcl.run (w.take k) 0 (ES hw k) h0
    by_cases hlt:k < w.length
    ·obtain⟨c2,hc2⟩:=get_some hlt
     have hc':w[((k:Nat):Int).toNat]? = some c2:=by simpa using hc2
     have hcm:=hw c2 (List.mem_of_getElem? hc2)
     have hcn:=ER hcm
     have hla:=DL (TB:=TB) w k c2 hc' hcn
     have ta:=JJ (a:=A9 L al t) (q:=(((runM L t 0 (w.take k):Nat):Int)).toNat) (by omega)
     have el:((((c2.toNat:Int) - 97).toNat:Nat):Int)=(c2.toNat:Int) - 97:=by omega
     have ra:=Hx (h:=fun l=>CW (A9 L al t) (((runM L t 0 (w.take k):Nat):Int)).toNat l) hcn.1 (by omega)
     simp only [el] at ra
     have hga:=Jm (L:=L) (al:=al) (t:=t) (q:=runM L t 0 (w.take k)) hrn hcm
     have hst:=Ky (L:=L) (t:=t) hc2 0
     have hrn2:=hcl.run (w.take (k+1)) 0 (ES hw (k+1)) h0
     rw [JG hc2,←hst] at he
     rw [←hst] at hga
     rw [Int.toNat_natCast,hga] at ra
     generalize hq2:runM L t 0 (w.take (k+1))=q2 at *
     obtain⟨r2,hr2⟩:=get_some (l:=t.rows) (k:=q2) hrn2
     have hr2':=get_map (g:=BD) hr2
     have hgd:t.rows.getD q2 []=r2:=by simp [List.getD,hr2]
     rw [hgd] at he
     have hrb:=ht.onR r2 (List.mem_of_getElem? hr2)
     have hdl:(w.drop (k+1)).length=w.length - (k+1):=List.length_drop
     have hokv:=hfs (r2++w.drop (k+1)) ⟨r2,.inr (List.mem_of_getElem? hr2),k+1,rfl⟩
     have hk1:(((k:Nat):Int)+1).toNat=k+1:=by omega
     (repeat first|refine s2 rfl fun _ _hb=>?_ |refine aU rfl ?_ |refine Aa ?_)
     (refine aC rfl ?_ ?_<;>rintro⟨⟩)
     ·refine aK ?_
      refine aS (aB ?_)
      (repeat first|(refine sA rfl ?_ ?_;first|exact tI|omega) |(refine s4 rfl ‹_› rfl ?_ ?_;omega) |refine sP rfl (hla) rfl ?_|(refine Af rfl ?_;refine gA rfl ?_;first| refine gS (fun _ _=>En rfl ra) ?_) |refine aU rfl ?_ |refine Aa ?_ |refine rE (by kernel_rfl) ?_)
      (repeat first| (refine Af rfl ?_;refine gA rfl ?_;first| refine gS (fun _ _=>C5 rfl rfl (by omega) (by omega)) ?_))
      rw [hk1]
      (repeat first|(refine sA rfl ?_ ?_;first|exact tI|omega) |refine s2 rfl fun _ _hb=>?_|(refine Af rfl ?_;refine gA rfl ?_;first| refine gS (fun _ _=>hc.ask rfl rfl hokv) ?_) |refine Aa ?_)
      (refine aC rfl ?_ ?_<;>rintro⟨⟩)
      ·rw [if_pos (by simpa using _hb)] at he
       (repeat first|(refine sA rfl ?_ ?_;first|exact tI|omega)|(refine Af rfl ?_;refine gA rfl ?_;first| refine gS (fun _ _=>C5 rfl rfl (by omega) (by omega)) ?_) |refine aU rfl ?_ |refine Aa ?_)
       refine aR ⟨_,rfl,?_⟩
       rw [hk1,he];rfl
      ·rw [if_neg (by simpa using _hb)] at he
       refine aK ?_
       (repeat first|(refine sA rfl ?_ ?_;first|exact tI|omega) |refine aU rfl ?_ |refine Aa ?_)
       subst hq2
       refine⟨⟨k+1,by omega,he⟩,by dsimp only;(omega),[0],?_⟩
       simp[cX,zC,hΓ,hr]
     ·exfalso;(simp only[oZ] at *;omega)
    ·obtain rfl:k=w.length:=by omega
     rw [List.drop_length] at he
     (repeat first|refine s2 rfl fun _ _hb=>?_ |refine aU rfl ?_ |refine Aa ?_)
     (refine aC rfl ?_ ?_<;>rintro⟨⟩)
     ·exfalso;(simp only[oZ] at *;omega)
     ·refine aE ?_
      (repeat first|refine tA rfl ?_ |refine aU rfl ?_ |refine Aa ?_)
      refine aR ⟨_,rfl,?_⟩
      rw [he];rfl
theorem Fp.dR{ok:W→Prop}{al:Int}{t:AT}(ht:Fp al 20012 t)(hf:OJ ok al){w:W}(hw:AN (AY al) w)(hwl:w.length≤20000):∀v,SB t w v→ok v:=by
 rintro v ⟨r,hr,k,rfl⟩
 have h1:AN (AY al) r∧r.length≤20012:=by
  rcases hr with rfl|hr
  ·exact⟨fun c hc=>by simp at hc,by simp⟩
  ·exact ht.onR r hr
 refine hf _ (fun c hc=>?_) (by simp;omega)
 rcases List.mem_append.1 hc with hc|hc
 ·exact h1.1 c hc
 ·exact Tn hw _ c hc
def HB(L:W→Bool)(ls:List UInt8)(t:AT)(w:W):Option AT:=(BX L t w).bind fun v=>(Db t v).bind fun u=>A3 L ls 13 u
theorem KT{L:W→Bool}{t:AT}{b:Bool}:∀ {w:W} {q:Nat} {v:W},splitAt L t b q w=some v→∃p,p≠[]∧w=p++v
 | [],q,v,h=>by simp [splitAt] at h
 | c::w,q,v,h=>by
  unfold splitAt at h
  split at h
  ·injection h with h;subst h;exact⟨[c],by simp,rfl⟩
  ·obtain⟨p,_,h2⟩:=KT h;exact⟨c::p,by simp,by rw [h2];rfl⟩
theorem GU{L:W→Bool}{t:AT}{w v:W}(h:BX L t w=some v):∃p,p≠[]∧w=p++v:=by
 unfold BX at h
 split at h
 ·cases h
 ·exact KT h
theorem Fp.mono{al:Int}{b b':Nat}{t:AT}(h:Fp al b t)(hb:b≤b'):Fp al b' t:=⟨fun w hw=>⟨(h.onR w hw).1,Nat.le_trans (h.onR w hw).2 hb⟩,h.onC,h.rl,h.cl⟩
theorem OL{al:Int}{b:Nat}{t u:AT}{v:W}(h:Fp al b t)(hv:AN (AY al) v)(hl:v.length≤20000)(ha:Db t v=some u):Fp al b u:=by
 unfold Db at ha
 split at ha
 ·cases ha
 ·rename_i hn
  injection ha with ha
  subst ha
  refine⟨h.onR,fun x hx=>?_,h.rl,?_⟩
  ·rcases List.mem_append.1 hx with hx|hx
   ·exact h.onC x hx
   ·simp at hx;subst hx;exact⟨hv,hl⟩
  ·have:=h.cl
   have h2:t.cols.length≠20:=fun e=>hn (.inl e)
   simp;omega
def SA(L:W→Bool)(ls:List UInt8)(t:AT)(w v:W):Prop:=LF ls t v∨SB t w v∨∃x,BX L t w=some x∧∃u,Db t x=some u∧∃y∈Du L ls 13 u,LF ls y v
theorem Nt{c:C}{L:W→Bool}{ok:W→Prop}(hc:FD Tryz.prog TB c L ok)(al:Int)(t:AT)(ht:Fp al 20000 t)(hal:Bo al=true)(hcl:BN L (AY al) t)(ho:AO L (AY al) t=none)(w:W)(hf:∀v,SA L (AY al) t w v→ok v)(hw:AN (AY al) w)(hwl:w.length≤20000) :
 Pure Tryz.prog TB 105 [Ji al c,BV t,eT w] (Ex (HB L (AY al) t w)):=by
 have hr:=Cm c hc.AS
 have hpu1:([Ji al c,BV t,eT w].all E.AS && C.Be [])=true:=by simp [E.AS,C.Be,C.AS,hc.AS]
 have hsp:=Iv (TB:=TB) hc al t (fun v hv=>hf v (.inl hv)) (ht.mono (by omega)) hal hcl ho w (fun v hv=>hf v (.inr (.inl hv))) hw hwl
 have hrl:=ht.rl
 have hcl2:=ht.cl
 rcases hs:BX L t w with _|v
 ·have hn:HB L (AY al) t w=none:=by unfold HB;rw [hs];rfl
  rw [hn]
  rw [hs] at hsp
  refine AU.GW (AU.ofM 2 (Nat.le_refl _) Tryz.func105 rfl rfl (by kernel_rfl) (Nat.le_of_ble_eq_true rfl) ?_);intro Γ hΓ
  (repeat first|refine aU rfl ?_)
  (refine pW rfl ?_ rfl (by rfl);refine Dm rfl rfl ?_)
  (refine pW rfl ?_ rfl (by rfl);refine Dm rfl rfl ?_)
  (repeat first|refine tA rfl ?_ |refine aU rfl ?_ |refine Aa ?_)
  (repeat first|refine tA rfl ?_ |refine s2 rfl fun _ _hb=>?_|(refine Af rfl ?_;refine gA rfl ?_;first| refine gS (fun _ _=>AJ rfl rfl hpu1 hsp rfl) ?_) |refine aU rfl ?_ |refine Aa ?_)
  ((refine aC rfl ?_ ?_<;>rintro⟨⟩);all_goals try (simp at _hb;done))
  (repeat first|refine tA rfl ?_|(refine Af rfl ?_;refine gA rfl ?_;first| refine gS (fun _ _=>Av rfl rfl (by rfl) (by rfl)) ?_) |refine aU rfl ?_ |refine Aa ?_)
  refine Ai.settle [(6,.o (.ip [.l [],.l []])),(7,eB false)] ⟨⟨_,rfl,.o (.box rfl (.cons .d (.cons .d .nil)))⟩,⟨_,rfl,.o .d⟩,trivial⟩ ?_
  refine aR ⟨_,rfl,rfl⟩
 ·have hsuf:=GU hs
  have hvw:AN (AY al) v∧v.length≤20000:=by
   obtain⟨p,_,rfl⟩:=hsuf
   exact⟨fun c hc=>hw c (by simp [hc]),by simp at hwl;omega⟩
  have hac:=I6 (TB:=TB) t v (by omega) (by omega)
  rw [hs] at hsp
  rcases ha:Db t v with _|u
  ·have hn:HB L (AY al) t w=none:=by unfold HB;rw [hs];simp [ha]
   rw [hn]
   rw [ha] at hac
   refine AU.GW (AU.ofM 2 (Nat.le_refl _) Tryz.func105 rfl rfl (by kernel_rfl) (Nat.le_of_ble_eq_true rfl) ?_);intro Γ hΓ
   (repeat first|refine aU rfl ?_)
   (refine pW rfl ?_ rfl (by rfl);refine Dm rfl rfl ?_)
   (refine pW rfl ?_ rfl (by rfl);refine Dm rfl rfl ?_)
   (repeat first|refine tA rfl ?_ |refine aU rfl ?_ |refine Aa ?_)
   (repeat first|refine tA rfl ?_ |refine s2 rfl fun _ _hb=>?_|(refine Af rfl ?_;refine gA rfl ?_;first| refine gS (fun _ _=>AJ rfl rfl hpu1 hsp rfl) ?_) |refine aU rfl ?_ |refine Aa ?_)
   ((refine aC rfl ?_ ?_<;>rintro⟨⟩);all_goals try (simp at _hb;done))
   refine aK ?_
   (repeat first|refine tA rfl ?_ |refine s2 rfl fun _ _hb=>?_ |refine sP rfl (hac) rfl ?_ |refine aU rfl ?_ |refine Aa ?_)
   ((refine aC rfl ?_ ?_<;>rintro⟨⟩);all_goals try (simp at _hb;done))
   (repeat first|refine tA rfl ?_|(refine Af rfl ?_;refine gA rfl ?_;first| refine gS (fun _ _=>Av rfl rfl (by rfl) (by rfl)) ?_) |refine aU rfl ?_ |refine Aa ?_)
   refine Ai.settle [(6,.o (.ip [.l [],.l []])),(7,eB false)] ⟨⟨_,rfl,.o (.box rfl (.cons .d (.cons .d .nil)))⟩,⟨_,rfl,.o .d⟩,trivial⟩ ?_
   refine aR ⟨_,rfl,rfl⟩
  ·have hu:=OL ht hvw.1 hvw.2 ha
   have hct:=LO (TB:=TB) hc al u (fun y hy v hv=>hf v (.inr (.inr ⟨_,hs,_,ha,y,hy,hv⟩))) hu
   have hpu2:([Ji al c,BV u].all E.AS && C.Be [])=true:=by simp [E.AS,C.Be,C.AS,hc.AS]
   have hn:HB L (AY al) t w=A3 L (AY al) 13 u:=by unfold HB;rw [hs];simp [ha]
   rw [hn]
   rw [ha] at hac
   rcases hcn:A3 L (AY al) 13 u with _|x
   ·rw [hcn] at hct
    refine AU.GW (AU.ofM 2 (Nat.le_refl _) Tryz.func105 rfl rfl (by kernel_rfl) (Nat.le_of_ble_eq_true rfl) ?_);intro Γ hΓ
    (repeat first|refine aU rfl ?_)
    (refine pW rfl ?_ rfl (by rfl);refine Dm rfl rfl ?_)
    (refine pW rfl ?_ rfl (by rfl);refine Dm rfl rfl ?_)
    (repeat first|refine tA rfl ?_ |refine aU rfl ?_ |refine Aa ?_)
    (repeat first|refine tA rfl ?_ |refine s2 rfl fun _ _hb=>?_|(refine Af rfl ?_;refine gA rfl ?_;first| refine gS (fun _ _=>AJ rfl rfl hpu1 hsp rfl) ?_) |refine aU rfl ?_ |refine Aa ?_)
    ((refine aC rfl ?_ ?_<;>rintro⟨⟩);all_goals try (simp at _hb;done))
    refine aK ?_
    (repeat first|refine tA rfl ?_ |refine s2 rfl fun _ _hb=>?_ |refine sP rfl (hac) rfl ?_ |refine aU rfl ?_ |refine Aa ?_)
    ((refine aC rfl ?_ ?_<;>rintro⟨⟩);all_goals try (simp at _hb;done))
    refine aK ?_
    (repeat first|refine tA rfl ?_|(refine Af rfl ?_;refine gA rfl ?_;first| refine gS (fun _ _=>AJ rfl rfl hpu2 hct rfl) ?_) |refine aU rfl ?_ |refine Aa ?_)
    refine Ai.settle [(6,.o (.ip [.l [],.l []])),(7,eB false)] ⟨⟨_,rfl,.o (.box rfl (.cons .d (.cons .d .nil)))⟩,⟨_,rfl,.o .d⟩,trivial⟩ ?_
    refine aR ⟨_,rfl,rfl⟩
   ·rw [hcn] at hct
    refine AU.GW (AU.ofM 2 (Nat.le_refl _) Tryz.func105 rfl rfl (by kernel_rfl) (Nat.le_of_ble_eq_true rfl) ?_);intro Γ hΓ
    (repeat first|refine aU rfl ?_)
    (refine pW rfl ?_ rfl (by rfl);refine Dm rfl rfl ?_)
    (refine pW rfl ?_ rfl (by rfl);refine Dm rfl rfl ?_)
    (repeat first|refine tA rfl ?_ |refine aU rfl ?_ |refine Aa ?_)
    (repeat first|refine tA rfl ?_ |refine s2 rfl fun _ _hb=>?_|(refine Af rfl ?_;refine gA rfl ?_;first| refine gS (fun _ _=>AJ rfl rfl hpu1 hsp rfl) ?_) |refine aU rfl ?_ |refine Aa ?_)
    ((refine aC rfl ?_ ?_<;>rintro⟨⟩);all_goals try (simp at _hb;done))
    refine aK ?_
    (repeat first|refine tA rfl ?_ |refine s2 rfl fun _ _hb=>?_ |refine sP rfl (hac) rfl ?_ |refine aU rfl ?_ |refine Aa ?_)
    ((refine aC rfl ?_ ?_<;>rintro⟨⟩);all_goals try (simp at _hb;done))
    refine aK ?_
    (repeat first|refine tA rfl ?_|(refine Af rfl ?_;refine gA rfl ?_;first| refine gS (fun _ _=>AJ rfl rfl hpu2 hct rfl) ?_) |refine aU rfl ?_ |refine Aa ?_)
    refine Ai.settle [(6,.o (.ip [AM x.rows,AM x.cols])),(7,eB true)] ⟨⟨_,rfl,.o (.box rfl (.cons .d (.cons .d .nil)))⟩,⟨_,rfl,.o .d⟩,trivial⟩ ?_
    refine aR ⟨_,rfl,rfl⟩
end Go.Am
namespace Go.Am
open Go
set_option linter.unusedVariables false
def dr:Bool×List C→Option E
 | (false,[c])=>some (.o c)
 | (true,cs)=>some (.a cs)
 | _=>none
def SG(f:Env)(σ:Ab)(t:Tmp)(ag:Bool)(n:Nat):Option (Bool×List C):=match f t with
 | some (.o (.d (.p cs)))=>match Nat.ble n cs.length with
  | true=>some (ag,(cs.take n).map .d)
  | false=>none
 | some (.o (.ptr id k i j))=>match look σ id with
  | some (.cells _ k' rows)=>match Nat.beq k k',nth rows i with
   | true,some r=>match Nat.ble (j+n) r.length with
    | true=>some (ag,(r.drop j).take n)
    | false=>none
   | _,_=>none
  | _=>none
 | _=>none
def UD(T:List (Nat×TI))(f:Env)(σ:Ab):ResultVar→Option (Bool×List C)
 | .tmp t=>match f t with
  | some e=>Qu e
  | none=>none
 | .cell t T'=>match (Ii T T').ld with
  | some (true,n)=>SG f σ t true n
  | some (false,1)=>SG f σ t false 1
  | _=>none
def UE(T:List (Nat×TI))(f:Env)(σ:Ab):List ResultVar→Option (List (Bool×List C))
 | []=>some []
 | r::rs=>match UD T f σ r,UE T f σ rs with
  | some x,some xs=>some (x::xs)
  | _,_=>none
def Xf(T:List (Nat×TI))(rs:Array ResultVar)(f:Env)(σ:Ab):Option E:=match rs.toList with
 | []=>some (.t [])
 | [r]=>match UD T f σ r with
  | some x=>dr x
  | none=>none
 | rs=>match rs.length,UE T f σ rs with
  | 2,some xs=>some (.t xs)
  | 3,some xs=>some (.t xs)
  | 4,some xs=>some (.t xs)
  | _,_=>none
def Vj(T:List (Nat×TI))(rs:Array ResultVar)(post:E→Ab→Nat→Prop):Exit→Env→Ab→Nat→Prop
 | .ret,f,σ,nx|.normal,f,σ,nx=>∃x,Xf T rs f σ=some x∧post x σ nx
 | _,_,_,_=>False
section
variable {P:Program}{TB:Bh}{Γ:Ctx}{σ:Ab}
theorem NQ{V:View}{f:Env}{a:Act}{t:Tmp}{T':TypeId}{ag:Bool}{n:Nat}{x:Bool×List C}(hi:Inv TB Γ V σ)(hl:DJ P T' ag n)(h1n:ag=false→n=1)(hE:DN V f a.tmps)(h:SG f σ t ag n=some x) :
 ∃v,((do loadVar T' (←asAddr (a.tmps.getD t undef))):Sem Value).run P V.w=.ok v V.w∧K0 V x v:=by
 have key : ∃ (b o:Nat) (cs:List C) (vs:Nat→Value),a.tmps.getD t undef=.pointer (some ⟨b,o,none⟩)∧x=(ag,cs)∧cs.length=n∧∀(q:Nat) (c:C),cs[q]? = some c→V.w.cell? ⟨b,o+q,none⟩=some (vs q)∧AE V c (vs q):=by
  unfold SG at h
  split at h
  ·rename_i ds hf
   split at h
   ·rename_i hn
    have hn:=Nat.le_of_ble_eq_true hn
    injection h with h
    subst h
    have h3:AE V (.d (.p ds)) (a.tmps.getD t undef):=hE t _ hf
    generalize a.tmps.getD t undef=v0 at h3
    obtain⟨h3⟩:=h3
    cases h3 with
    | @p _ b o vs hb h1 h2=>
     refine⟨b,o,_,vs,rfl,rfl,by simp;omega,fun q c hq=>?_⟩
     rw [List.getElem?_map,Option.map_eq_some_iff] at hq
     obtain⟨dd,hd,rfl⟩:=hq
     rw [List.getElem?_take] at hd
     split at hd
     ·exact⟨h1 q dd hd,.d (h2 q dd hd)⟩
     ·cases hd
   ·cases h
  ·rename_i id k i j hf
   split at h
   ·rename_i T0 k' rows ho
    split at h
    ·rename_i r hk hr
     have hk:=Nat.eq_of_beq_eq_true hk
     subst hk
     split at h
     ·rename_i hn
      have hn:=Nat.le_of_ble_eq_true hn
      injection h with h
      subst h
      rw [Lo] at hr
      have h3:AE V (.ptr id k i j) (a.tmps.getD t undef):=hE t _ hf
      generalize a.tmps.getD t undef=v0 at h3
      cases h3 with
      | ptr hid hnl=>
       rcases hi.st.obj id _ ho with ⟨h4,_⟩|⟨_,cur,h4,h5,h6,h7,h8,h9⟩
       ·exact absurd h4 hnl
       ·refine⟨V.ρ id,i*k+j,_,fun q=>cur.getD (i*k+j+q) undef,rfl,rfl,by simp;omega,fun q c hq=>?_⟩
        rw [List.getElem?_take] at hq
        split at hq
        ·rw [List.getElem?_drop] at hq
         obtain⟨v,h10,h11⟩:=h9 i r (j+q) c hr hq
         rw [←Nat.add_assoc] at h10
         have e:cur.getD (i*k+j+q) undef=v:=by simp [h10]
         dsimp only
         rw [e]
         exact⟨by simp [World.cell?,h4,h10],h11⟩
        ·cases hq
     ·cases h
    ·cases h
   ·cases h
  ·cases h
 obtain⟨b,o,cs,vs,hv,rfl,hlen,hc⟩:=key
 rw [hv]
 cases ag with
 | false=>
  have hn1:=h1n rfl
  subst hn1
  match cs,hlen with
  | [c],_=>
   obtain⟨h1,h2⟩:=hc 0 c rfl
   refine⟨vs 0,?_,c,rfl,h2⟩
   rw [Nat.add_zero] at h1
   simp [asAddr,loadVar,(BI hl.out V.w).1,h1,go_sem]
 | true =>
  refine⟨.agg ((List.range n).map fun q=>vs q).toArray,?_,_,rfl,by simp [hlen],fun j c v hj hvv=>?_⟩
  ·have:(loadCells ⟨b,o,none⟩ n).run P V.w=.ok ((List.range n).map fun q=>vs q).toArray V.w:=run_loadCells V.w _ n _ fun q hq=>by
    rw [Bx]
    exact(hc q cs[q] (List.getElem?_eq_getElem (by omega))).1
   unfold loadCells at this
   simp [asAddr,loadVar,(BI hl.out V.w).1,(BI hl.out V.w).2,this,go_sem]
  ·have hq:j < n:=by have:=(List.getElem?_eq_some_iff.1 hj).1;omega
   have:v=vs j:=by simpa [hq] using hvv.symm
   subst this
   exact(hc j c hj).2
theorem Xe[hT:CN P]{V:View}{f:Env}{a:Act}{r:ResultVar}{x:Bool×List C}(hi:Inv TB Γ V σ)(hE:DN V f a.tmps)(h:UD hT.T f σ r=some x) :
 ∃v,((match r with
  | .tmp t=>pure (a.tmps.getD t undef)
  | .cell b t=>do loadVar t (←asAddr (a.tmps.getD b undef))):Sem Value).run P V.w=.ok v V.w∧K0 V x v:=by
 have hty:=fun t=>Ds (P:=P) t hT.ok
 unfold UD at h
 split at h
 ·rename_i t
  split at h
  ·rename_i e he
   exact⟨_,by simp [go_sem],Fe h (hE t e he)⟩
  ·cases h
 ·rename_i t T'
  split at h
  ·rename_i n hl
   exact NQ hi ((hty T').KK hl) (fun h=>(by cases h)) hE h
  ·rename_i hl
   exact NQ hi ((hty T').KK hl) (fun _=>rfl) hE h
  ·cases h
theorem YL{V:View}{x:Bool×List C}{e:E}{v:Value}(h:dr x=some e)(hr:K0 V x v):Bc V e v:=by
 unfold dr at h
 split at h
 ·injection h with h;subst h
  obtain⟨c,h1,h2⟩:=hr
  simp at h1;subst h1;exact h2
 ·injection h with h;subst h;exact hr
 ·cases h
theorem Xg[hT:CN P]{fn:Func}{V:View}{f:Env}{a:Act}{x:E}(hi:Inv TB Γ V σ)(hE:DN V f a.tmps)(h:Xf hT.T fn.results f σ=some x):∃v,(results fn a.tmps).run P V.w=.ok v V.w∧Bc V x v:=by
 obtain⟨F,hF,hFr⟩:∃F:ResultVar→Sem Value,results fn a.tmps=(do let vs ←fn.results.mapM F;pure (if h:vs.size=1 then vs[0] else .tuple vs))∧∀r x,UD hT.T f σ r=some x→∃v,(F r).run P V.w=.ok v V.w∧K0 V x v:=
  ⟨fun r=>match r with
   | .tmp t=>pure (a.tmps.getD t undef)
   | .cell b t=>do loadVar t (←asAddr (a.tmps.getD b undef)),rfl,fun r x hr=>Xe hi hE hr⟩
 have two:∀ {r:ResultVar} {rs:List ResultVar} {xs:List (Bool×List C)},UE hT.T f σ (r::rs)=some xs→∃y ys,xs=y::ys∧UD hT.T f σ r=some y∧UE hT.T f σ rs=some ys:=by
  intro r rs xs h
  unfold UE at h
  split at h
  ·rename_i y ys h1 h2
   injection h with h;subst h;exact⟨y,ys,rfl,h1,h2⟩
  ·cases h
 have nil:∀ {xs:List (Bool×List C)},UE hT.T f σ []=some xs→xs=[]:=fun h=>by injection h with h;exact h.symm
 have key:∀l:List ResultVar,fn.results=l.toArray→Xf hT.T l.toArray f σ=some x→∃v,(results fn a.tmps).run P V.w=.ok v V.w∧Bc V x v:=by
  intro l hll h
  rw [hF,hll]
  unfold Xf at h
  simp only at h
  match l with
  | []=>
   injection h with h;subst h
   exact⟨.tuple #[],by simp [go_sem],#[],rfl,rfl,fun j x v hj=>by simp at hj⟩
  | [r]=>
   simp only at h
   split at h
   ·rename_i y hy
    obtain⟨v,h1,h2⟩:=hFr r y hy
    exact⟨v,by simp [h1,go_sem],YL h h2⟩
   ·cases h
  | [r1,r2]=>
   simp only [List.length_cons,List.length_nil] at h
   split at h
   ·rename_i xs _ hx
    injection h with h;subst h
    obtain⟨y1,ys,rfl,h1,hx⟩:=two hx
    obtain⟨y2,ys,rfl,h2,hx⟩:=two hx
    have:=nil hx;subst this
    obtain⟨v1,e1,t1⟩:=hFr _ _ h1
    obtain⟨v2,e2,t2⟩:=hFr _ _ h2
    refine⟨.tuple #[v1,v2],by simp [e1,e2,go_sem],_,rfl,rfl,fun j x v' hj hv=>?_⟩
    match j with
    | 0=>simp at hj hv;subst hj;subst hv;exact t1
    | 1=>simp at hj hv;subst hj;subst hv;exact t2
    | j+2=>simp at hj
   ·omega
   ·omega
   ·cases h
  | [r1,r2,r3]=>
   simp only [List.length_cons,List.length_nil] at h
   split at h
   ·omega
   ·rename_i xs _ hx
    injection h with h;subst h
    obtain⟨y1,ys,rfl,h1,hx⟩:=two hx
    obtain⟨y2,ys,rfl,h2,hx⟩:=two hx
    obtain⟨y3,ys,rfl,h3,hx⟩:=two hx
    have:=nil hx;subst this
    obtain⟨v1,e1,t1⟩:=hFr _ _ h1
    obtain⟨v2,e2,t2⟩:=hFr _ _ h2
    obtain⟨v3,e3,t3⟩:=hFr _ _ h3
    refine⟨.tuple #[v1,v2,v3],by simp [e1,e2,e3,go_sem],_,rfl,rfl,fun j x v' hj hv=>?_⟩
    match j with
    | 0=>simp at hj hv;subst hj;subst hv;exact t1
    | 1=>simp at hj hv;subst hj;subst hv;exact t2
    | 2=>simp at hj hv;subst hj;subst hv;exact t3
    | j+3=>simp at hj
   ·omega
   ·cases h
  | [r1,r2,r3,r4]=>
   simp only [List.length_cons,List.length_nil] at h
   split at h
   ·omega
   ·omega
   ·rename_i xs _ hx
    injection h with h;subst h
    obtain⟨y1,ys,rfl,h1,hx⟩:=two hx
    obtain⟨y2,ys,rfl,h2,hx⟩:=two hx
    obtain⟨y3,ys,rfl,h3,hx⟩:=two hx
    obtain⟨y4,ys,rfl,h4,hx⟩:=two hx
    have:=nil hx;subst this
    obtain⟨v1,e1,t1⟩:=hFr _ _ h1
    obtain⟨v2,e2,t2⟩:=hFr _ _ h2
    obtain⟨v3,e3,t3⟩:=hFr _ _ h3
    obtain⟨v4,e4,t4⟩:=hFr _ _ h4
    refine⟨.tuple #[v1,v2,v3,v4],by simp [e1,e2,e3,e4,go_sem],_,rfl,rfl,fun j x v' hj hv=>?_⟩
    match j with
    | 0=>simp at hj hv;subst hj;subst hv;exact t1
    | 1=>simp at hj hv;subst hj;subst hv;exact t2
    | 2=>simp at hj hv;subst hj;subst hv;exact t3
    | 3=>simp at hj hv;subst hj;subst hv;exact t4
    | j+4=>simp at hj
   ·cases h
  | _::_::_::_::_::_=>
   simp only [List.length_cons] at h
   cases h
 exact key fn.results.toList (by simp) (by simpa using h)
theorem AU.Pr [hT:CN P] {g:FuncId} {fn:Func} {c:Code} {m:Nat} {σ:Ab} {nx:Nat} {args:List E} {post:E→Ab→Nat→Prop} (hm:m≤nx) (hf:P.funcs[g]? = some fn) (hb:fn.body=some c) (hname:(fn.name == "runtime.NumGoroutine")=false)
 (hargs:args.length≤fn.ntmps) (h:∀Γ:Ctx,Γ.V.nx=m→Ai P TB Γ fn.ntmps c (Vj hT.T fn.results post) (look (B7 0 args)) σ nx):AU P TB g m σ nx args post:=by
 refine⟨⟨fn,hf,hname,by rw [hb];rfl⟩,?_⟩
 intro V vs S hg ha
 refine calls_of_wp hf hb ?_
 have hs:vs.size≤fn.ntmps:=by rw [ha.1];exact hargs
 have hi:Inv TB (EI V (Kj V m) σ S) V σ:=
  ⟨rfl,rfl,rfl,fun _ _ _=>rfl,hg.iLt,fun _ h=>.inl h,Tb (by rw [hg.nx];exact hm),hg.st,fun id o ho hnl b hb=>.inr (.inl ⟨id,o,ho,hnl,hb⟩),hg.tabs,⟨S,hg.hid,fun b hb=>.inl hb,fun b hb=>.inr (.inr hb)⟩⟩
 have hr:B1 TB (EI V (Kj V m) σ S) fn.ntmps V (look (B7 0 args)) σ nx { tmps:=vs++Array.replicate (fn.ntmps - vs.size) undef,defers:=[] } := by
  refine⟨?_,?_,by simp;omega,hi,hg.nx,rfl⟩
  ·intro t e he
   obtain⟨_,h2⟩:=Cr args 0 t e he
   have h2:args[t]? = some e:=by simpa using h2
   have hlt:t < vs.size:=by rw [ha.1];exact(List.getElem?_eq_some_iff.1 h2).1
   have h3:=ha.2 t e vs[t] h2 (Array.getElem?_eq_getElem hlt)
   simpa [Array.getElem?_append_left hlt,hlt] using h3
  ·intro t e he
   obtain⟨_,h2⟩:=Cr args 0 t e he
   have h2:args[t]? = some e:=by simpa using h2
   have:=(List.getElem?_eq_some_iff.1 h2).1
   omega
 refine wp_mono (h (EI V (Kj V m) σ S) rfl V _ hr) ?_
 rintro e a' w' ⟨V',f',σ',rfl,hq,hr'⟩
 have fin:(∃x,Xf hT.T fn.results f' σ'=some x∧post x σ' V'.nx)→a'.defers=[]∧∃v,(results fn a'.tmps).run P V'.w=.ok v V'.w∧∃V'' v' x σ'',Ending.returned v=.returned v'∧V''.w=V'.w∧Inv TB (EI V (Kj V m) σ S) V'' σ''∧Bc V'' x v'∧post x σ'' V''.nx:=by
  rintro⟨x,hx,hp⟩
  obtain⟨v,hv,he⟩:=Xg (P:=P) hr'.inv hr'.env hx
  exact⟨hr'.defers,v,hv,V',v,x,σ',rfl,rfl,hr'.inv,he,hp⟩
 cases e with
 | normal=>exact fin hq
 | ret=>exact fin hq
 | exit id=>exact hq.elim
 | goto l=>exact hq.elim
 | panic ch=>exact hq.elim
 | outgrown=>exact hq.elim
theorem eG [hT:CN P] {g:FuncId} {fn:Func} {c:Code} {nx:Nat} {args:List E} {post:E→Ab→Nat→Prop} (hf:P.funcs[g]? = some fn) (hb:fn.body=some c) (hname:(fn.name == "runtime.NumGoroutine")=false)
 (ha:Nat.ble args.length fn.ntmps=true) (h:∀Γ:Ctx,Γ.V.nx=nx→Ai P TB Γ fn.ntmps c (Vj hT.T fn.results post) (look (B7 0 args)) σ nx):Spec P TB g σ nx args post:=
 AU.GW (AU.Pr (Nat.le_refl _) hf hb hname (Nat.le_of_ble_eq_true ha) h)
end
end Go.Am
namespace Go.Am
open Go Go.Proofs
set_option maxHeartbeats 1000000
attribute [local irreducible] A1 BZ Lex Bj Ai Spec
variable {TB:Bh}
abbrev bY(kn:Bool)(p:BT)(s:Sys)(q:BT)(al:Int):E:=.a ((Iw kn p s q al).map .d)
theorem Hb(p:BT)(s:Sys)(q:BT)(al:Int):Pure Tryz.prog TB 26 [bY true p s q al] (eI .i64 (if A5 p then p.al else -1)):=by
 refine eN Tryz.func26 rfl (by kernel_rfl) rfl ?_;intro Γ hΓ
 (repeat' first|refine tA rfl ?_ |refine s2 rfl fun _ _hb=>?_ |(refine sC rfl (CY p) ?_;intro _ _hb) |refine s3 rfl ?_ ?_<;>rintro rfl |refine aU rfl ?_ |refine Aa ?_|(refine aC rfl ?_ ?_<;>rintro⟨⟩)|refine aK ?_|refine aE ?_|refine aB ?_|refine aR ⟨_,rfl,?_⟩)
 all_goals first
  | (show E.o _=E.o _;congr;grind)
  | (exfalso;simp at *;done)
abbrev aF(kn:Bool)(p:BT)(s:Sys)(q:BT)(al:Int):C:=.fn 106 [.ip [.l (ND p)],.ip (Iw kn p s q al)]
theorem Y5{p:BT}(hp:A5 p=true)(s:Sys)(q:BT)(al:Int)(kn:Bool):FD Tryz.prog TB (aF kn p s q al) (LA p) (fun w=>AN (AY p.al) w∧w.length≤1048576):=
 .of rfl fun w hw=>XM hp s q al kn w hw.1 hw.2
theorem Ny{p:BT}(hp:A5 p=true)(s:Sys)(q:BT)(al:Int):Pure Tryz.prog TB 57 [bY true p s q al] (.t [(true,[.d (iD p.al),aF true p s q al]),(false,[.d (bD true)])]):=by
 have hT:=Hb (TB:=TB) p s q al
 rw [if_pos hp] at hT
 have h0:=AI hp
 have ha:=h0.1
 unfold Bo at ha
 simp only [decide_eq_true_eq] at ha
 have htb:=GV (TB:=TB) p hp
 refine eG Tryz.func57 rfl (by kernel_rfl) rfl ?_;intro Γ hΓ
 (repeat first|refine tA rfl ?_ |refine sP rfl (hT) rfl ?_ |refine aU rfl ?_ |refine Aa ?_)
 refine aB ?_
 (repeat first|refine tA rfl ?_ |refine s2 rfl fun _ _hb=>?_ |refine aU rfl ?_ |refine Aa ?_)
 ((refine aC rfl ?_ ?_<;>rintro⟨⟩);all_goals try (simp at _hb;done))
 ·exfalso;(simp only[oZ] at *;omega)
 ·(repeat first|refine tA rfl ?_ |refine aU rfl ?_ |refine Aa ?_)
  ((refine aC rfl ?_ ?_<;>rintro⟨⟩);all_goals try (simp at _hb;done))
  refine aS ?_
  refine cy (by kernel_rfl) ?_;(repeat first|refine tA rfl ?_ |refine sP rfl (htb) rfl ?_);refine Aa ?_
  refine aS ?_
  refine Ai.OT [1] [1,2,3,4] rfl [(5,.o (.ip [.l (ND p)]))] ⟨⟨_,rfl,.o (.ptr (by simp) rfl rfl rfl)⟩,trivial⟩ ?_;(try dsimp only[cA,cB])
  (repeat first|refine tA rfl ?_|(refine Af rfl ?_;refine gA rfl ?_;first| refine gS (fun _ _=>Av rfl rfl (by rfl) (by rfl)) ?_) |refine aU rfl ?_ |refine Aa ?_)
  refine aR ⟨_,rfl,rfl⟩
theorem Nx{p:BT}(hp:A5 p=false)(s:Sys)(q:BT)(al:Int):Pure Tryz.prog TB 57 [bY true p s q al] (.t [(true,[.d (iD 0),.d (.v .nilFunc)]),(false,[.d (bD false)])]):=by
 have hT:=Hb (TB:=TB) p s q al
 rw [if_neg (by simp [hp])] at hT
 refine eG Tryz.func57 rfl (by kernel_rfl) rfl ?_;intro Γ hΓ
 (repeat first|refine tA rfl ?_ |refine sP rfl (hT) rfl ?_ |refine aU rfl ?_ |refine Aa ?_)
 refine aB ?_
 (repeat first|refine tA rfl ?_ |refine s2 rfl fun _ _hb=>?_ |refine aU rfl ?_ |refine Aa ?_)
 ((refine aC rfl ?_ ?_<;>rintro⟨⟩);all_goals try (simp at _hb;done))
 ·(repeat first|refine tA rfl ?_|(refine Af rfl ?_;refine gA rfl ?_;first| refine gS (fun _ _=>Av rfl rfl (by rfl) (by rfl)) ?_) |refine aU rfl ?_ |refine Aa ?_)
  refine aR ⟨_,rfl,rfl⟩
end Go.Am
