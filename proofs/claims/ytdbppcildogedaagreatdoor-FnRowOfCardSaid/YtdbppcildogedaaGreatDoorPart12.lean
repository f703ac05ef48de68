/-
  At the end of a call: all that it made becomes data.
-/
import Derived.Test.YtdbppcildogedaaGreatDoorPart11
import Derived.Test.YtdbppcildogedaaGreatDoorPart8
import Derived.Test.YtdbppcildogedaaGreatDoorPart10
import Derived.Test.YtdbppcildogedaaGreatDoorPart9
set_option linter.constructorNameAsVariable false
set_option linter.unusedSimpArgs false
set_option linter.unusedVariables false
namespace Go.Am
open Go
set_option linter.unusedVariables false
inductive FZ (σ:Ab):C→D→Prop
  | d {x:D}:FZ σ (.d x) x
  | fn {g:FuncId}:FZ σ (.fn g []) (.v (.func (.func g) #[] #[]))
  | arr {id k off len:Nat} {T:TypeId} {rows:List (List C)} {ds:List (List D)} {rs:Nat→List C} {cs:Nat→Nat→C}:look σ id=some (.cells T k rows)→off+len≤rows.length→ds.length=len→
      (∀i r',ds[i]? = some r'→rows[off+i]? = some (rs i)∧(rs i).length=r'.length)→(∀i j r' x,ds[i]? = some r'→r'[j]? = some x→(rs i)[j]? = some (cs i j))→
      (∀i j r' x,ds[i]? = some r'→r'[j]? = some x→FZ σ (cs i j) x)→FZ σ (.arr id k off len) (.l ds)
  | ptr {id k i j:Nat} {T:TypeId} {rows:List (List C)} {r:List C} {ds:List D} {cs:Nat→C}:look σ id=some (.cells T k rows)→rows[i]? = some r→(∀q x,ds[q]? = some x→r[j+q]? = some (cs q))→(∀q x,ds[q]? = some x→FZ σ (cs q) x)→FZ σ (.ptr id k i j) (.p ds)
  | sld {id:Nat} {T:TypeId} {l:List (Value×List Value)} {v:Value} {row:List Value}:look σ id=some (.sld T l)→(v,row)∈l→FZ σ (.d (.v v)) (.l (row.map fun x=>[.v x]))
  | nl {b:Option Addr}:FZ σ (.d (.v (.slice b 0 0))) (.l [])
inductive QR (σ:Ab):List C→List D→Prop
  | nil:QR σ [] []
  | cons {c:C} {d:D} {cs:List C} {ds:List D}:FZ σ c d→QR σ cs ds→QR σ (c::cs) (d::ds)
theorem QR.get {σ:Ab} {cs:List C} {ds:List D} (h:QR σ cs ds):cs.length=ds.length∧∀(j:Nat) x,ds[j]? = some x→∃c,cs[j]? = some c∧FZ σ c x:=by
  induction h with
  | nil=>exact ⟨rfl,fun j x h=>by simp at h⟩
  | @cons c d cs ds h1 _ ih=>
    refine ⟨by simp [ih.1],fun j x hj=>?_⟩
    cases j with
    | zero=>simp at hj;subst hj;exact ⟨c,rfl,h1⟩
    | succ j=>exact ih.2 j x (by simpa using hj)
theorem QR.refl {σ:Ab}:∀(ds:List D),QR σ (ds.map .d) ds
  | []=>.nil
  | d::ds=>.cons .d (QR.refl ds)
theorem FZ.rows {σ:Ab} {id k len:Nat} {T:TypeId} {rows:List (List C)} {ds:List (List D)} (hl:look σ id=some (.cells T k rows)) (hn:ds.length=len) (hr:rows.length=len) (h:∀(i:Nat) (r':List D),ds[i]? = some r'→∃r,rows[i]? = some r∧QR σ r r'):FZ σ (.arr id k 0 len) (.l ds):=by
  refine .arr (rs:=fun i=>(rows[i]?).getD []) (cs:=fun i j=>(((rows[i]?).getD [])[j]?).getD (.d (.l []))) hl (by omega) hn (fun i r' hi=>?_) (fun i j r' x hi hj=>?_) (fun i j r' x hi hj=>?_)
  · obtain ⟨r,h1,h2⟩:=h i r' hi
    rw [Nat.zero_add,h1]
    exact ⟨rfl,h2.get.1⟩
  · obtain ⟨r,h1,h2⟩:=h i r' hi
    obtain ⟨c,h3,h4⟩:=h2.get.2 j x hj
    simp [h1,h3]
  · obtain ⟨r,h1,h2⟩:=h i r' hi
    obtain ⟨c,h3,h4⟩:=h2.get.2 j x hj
    simp [h1,h3,h4]
theorem FZ.full {σ:Ab} {id k len:Nat} {T:TypeId} {rows:List (List C)} {ds:List (List D)} (hl:look σ id=some (.cells T k rows)) (hr:rows=ds.map (fun r=>r.map .d)) (hn:rows.length=len):FZ σ (.arr id k 0 len) (.l ds):=by
  refine .rows hl (by rw [←hn,hr];simp) hn fun i r' hi=>⟨r'.map .d,?_,QR.refl _⟩
  rw [hr];simp [hi]
theorem FZ.box {σ:Ab} {id k:Nat} {T:TypeId} {r:List C} {ds:List D} (hl:look σ id=some (.cells T k [r])) (h:QR σ r ds):FZ σ (.ptr id k 0 0) (.p ds):=by
  refine .ptr (cs:=fun q=>(r[q]?).getD (.d (.l []))) hl rfl (fun q x hq=>?_) (fun q x hq=>?_)
  · obtain ⟨c,h3,h4⟩:=h.get.2 q x hq
    rw [Nat.zero_add,h3];rfl
  · obtain ⟨c,h3,h4⟩:=h.get.2 q x hq
    simp [h3,h4]
inductive EZ (σ:Ab):E→E→Prop
  | Bi {e:E}:e.A9=true→EZ σ e e
  | o {c:C} {d:D}:FZ σ c d→EZ σ (.o c) (.o (.d d))
  | a {cs:List C} {ds:List D}:QR σ cs ds→EZ σ (.a cs) (.a (ds.map .d))
def ME (σ:Ab) (f:Env):List (Nat×E)→Prop
  | []=>True
  | (t,e')::L=>(∃e,f t=some e∧EZ σ e e')∧ME σ f L
theorem ME.get {σ:Ab} {f:Env}:∀ {L:List (Nat×E)},ME σ f L→∀t e',look L t=some e'→∃e,f t=some e∧EZ σ e e'
  | [],_,t,e,h=>by cases h
  | (k,x)::L,hs,t,e,h=>by
    rw [Ar] at h
    by_cases hk:k=t
    · rw [if_pos hk] at h;injection h with h;subst h;subst hk;exact hs.1
    · rw [if_neg hk] at h;exact ME.get hs.2 t e h
def DH (V:View) (σ:Ab):View:={ V with I:=fun b=>V.I b∨∃id o,look σ id=some o∧¬V.nl id∧De V id o b }
theorem Jc {V:View} {σ:Ab}:Ext V (DH V σ):=⟨fun _ h=>.inl h,fun _ _=>rfl,Nat.le_refl _,fun _ _=>rfl,fun _ _=>rfl,fun _ _=>Iff.rfl,Nat.le_refl _⟩
section
variable {P:Program} {TB:A7} {Γ:Ctx} {N:Nat} {σ:Ab}
theorem Hc.data {I:Nat→Prop} {w:World} {T:TypeId} {v:Value} {row:List Value} (h:Hc w T v row) (hI:∀b,GL v b→I b):Cp I w (.l (row.map fun x=>[.v x])) v:=by
  rcases h with ⟨rfl,rfl⟩|⟨b,cap,cur,rfl,h2,h3,h4,h5,h6⟩
  · exact .nil
  · have hn:row.length=(row.map fun x=>[D.v x]).length:=by simp
    have hg:∀(i:Nat) (r:List D) (j:Nat) (d:D),(row.map fun x=>[D.v x])[i]? = some r→r[j]? = some d→j=0∧∃x,row[i]? = some x∧d=.v x:=fun i r j d hi hj=>by
      simp only [List.getElem?_map,Option.map_eq_some_iff] at hi
      obtain ⟨x,hx,rfl⟩:=hi
      have hj0:j=0:=by have:=(List.getElem?_eq_some_iff.1 hj).1;simp at this;omega
      subst hj0
      simp at hj
      exact ⟨rfl,x,hx,hj.symm⟩
    rw [hn]
    refine .l (k:=1) (vs:=fun i _=>(row[i]?).getD undef) (hI b ⟨_,_,_,rfl⟩) (by simpa using h4) h5 (fun i r hi=>?_) (fun i r j d hi hj=>?_) (fun i r j d hi hj=>?_)
    · simp only [List.getElem?_map,Option.map_eq_some_iff] at hi
      obtain ⟨x,hx,rfl⟩:=hi;rfl
    · obtain ⟨rfl,x,hx,rfl⟩:=hg i r j d hi hj
      simp [World.cell?,h2,hx,(h6 i x hx).1]
    · obtain ⟨rfl,x,hx,rfl⟩:=hg i r j d hi hj
      simp only [hx,Option.getD_some]
      exact .v (h6 i x hx).2
theorem FZ.rel {V:View} (hi:Inv TB Γ V σ) {c:C} {d:D} (h:FZ σ c d):∀ {v:Value},Aw V c v→Cp (DH V σ).I V.w d v:=by
  induction h with
  | d=>intro v hc;cases hc with|d h=>exact h.ext (V:=V) (V':=DH V σ) Jc
  | @sld id T l v row hl hm=>
    intro v' hc
    have hv:v'=v:=Aw.val hc
    subst hv
    have h1:=hi.st.obj id _ hl
    exact (h1.2.2 _ hm).data fun b hb=>.inr ⟨id,_,hl,h1.1,⟨_,hm,hb⟩⟩
  | @nl b=>
    intro v' hc
    have hv:v'=_:=Aw.val hc
    subst hv
    cases b
    · exact .nil
    · exact .e (Nat.zero_le _)
  | fn =>
    intro v hc
    cases hc with
    | @fn f cap vs h1 _=>
      have:vs = #[]:=Array.eq_empty_of_size_eq_zero (by simpa using h1)
      subst this
      exact .v rfl
  | @arr id k off len T rows ds rs cs hl hle hn h1 h2 _ ih=>
    intro v hc
    cases hc with
    | nil h3 h4=>
      have:ds=[]:=List.length_eq_zero_iff.1 hn
      subst this
      exact .nil
    | arr h3 hnl h4=>
      rcases hi.st.obj id _ hl with ⟨h5,_⟩|⟨_,cur,h5,h6,h7,h8,h9,h10⟩
      · exact absurd h5 hnl
      · have hcell:∀(i:Nat) (r:List D) (j:Nat) (x:D),ds[i]? = some r→r[j]? = some x→∃v,cur[(off+i)*k+j]? = some v∧Cp (DH V σ).I V.w x v:=fun i r j x hi' hj=>by
          obtain ⟨v,h11,h12⟩:=h10 (off+i) (rs i) j (cs i j) (h1 i r hi').1 (h2 i j r x hi' hj)
          exact ⟨v,h11,ih i j r x hi' hj h12⟩
        rw [←hn] at h4 ⊢
        refine .l (b:=V.ρ id) (o:=off*k) (k:=k) (vs:=fun i j=>cur.getD ((off+i)*k+j) undef) (.inr ⟨id,_,hl,hnl,rfl⟩) (by omega) (by omega) (fun i r hi'=>?_) (fun i r j x hi' hj=>?_) (fun i r j x hi' hj=>?_)
        · have h13:=h1 i r hi'
          rw [←h13.2]
          exact h9 _ (List.mem_of_getElem? h13.1)
        · obtain ⟨v,h11,_⟩:=hcell i r j x hi' hj
          have e:off*k+i*k+j=(off+i)*k+j:=by rw [Nat.add_mul]
          rw [e]
          simp [World.cell?,h5,h11]
        · obtain ⟨v,h11,h12⟩:=hcell i r j x hi' hj
          have:cur.getD ((off+i)*k+j) undef=v:=by simp [h11]
          simp only [this]
          exact h12
  | @ptr id k i j T rows r ds cs hl hri h1 _ ih=>
    intro v hc
    cases hc with
    | ptr h3 hnl=>
      rcases hi.st.obj id _ hl with ⟨h5,_⟩|⟨_,cur,h5,h6,h7,h8,h9,h10⟩
      · exact absurd h5 hnl
      · have hcell:∀(q:Nat) (x:D),ds[q]? = some x→∃v,cur[i*k+j+q]? = some v∧Cp (DH V σ).I V.w x v:=fun q x hq=>by
          obtain ⟨v,h11,h12⟩:=h10 i r (j+q) (cs q) hri (h1 q x hq)
          exact ⟨v,by rw [Nat.add_assoc];exact h11,ih q x hq h12⟩
        refine .p (b:=V.ρ id) (o:=i*k+j) (vs:=fun q=>cur.getD (i*k+j+q) undef) (.inr ⟨id,_,hl,hnl,rfl⟩) (fun q x hq=>?_) (fun q x hq=>?_)
        · obtain ⟨v,h11,_⟩:=hcell q x hq
          simp [World.cell?,h5,h11]
        · obtain ⟨v,h11,h12⟩:=hcell q x hq
          have:cur.getD (i*k+j+q) undef=v:=by simp [h11]
          simp only [this]
          exact h12
theorem EZ.rel {V:View} (hi:Inv TB Γ V σ) {e e':E} (h:EZ σ e e') {v:Value} (hv:AV V e v):AV (DH V σ) e' v:=by
  cases h with
  | Bi=>exact hv.ext Jc
  | o h=>exact Aw.d (V:=DH V σ) (h.rel hi hv)
  | @a cs ds h=>
    obtain ⟨vs,rfl,h1,h2⟩:=hv
    refine ⟨vs,rfl,by rw [h1,h.get.1];simp,fun j c v hj hv=>?_⟩
    simp only [List.getElem?_map,Option.map_eq_some_iff] at hj
    obtain ⟨x,hx,rfl⟩:=hj
    obtain ⟨c,h3,h4⟩:=h.get.2 j x hx
    exact Aw.d (V:=DH V σ) (h4.rel hi (h2 j c v h3 hv))
theorem Ak.settle {c:Code} {Q:Exit→Env→Ab→Nat→Prop} {f:Env} {nx:Nat} (L:List (Nat×E)) (hE:ME σ f L) (h:Ak P TB Γ N c Q (look L) [] nx):Ak P TB Γ N c Q f σ nx:=by
  intro V a hr
  refine h (DH V σ) a ⟨fun t x hx=>?_,fun t x hx=>?_,hr.size,?_,hr.nx,hr.defers⟩
  · obtain ⟨y,h1,h2⟩:=hE.get t x hx
    exact h2.rel hr.inv (hr.env t y h1)
  · obtain ⟨y,h1,_⟩:=hE.get t x hx
    exact hr.lt t y h1
  · have hi:=hr.inv
    refine ⟨hi.os,hi.tape,hi.output,hi.old,?_,?_,hi.ext.trans Jc,C3,fun id o ho=>(by cases ho),fun x hx=>⟨.inl (hi.tabs x hx).1,(hi.tabs x hx).2⟩,hi.hid.same rfl (fun _ h=>.inl h) (fun b hb=>hb.elim .inl fun ⟨id,o,hl,hn,he⟩=>.inr ⟨id,o,hl,hn,he⟩) fun b ⟨_,_,h,_⟩=>by cases h⟩
    · rintro b (hb|⟨id,o,hl,hn,hb⟩)
      · exact hi.iLt b hb
      · exact (hi.st.obj id o hl).blt hn hb
    · rintro b (hb|⟨id,o,hl,hn,hb⟩)
      · exact hi.iNew b hb
      · exact .inr (hi.live id o hl hn b hb)
theorem Ld {ids:List Nat} {L0:List (Nat×E)}:∀ {ks:List Nat} {Lk:List (Nat×E)},JP L0 ks=some Lk→CX σ ids (look L0) Lk
  | [],Lk,h=>by injection h with h;subst h;trivial
  | k :: ks,Lk,h=>by
    unfold JP at h
    split at h
    · rename_i e l h1 h2
      injection h with h
      subst h
      exact ⟨⟨e,h1,.Bi⟩,Ld h2⟩
    · cases h
theorem CX.app {ids:List Nat} {f:Env}:∀ {L M:List (Nat×E)},CX σ ids f L→CX σ ids f M→CX σ ids f (L++M)
  | [],_,_,h=>h
  | _::_,_,h,h'=>⟨h.1,CX.app h.2 h'⟩
theorem Ak.Tx {c:Code} {Q:Exit→Env→Ab→Nat→Prop} {L0 Lk:List (Nat×E)} {nx:Nat} (ids ks:List Nat) (hk:JP L0 ks=some Lk) (L:List (Nat×E)) (hE:CX σ ids (look L0) L) (h:Ak P TB Γ N c Q (look (L++Lk)) (CN ids σ) nx):Ak P TB Γ N c Q (look L0) σ nx:=
  Ak.freeze ids (L++Lk) (hE.app (Ld hk)) h
section
variable {d:Option Tmp} {ty:TypeId} {pos:String} {af:Array Edge} {g:Option (Nat×Bool)} {f:Env} {nx:Nat}
theorem DM {t:TypeId} {x lo:Operand} {s:List UInt8} {m:Int} {k:IntKind} [ht:CY P t] (hx:ev f x=some (eT s)) (hl:ev f lo=some (eI k m)) (h0:0≤m) (h1:m≤s.length):AU P TB Γ ⟨d,.slice t x (some lo) none none,ty,pos,af,g⟩ f σ nx (eT (s.drop m.toNat)):=by
  have h:=Mn (P:=P) (TB:=TB) (Γ:=Γ) (d:=d) (ty:=ty) (pos:=pos) (af:=af) (g:=g) (σ:=σ) (nx:=nx) (t:=t) (x:=x) (lo:=some lo) (hi:=none) (l:=some (k,m)) (h:=none) hx (by simp [Tf,hl]) rfl h0 h1 (Int.le_refl _)
  simpa [HX,Ic] using h
theorem Mo {t:TypeId} {x hi:Operand} {s:List UInt8} {m:Int} {k:IntKind} [ht:CY P t] (hx:ev f x=some (eT s)) (hl:ev f hi=some (eI k m)) (h0:0≤m) (h1:m≤s.length):AU P TB Γ ⟨d,.slice t x none (some hi) none,ty,pos,af,g⟩ f σ nx (eT (s.take m.toNat)):=by
  have h:=Mn (P:=P) (TB:=TB) (Γ:=Γ) (d:=d) (ty:=ty) (pos:=pos) (af:=af) (g:=g) (σ:=σ) (nx:=nx) (t:=t) (x:=x) (lo:=none) (hi:=some hi) (l:=none) (h:=some (k,m)) hx rfl (by simp [Tf,hl]) (Int.le_refl _) h0 h1
  simpa [HX,Ic] using h
theorem PB {t e:TypeId} {b n:Nat} {x lo:Operand} {rows:List (List D)} {m:Int} {k:IntKind} [hsl:BN P t e n b] (hx:ev f x=some (.o (.d (.l rows)))) (hl:ev f lo=some (eI k m)) (hn:∀r∈rows,r.length=n) (h0:0≤m) (h1:m≤rows.length):AU P TB Γ ⟨d,.slice t x (some lo) none none,ty,pos,af,g⟩ f σ nx (.o (.d (.l (rows.drop m.toNat)))):=by
  have h:=PE (P:=P) (TB:=TB) (Γ:=Γ) (d:=d) (ty:=ty) (pos:=pos) (af:=af) (g:=g) (σ:=σ) (nx:=nx) (t:=t) (x:=x) (lo:=some lo) (hi:=none) (l:=some (k,m)) (h:=none) hx (by simp [Tf,hl]) rfl hn h0 h1 (Int.le_refl _)
  simpa [HX,Ic] using h
theorem Gm {t e:TypeId} {b n:Nat} {x hi:Operand} {rows:List (List D)} {m:Int} {k:IntKind} [hsl:BN P t e n b] (hx:ev f x=some (.o (.d (.l rows)))) (hl:ev f hi=some (eI k m)) (hn:∀r∈rows,r.length=n) (h0:0≤m) (h1:m≤rows.length):AU P TB Γ ⟨d,.slice t x none (some hi) none,ty,pos,af,g⟩ f σ nx (.o (.d (.l (rows.take m.toNat)))):=by
  have h:=PE (P:=P) (TB:=TB) (Γ:=Γ) (d:=d) (ty:=ty) (pos:=pos) (af:=af) (g:=g) (σ:=σ) (nx:=nx) (t:=t) (x:=x) (lo:=none) (hi:=some hi) (l:=none) (h:=some (k,m)) hx rfl (by simp [Tf,hl]) hn (Int.le_refl _) h0 h1
  simpa [HX,Ic] using h
end
end
end Go.Am
namespace Go.Am
open Go Go.Proofs
end Go.Am
namespace Go.Am
open Go Go.Proofs
set_option maxHeartbeats 1000000
attribute [local irreducible] AU B0 Lex Bo Ak Spec
variable {TB:A7}
end Go.Am
namespace Go.Am
open Go
section
variable {P:Program} {TB:A7} {Γ:Ctx} {d:Option Tmp} {ty:TypeId} {pos:String} {af:Array Edge} {g:Option (Nat×Bool)} {f:Env} {σ:Ab} {nx:Nat}
variable {K:E→Ab→Nat→Prop}
theorem Lp {t:TypeId} {z:List Value} {fl:List (Nat×Nat)} {parts:Array (Nat×Operand)} {es:List E} {qs:List (Nat×List C)} [hz:Bz P t z] [hf:DE P t fl] (p k e q k' e':Nat) (hp:z[p]? = some (.slice none 0 0)) (hp':z[q]? = some (.slice none 0 0)) (hpq:p≠q) (hes:Gd f (parts.toList.map (·.2))=some es) (hq:Dx fl parts.toList es=some qs)
    (hok:z.all KF=true) (hle:(qs.all fun x=>Nat.ble (x.1+x.2.length) z.length)=true) (hK:K (.a (BQ qs (((z.map zC).set p (.arr nx k 0 0)).set q (.arr (nx+1) k' 0 0)))) ((nx+1,.cells e' k' [])::(nx,.cells e k [])::σ) (nx+2)):B0 P TB Γ ⟨d,.build t parts,ty,pos,af,g⟩ f σ nx K:=
  CT fun V ρ h1 h2 h3=>by
    subst h3
    obtain ⟨i,zv,hi,hzv,hzz⟩:=FW hz.out
    obtain ⟨hi1,he1⟩:=h2.alloc (c:=0) (nl:=True) (w:=V.w) (ob:=.cells e k []) rfl rfl rfl rfl (Nat.le_refl _) (fun _ _=>rfl) (.inl ⟨by simp [Al],rfl⟩)
    obtain ⟨hi2,he2⟩:=hi1.alloc (c:=0) (nl:=True) (w:=V.w) (ob:=.cells e' k' []) rfl rfl rfl rfl (Nat.le_refl _) (fun _ _=>rfl) (.inl ⟨by simp [Al],rfl⟩)
    have he3:=he1.trans he2
    have hfo:=Ce (V:=Al (Al V V.w.heap.size 0 True V.w) V.w.heap.size 0 True V.w) (ρ:=ρ) parts.toList es qs (fun x hx e he=>(h1.get (by simp only [Op.operands];simpa using hx) he).ext he3) hes hq
    have hzr:Cf (Al (Al V V.w.heap.size 0 True V.w) V.w.heap.size 0 True V.w) (((z.map zC).set p (.arr V.nx k 0 0)).set q (.arr (V.nx+1) k' 0 0)) zv.cells:=by
      refine ⟨by rw [List.length_set,List.length_set,List.length_map,←hzz];simp,fun j c v hj hv=>?_⟩
      have hzj:z[j]? = some v:=by rw [←hzz,Array.getElem?_toList];exact hv
      by_cases hjq:q=j
      · subst hjq
        rw [hp'] at hzj
        injection hzj with hzj
        subst hzj
        rw [List.getElem?_set_self (by rw [List.length_set,List.length_map];exact (List.getElem?_eq_some_iff.1 hp').1)] at hj
        injection hj with hj
        subst hj
        exact Aw.nil (by simp [Al]) (by simp [Al])
      · rw [List.getElem?_set_ne hjq] at hj
        by_cases hjp:p=j
        · subst hjp
          rw [hp] at hzj
          injection hzj with hzj
          subst hzj
          rw [List.getElem?_set_self (by rw [List.length_map];exact (List.getElem?_eq_some_iff.1 hp).1)] at hj
          injection hj with hj
          subst hj
          exact Aw.nil (by simp [Al];omega) (by simp [Al])
        · rw [List.getElem?_set_ne hjp,List.getElem?_map,hzj] at hj
          injection hj with hj
          subst hj
          exact Ha (List.all_eq_true.1 hok v (List.mem_of_getElem? hzj))
    obtain ⟨cells,h4,h5⟩:=DY _ _ _ _ hfo hzr (fun x hx=>by rw [List.length_set,List.length_set,List.length_map];exact FB _ _ hle x hx)
    have hb:=run_build (P:=P) (ρ:=ρ) (parts:=parts) (V:=V) hi hzv hf.out h4
    refine ⟨.agg cells,_,_,_,?_,he3,hi2,(show AV _ (.a _) _ from ⟨cells,rfl,h5⟩),hK⟩
    show ((do let v ←Instr.build t (parts.map fun (i,x)=>(i,ρ x));pure (Go.Next.value v):Sem Go.Next)).run P V.w=_
    simp only [Sem.run_bind,hb,Result.andThen_ok]
    rfl
end
end Go.Am
namespace Go.Am
open Go Go.Proofs
set_option maxHeartbeats 1000000
attribute [local irreducible] AU B0 Lex Bo Ak Spec
variable {TB:A7}
theorem Es (w:W) (i:Nat) (c:UInt8) (hc:w[((i:Nat):Int).toNat]? = some c) (hl:0≤(c.toNat:Int) - 97∧(c.toNat:Int) - 97 < 6):Pure Tryz.prog TB 69 [eT w,eI .i64 i] (eI .i64 ((c.toNat:Int) - 97)):=by
  refine eN Tryz.func69 rfl (by kernel_rfl) rfl ?_;intro Γ hΓ
  (repeat' first|(refine sA rfl ?_ ?_;first|exact tI|omega) |(refine s4 rfl ‹_› rfl ?_ ?_;omega) |refine s2 rfl fun _ _hb=>?_ |refine s3 rfl ?_ ?_<;>rintro rfl |refine aU rfl ?_ |refine Aa ?_|(refine aC rfl ?_ ?_<;>rintro ⟨⟩)|refine aK ?_|refine aE ?_|refine aB ?_|refine aR ⟨_,rfl,?_⟩)
  all_goals first
    | rfl
    | (exfalso;grind)
abbrev LF (kn:Bool) (p:Cj) (s:Sys) (q:Cj) (al:Int):List D:=[bD kn,iD p.al,Ez p.nx,Iz p.ac,iD s.al,iD s.st,Ey s.es,iD q.al,Ez q.nx,Iz q.ac,iD al]
theorem Mf {ls:List UInt8} {w:W} (h:A1 ls w) (k:Nat):A1 ls (w.take k):=fun c hc=>h c (List.mem_of_mem_take hc)
theorem Ip {p:Cj} {w:W} {k:Nat} {c:UInt8} (hc:w[k]? = some c) (q:Int):CD p q (w.take (k+1))=Dl p (CD p q (w.take k)).toNat ((c.toNat:Int) - 97):=by
  rw [List.take_add_one,hc,HB];rfl
theorem Tr {p:Cj} (hp:Bf p=true) (s:Sys) (q:Cj) (al:Int) (kn:Bool) (w:W) (hw:A1 (Bc p.al) w) (hl:w.length≤1048576) :
    Pure Tryz.prog TB 90 [eT w,.o (.ip [.l (My p)]),.o (.ip (LF kn p s q al))] (eB (LA p w)):=by
  have hph:=AN hp
  refine eN Tryz.func90 rfl (by kernel_rfl) rfl ?_;intro Γ hΓ
  (repeat first|refine tA rfl ?_ |refine aU rfl ?_ |refine Aa ?_)
  refine aB ?_
  refine aL (α:={k:Nat // k≤w.length}) [0,1,2,8] [] rfl rfl (fun ⟨k,hk⟩=>[(5,eI .i64 (CD p 0 (w.take k))),(9,eI .i64 k)]) (fun ⟨k,hk⟩=>[]) 0 (fun ⟨k,hk⟩=>w.length - k) (⟨0,by omega⟩) hΓ rfl (by (simp[cX,zC,hΓ]<;>rfl)) ?_;rintro ⟨k,hk⟩;(try dsimp only[cA,cB])
  have hr:=DN hp (w.take k) 0 (Mf hw k) (by omega)
  by_cases hlt:k < w.length
  · obtain ⟨c,hc⟩:=get_some hlt
    have hc':w[((k:Nat):Int).toNat]? = some c:=by simpa using hc
    have hcl:=Gi (hw c (List.mem_of_getElem? hc))
    have hla:=Es (TB:=TB) w k c hc' hcl
    have ta:=Mz (a:=p) (q:=(CD p 0 (w.take k)).toNat) (by omega)
    have el:((((c.toNat:Int) - 97).toNat:Nat):Int)=(c.toNat:Int) - 97:=by omega
    have ra:=Ki (h:=fun l=>Dl p (CD p 0 (w.take k)).toNat l) hcl.1 (by omega)
    simp only [el] at ra
    have hst:=Ip (p:=p) hc 0
    (repeat first|refine s2 rfl fun _ _hb=>?_ |refine aU rfl ?_ |refine Aa ?_)
    (refine aC rfl ?_ ?_<;>rintro ⟨⟩)
    · (repeat' first|(refine sA rfl ?_ ?_;first|exact tI|omega) |(refine s4 rfl ‹_› rfl ?_ ?_;omega) |refine sP rfl (hla) rfl ?_|(refine Af rfl ?_;refine gA rfl ?_;first| refine gS (fun _ _=>EY rfl ra) ?_) |refine aU rfl ?_ |refine Aa ?_ |refine rE (by kernel_rfl) ?_|(refine aC rfl ?_ ?_<;>rintro ⟨⟩)|refine aK ?_|refine aE ?_|refine aB ?_|refine aR ⟨_,rfl,?_⟩)
      refine ⟨⟨k+1,by omega⟩,by dsimp only;(omega),[],?_⟩
      simp[cX,zC,hΓ,hst]
    · exfalso;(simp only[oZ] at *;omega)
  · obtain rfl:k=w.length:=by omega
    rw [List.take_length] at *
    obtain ⟨b,hb⟩:=get_some (l:=p.ac) (k:=(CD p 0 w).toNat) (by omega)
    have hb':(p.ac.map KI)[(CD p 0 w).toNat]? = some (KI b):=by simp [hb]
    have hbl:LA p w=b:=by unfold LA;simp [List.getD,hb]
    rw [hbl]
    (repeat first|refine s2 rfl fun _ _hb=>?_ |refine aU rfl ?_ |refine Aa ?_)
    (refine aC rfl ?_ ?_<;>rintro ⟨⟩)
    · exfalso;(simp only[oZ] at *;omega)
    · (repeat' first|refine tA rfl ?_ |(refine s4 rfl ‹_› rfl ?_ ?_;omega) |refine aU rfl ?_ |refine Aa ?_|(refine aC rfl ?_ ?_<;>rintro ⟨⟩)|refine aK ?_|refine aE ?_|refine aB ?_|refine aR ⟨_,rfl,?_⟩)
      rfl
theorem Hd.mono {al:Int} {b b':Nat} {t:A2} (h:Hd al b t) (hb:b≤b'):Hd al b' t:=⟨fun w hw=>⟨(h.onR w hw).1,Nat.le_trans (h.onR w hw).2 hb⟩,h.onC,h.rl,h.cl⟩
end Go.Am
namespace Go.Am
open Go
set_option linter.unusedVariables false
def X5:Bool×List C→Option E
  | (false,[c])=>some (.o c)
  | (true,cs)=>some (.a cs)
  | _=>none
def O7 (f:Env) (σ:Ab) (t:Tmp) (ag:Bool) (n:Nat):Option (Bool×List C):=match f t with
  | some (.o (.d (.p cs)))=>match Nat.ble n cs.length with
    | true=>some (ag,(cs.take n).map .d)
    | false=>none
  | some (.o (.ptr id k i j))=>match look σ id with
    | some (.cells _ k' rows)=>match Nat.beq k k',nth rows i with
      | true,some r=>match Nat.ble (j+n) r.length with
        | true=>some (ag,(r.drop j).take n)
        | false=>none
      | _,_=>none
    | _=>none
  | _=>none
def QA (T:List (Nat×TI)) (f:Env) (σ:Ab):ResultVar→Option (Bool×List C)
  | .tmp t=>match f t with
    | some e=>Nt e
    | none=>none
  | .cell t T'=>match (Gw T T').ld with
    | some (true,n)=>O7 f σ t true n
    | some (false,1)=>O7 f σ t false 1
    | _=>none
def QB (T:List (Nat×TI)) (f:Env) (σ:Ab):List ResultVar→Option (List (Bool×List C))
  | []=>some []
  | r::rs=>match QA T f σ r,QB T f σ rs with
    | some x,some xs=>some (x::xs)
    | _,_=>none
def SG (T:List (Nat×TI)) (rs:Array ResultVar) (f:Env) (σ:Ab):Option E:=match rs.toList with
  | []=>some (.t [])
  | [r]=>match QA T f σ r with
    | some x=>X5 x
    | none=>none
  | rs=>match rs.length,QB T f σ rs with
    | 2,some xs=>some (.t xs)
    | 3,some xs=>some (.t xs)
    | 4,some xs=>some (.t xs)
    | _,_=>none
def Ra (T:List (Nat×TI)) (rs:Array ResultVar) (post:E→Ab→Nat→Prop):Exit→Env→Ab→Nat→Prop
  | .ret,f,σ,nx|.normal,f,σ,nx=>∃x,SG T rs f σ=some x∧post x σ nx
  | _,_,_,_=>False
section
variable {P:Program} {TB:A7} {Γ:Ctx} {σ:Ab}
theorem K7 {V:View} {f:Env} {a:Act} {t:Tmp} {T':TypeId} {ag:Bool} {n:Nat} {x:Bool×List C} (hi:Inv TB Γ V σ) (hl:C4 P T' ag n) (h1n:ag=false→n=1) (hE:Db V f a.tmps) (h:O7 f σ t ag n=some x) :
    ∃v,((do loadVar T' (←asAddr (a.tmps.getD t undef))):Sem Value).run P V.w=.ok v V.w∧IW V x v:=by
  have key : ∃ (b o:Nat) (cs:List C) (vs:Nat→Value),a.tmps.getD t undef=.pointer (some ⟨b,o,none⟩)∧x=(ag,cs)∧cs.length=n∧∀(q:Nat) (c:C),cs[q]? = some c→V.w.cell? ⟨b,o+q,none⟩=some (vs q)∧Aw V c (vs q):=by
    unfold O7 at h
    split at h
    · rename_i ds hf
      split at h
      · rename_i hn
        have hn:=Nat.le_of_ble_eq_true hn
        injection h with h
        subst h
        have h3:Aw V (.d (.p ds)) (a.tmps.getD t undef):=hE t _ hf
        generalize a.tmps.getD t undef=v0 at h3
        obtain ⟨h3⟩:=h3
        cases h3 with
        | @p _ b o vs hb h1 h2=>
          refine ⟨b,o,_,vs,rfl,rfl,by simp;omega,fun q c hq=>?_⟩
          rw [List.getElem?_map,Option.map_eq_some_iff] at hq
          obtain ⟨dd,hd,rfl⟩:=hq
          rw [List.getElem?_take] at hd
          split at hd
          · exact ⟨h1 q dd hd,.d (h2 q dd hd)⟩
          · cases hd
      · cases h
    · rename_i id k i j hf
      split at h
      · rename_i T0 k' rows ho
        split at h
        · rename_i r hk hr
          have hk:=Nat.eq_of_beq_eq_true hk
          subst hk
          split at h
          · rename_i hn
            have hn:=Nat.le_of_ble_eq_true hn
            injection h with h
            subst h
            rw [Jl] at hr
            have h3:Aw V (.ptr id k i j) (a.tmps.getD t undef):=hE t _ hf
            generalize a.tmps.getD t undef=v0 at h3
            cases h3 with
            | ptr hid hnl=>
              rcases hi.st.obj id _ ho with ⟨h4,_⟩|⟨_,cur,h4,h5,h6,h7,h8,h9⟩
              · exact absurd h4 hnl
              · refine ⟨V.ρ id,i*k+j,_,fun q=>cur.getD (i*k+j+q) undef,rfl,rfl,by simp;omega,fun q c hq=>?_⟩
                rw [List.getElem?_take] at hq
                split at hq
                · rw [List.getElem?_drop] at hq
                  obtain ⟨v,h10,h11⟩:=h9 i r (j+q) c hr hq
                  rw [←Nat.add_assoc] at h10
                  have e:cur.getD (i*k+j+q) undef=v:=by simp [h10]
                  dsimp only
                  rw [e]
                  exact ⟨by simp [World.cell?,h4,h10],h11⟩
                · cases hq
          · cases h
        · cases h
      · cases h
    · cases h
  obtain ⟨b,o,cs,vs,hv,rfl,hlen,hc⟩:=key
  rw [hv]
  cases ag with
  | false=>
    have hn1:=h1n rfl
    subst hn1
    match cs,hlen with
    | [c],_=>
      obtain ⟨h1,h2⟩:=hc 0 c rfl
      refine ⟨vs 0,?_,c,rfl,h2⟩
      rw [Nat.add_zero] at h1
      simp [asAddr,loadVar,(Bq hl.out V.w).1,h1,go_sem]
  | true =>
    refine ⟨.agg ((List.range n).map fun q=>vs q).toArray,?_,_,rfl,by simp [hlen],fun j c v hj hvv=>?_⟩
    · have:(loadCells ⟨b,o,none⟩ n).run P V.w=.ok ((List.range n).map fun q=>vs q).toArray V.w:=run_loadCells V.w _ n _ fun q hq=>by
        rw [Bg]
        exact (hc q cs[q] (List.getElem?_eq_getElem (by omega))).1
      unfold loadCells at this
      simp [asAddr,loadVar,(Bq hl.out V.w).1,(Bq hl.out V.w).2,this,go_sem]
    · have hq:j < n:=by have:=(List.getElem?_eq_some_iff.1 hj).1;omega
      have:v=vs j:=by simpa [hq] using hvv.symm
      subst this
      exact (hc j c hj).2
theorem SF [hT:B5 P] {V:View} {f:Env} {a:Act} {r:ResultVar} {x:Bool×List C} (hi:Inv TB Γ V σ) (hE:Db V f a.tmps) (h:QA hT.T f σ r=some x) :
    ∃v,((match r with
      | .tmp t=>pure (a.tmps.getD t undef)
      | .cell b t=>do loadVar t (←asAddr (a.tmps.getD b undef))):Sem Value).run P V.w=.ok v V.w∧IW V x v:=by
  have hty:=fun t=>CK (P:=P) t hT.ok
  unfold QA at h
  split at h
  · rename_i t
    split at h
    · rename_i e he
      exact ⟨_,by simp [go_sem],Ec h (hE t e he)⟩
    · cases h
  · rename_i t T'
    split at h
    · rename_i n hl
      exact K7 hi ((hty T').IF hl) (fun h=>(by cases h)) hE h
    · rename_i hl
      exact K7 hi ((hty T').IF hl) (fun _=>rfl) hE h
    · cases h
theorem Un {V:View} {x:Bool×List C} {e:E} {v:Value} (h:X5 x=some e) (hr:IW V x v):AV V e v:=by
  unfold X5 at h
  split at h
  · injection h with h;subst h
    obtain ⟨c,h1,h2⟩:=hr
    simp at h1;subst h1;exact h2
  · injection h with h;subst h;exact hr
  · cases h
theorem SH [hT:B5 P] {fn:Func} {V:View} {f:Env} {a:Act} {x:E} (hi:Inv TB Γ V σ) (hE:Db V f a.tmps) (h:SG hT.T fn.results f σ=some x):∃v,(results fn a.tmps).run P V.w=.ok v V.w∧AV V x v:=by
  obtain ⟨F,hF,hFr⟩:∃F:ResultVar→Sem Value,results fn a.tmps=(do let vs ←fn.results.mapM F;pure (if h:vs.size=1 then vs[0] else .tuple vs))∧∀r x,QA hT.T f σ r=some x→∃v,(F r).run P V.w=.ok v V.w∧IW V x v:=
    ⟨fun r=>match r with
      | .tmp t=>pure (a.tmps.getD t undef)
      | .cell b t=>do loadVar t (←asAddr (a.tmps.getD b undef)),rfl,fun r x hr=>SF hi hE hr⟩
  have two:∀ {r:ResultVar} {rs:List ResultVar} {xs:List (Bool×List C)},QB hT.T f σ (r::rs)=some xs→∃y ys,xs=y::ys∧QA hT.T f σ r=some y∧QB hT.T f σ rs=some ys:=by
    intro r rs xs h
    unfold QB at h
    split at h
    · rename_i y ys h1 h2
      injection h with h;subst h;exact ⟨y,ys,rfl,h1,h2⟩
    · cases h
  have nil:∀ {xs:List (Bool×List C)},QB hT.T f σ []=some xs→xs=[]:=fun h=>by injection h with h;exact h.symm
  have key:∀l:List ResultVar,fn.results=l.toArray→SG hT.T l.toArray f σ=some x→∃v,(results fn a.tmps).run P V.w=.ok v V.w∧AV V x v:=by
    intro l hll h
    rw [hF,hll]
    unfold SG at h
    simp only at h
    match l with
    | []=>
      injection h with h;subst h
      exact ⟨.tuple #[],by simp [go_sem],#[],rfl,rfl,fun j x v hj=>by simp at hj⟩
    | [r]=>
      simp only at h
      split at h
      · rename_i y hy
        obtain ⟨v,h1,h2⟩:=hFr r y hy
        exact ⟨v,by simp [h1,go_sem],Un h h2⟩
      · cases h
    | [r1,r2]=>
      simp only [List.length_cons,List.length_nil] at h
      split at h
      · rename_i xs _ hx
        injection h with h;subst h
        obtain ⟨y1,ys,rfl,h1,hx⟩:=two hx
        obtain ⟨y2,ys,rfl,h2,hx⟩:=two hx
        have:=nil hx;subst this
        obtain ⟨v1,e1,t1⟩:=hFr _ _ h1
        obtain ⟨v2,e2,t2⟩:=hFr _ _ h2
        refine ⟨.tuple #[v1,v2],by simp [e1,e2,go_sem],_,rfl,rfl,fun j x v' hj hv=>?_⟩
        match j with
        | 0=>simp at hj hv;subst hj;subst hv;exact t1
        | 1=>simp at hj hv;subst hj;subst hv;exact t2
        | j+2=>simp at hj
      · omega
      · omega
      · cases h
    | [r1,r2,r3]=>
      simp only [List.length_cons,List.length_nil] at h
      split at h
      · omega
      · rename_i xs _ hx
        injection h with h;subst h
        obtain ⟨y1,ys,rfl,h1,hx⟩:=two hx
        obtain ⟨y2,ys,rfl,h2,hx⟩:=two hx
        obtain ⟨y3,ys,rfl,h3,hx⟩:=two hx
        have:=nil hx;subst this
        obtain ⟨v1,e1,t1⟩:=hFr _ _ h1
        obtain ⟨v2,e2,t2⟩:=hFr _ _ h2
        obtain ⟨v3,e3,t3⟩:=hFr _ _ h3
        refine ⟨.tuple #[v1,v2,v3],by simp [e1,e2,e3,go_sem],_,rfl,rfl,fun j x v' hj hv=>?_⟩
        match j with
        | 0=>simp at hj hv;subst hj;subst hv;exact t1
        | 1=>simp at hj hv;subst hj;subst hv;exact t2
        | 2=>simp at hj hv;subst hj;subst hv;exact t3
        | j+3=>simp at hj
      · omega
      · cases h
    | [r1,r2,r3,r4]=>
      simp only [List.length_cons,List.length_nil] at h
      split at h
      · omega
      · omega
      · rename_i xs _ hx
        injection h with h;subst h
        obtain ⟨y1,ys,rfl,h1,hx⟩:=two hx
        obtain ⟨y2,ys,rfl,h2,hx⟩:=two hx
        obtain ⟨y3,ys,rfl,h3,hx⟩:=two hx
        obtain ⟨y4,ys,rfl,h4,hx⟩:=two hx
        have:=nil hx;subst this
        obtain ⟨v1,e1,t1⟩:=hFr _ _ h1
        obtain ⟨v2,e2,t2⟩:=hFr _ _ h2
        obtain ⟨v3,e3,t3⟩:=hFr _ _ h3
        obtain ⟨v4,e4,t4⟩:=hFr _ _ h4
        refine ⟨.tuple #[v1,v2,v3,v4],by simp [e1,e2,e3,e4,go_sem],_,rfl,rfl,fun j x v' hj hv=>?_⟩
        match j with
        | 0=>simp at hj hv;subst hj;subst hv;exact t1
        | 1=>simp at hj hv;subst hj;subst hv;exact t2
        | 2=>simp at hj hv;subst hj;subst hv;exact t3
        | 3=>simp at hj hv;subst hj;subst hv;exact t4
        | j+4=>simp at hj
      · cases h
    | _::_::_::_::_::_=>
      simp only [List.length_cons] at h
      cases h
  exact key fn.results.toList (by simp) (by simpa using h)
theorem AP.MD [hT:B5 P] {g:FuncId} {fn:Func} {c:Code} {m:Nat} {σ:Ab} {nx:Nat} {args:List E} {post:E→Ab→Nat→Prop} (hm:m≤nx) (hf:P.funcs[g]? = some fn) (hb:fn.body=some c) (hname:(fn.name == "runtime.NumGoroutine")=false)
    (hargs:args.length≤fn.ntmps) (h:∀Γ:Ctx,Γ.V.nx=m→Ak P TB Γ fn.ntmps c (Ra hT.T fn.results post) (look (BI 0 args)) σ nx):AP P TB g m σ nx args post:=by
  refine ⟨⟨fn,hf,hname,by rw [hb];rfl⟩,?_⟩
  intro V vs S hg ha
  refine calls_of_wp hf hb ?_
  have hs:vs.size≤fn.ntmps:=by rw [ha.1];exact hargs
  have hi:Inv TB (DA V (Ie V m) σ S) V σ:=
    ⟨rfl,rfl,rfl,fun _ _ _=>rfl,hg.iLt,fun _ h=>.inl h,Pm (by rw [hg.nx];exact hm),hg.st,fun id o ho hnl b hb=>.inr (.inl ⟨id,o,ho,hnl,hb⟩),hg.tabs,⟨S,hg.hid,fun b hb=>.inl hb,fun b hb=>.inr (.inr hb)⟩⟩
  have hr:BC TB (DA V (Ie V m) σ S) fn.ntmps V (look (BI 0 args)) σ nx { tmps:=vs++Array.replicate (fn.ntmps - vs.size) undef,defers:=[] } := by
    refine ⟨?_,?_,by simp;omega,hi,hg.nx,rfl⟩
    · intro t e he
      obtain ⟨_,h2⟩:=BV args 0 t e he
      have h2:args[t]? = some e:=by simpa using h2
      have hlt:t < vs.size:=by rw [ha.1];exact (List.getElem?_eq_some_iff.1 h2).1
      have h3:=ha.2 t e vs[t] h2 (Array.getElem?_eq_getElem hlt)
      simpa [Array.getElem?_append_left hlt,hlt] using h3
    · intro t e he
      obtain ⟨_,h2⟩:=BV args 0 t e he
      have h2:args[t]? = some e:=by simpa using h2
      have:=(List.getElem?_eq_some_iff.1 h2).1
      omega
  refine wp_mono (h (DA V (Ie V m) σ S) rfl V _ hr) ?_
  rintro e a' w' ⟨V',f',σ',rfl,hq,hr'⟩
  have fin:(∃x,SG hT.T fn.results f' σ'=some x∧post x σ' V'.nx)→a'.defers=[]∧∃v,(results fn a'.tmps).run P V'.w=.ok v V'.w∧∃V'' v' x σ'',Ending.returned v=.returned v'∧V''.w=V'.w∧Inv TB (DA V (Ie V m) σ S) V'' σ''∧AV V'' x v'∧post x σ'' V''.nx:=by
    rintro ⟨x,hx,hp⟩
    obtain ⟨v,hv,he⟩:=SH (P:=P) hr'.inv hr'.env hx
    exact ⟨hr'.defers,v,hv,V',v,x,σ',rfl,rfl,hr'.inv,he,hp⟩
  cases e with
  | normal=>exact fin hq
  | ret=>exact fin hq
  | exit id=>exact hq.elim
  | goto l=>exact hq.elim
  | panic ch=>exact hq.elim
  | outgrown=>exact hq.elim
theorem eG [hT:B5 P] {g:FuncId} {fn:Func} {c:Code} {nx:Nat} {args:List E} {post:E→Ab→Nat→Prop} (hf:P.funcs[g]? = some fn) (hb:fn.body=some c) (hname:(fn.name == "runtime.NumGoroutine")=false)
    (ha:Nat.ble args.length fn.ntmps=true) (h:∀Γ:Ctx,Γ.V.nx=nx→Ak P TB Γ fn.ntmps c (Ra hT.T fn.results post) (look (BI 0 args)) σ nx):Spec P TB g σ nx args post:=
  AP.OO (AP.MD (Nat.le_refl _) hf hb hname (Nat.le_of_ble_eq_true ha) h)
end
end Go.Am
namespace Go.Am
open Go Go.Proofs
set_option maxHeartbeats 1000000
attribute [local irreducible] AU B0 Lex Bo Ak Spec
variable {TB:A7}
abbrev Xg (kn:Bool) (p:Cj) (s:Sys) (q:Cj) (al:Int):E:=.a ((LF kn p s q al).map .d)
theorem DD (p:Cj) (s:Sys) (q:Cj) (al:Int):Pure Tryz.prog TB 26 [Xg true p s q al] (eI .i64 (if Bf p then p.al else -1)):=by
  refine eN Tryz.func26 rfl (by kernel_rfl) rfl ?_;intro Γ hΓ
  (repeat' first|refine tA rfl ?_ |refine s2 rfl fun _ _hb=>?_ |(refine sC rfl (Ch p) ?_;intro _ _hb) |refine s3 rfl ?_ ?_<;>rintro rfl |refine aU rfl ?_ |refine Aa ?_|(refine aC rfl ?_ ?_<;>rintro ⟨⟩)|refine aK ?_|refine aE ?_|refine aB ?_|refine aR ⟨_,rfl,?_⟩)
  all_goals first
    | (show E.o _=E.o _;congr;grind)
    | (exfalso;simp at *;done)
abbrev Wf (kn:Bool) (p:Cj) (s:Sys) (q:Cj) (al:Int):C:=.fn 90 [.ip [.l (My p)],.ip (LF kn p s q al)]
theorem UK {p:Cj} (hp:Bf p=true) (s:Sys) (q:Cj) (al:Int) (kn:Bool):Ft Tryz.prog TB (Wf kn p s q al) (LA p) (fun w=>A1 (Bc p.al) w∧w.length≤1048576):=
  .of rfl fun w hw=>Tr hp s q al kn w hw.1 hw.2
theorem KT {p:Cj} (hp:Bf p=true) (s:Sys) (q:Cj) (al:Int):Pure Tryz.prog TB 50 [Xg true p s q al] (.t [(true,[.d (iD p.al),Wf true p s q al]),(false,[.d (bD true)])]):=by
  have hT:=DD (TB:=TB) p s q al
  rw [if_pos hp] at hT
  have h0:=AN hp
  have ha:=h0.1
  unfold Bk at ha
  simp only [decide_eq_true_eq] at ha
  have htb:=GZ (TB:=TB) p hp
  refine eG Tryz.func50 rfl (by kernel_rfl) rfl ?_;intro Γ hΓ
  (repeat first|refine tA rfl ?_ |refine sP rfl (hT) rfl ?_ |refine aU rfl ?_ |refine Aa ?_)
  refine aB ?_
  (repeat first|refine tA rfl ?_ |refine s2 rfl fun _ _hb=>?_ |refine aU rfl ?_ |refine Aa ?_)
  ((refine aC rfl ?_ ?_<;>rintro ⟨⟩);all_goals try (simp at _hb;done))
  · exfalso;(simp only[oZ] at *;omega)
  · (repeat first|refine tA rfl ?_ |refine aU rfl ?_ |refine Aa ?_)
    ((refine aC rfl ?_ ?_<;>rintro ⟨⟩);all_goals try (simp at _hb;done))
    refine aS ?_
    refine Xv (by kernel_rfl) ?_;(repeat first|refine tA rfl ?_ |refine sP rfl (htb) rfl ?_);refine Aa ?_
    refine aS ?_
    refine Ak.Tx [1] [1,2,3,4] rfl [(5,.o (.ip [.l (My p)]))] ⟨⟨_,rfl,.o (.ptr (by simp) rfl rfl rfl)⟩,trivial⟩ ?_;(try dsimp only[cA,cB])
    (repeat first|refine tA rfl ?_|(refine Af rfl ?_;refine gA rfl ?_;first| refine gS (fun _ _=>AD rfl rfl (by rfl) (by rfl)) ?_) |refine aU rfl ?_ |refine Aa ?_)
    refine aR ⟨_,rfl,rfl⟩
theorem KS {p:Cj} (hp:Bf p=false) (s:Sys) (q:Cj) (al:Int):Pure Tryz.prog TB 50 [Xg true p s q al] (.t [(true,[.d (iD 0),.d (.v .nilFunc)]),(false,[.d (bD false)])]):=by
  have hT:=DD (TB:=TB) p s q al
  rw [if_neg (by simp [hp])] at hT
  refine eG Tryz.func50 rfl (by kernel_rfl) rfl ?_;intro Γ hΓ
  (repeat first|refine tA rfl ?_ |refine sP rfl (hT) rfl ?_ |refine aU rfl ?_ |refine Aa ?_)
  refine aB ?_
  (repeat first|refine tA rfl ?_ |refine s2 rfl fun _ _hb=>?_ |refine aU rfl ?_ |refine Aa ?_)
  ((refine aC rfl ?_ ?_<;>rintro ⟨⟩);all_goals try (simp at _hb;done))
  · (repeat first|refine tA rfl ?_|(refine Af rfl ?_;refine gA rfl ?_;first| refine gS (fun _ _=>AD rfl rfl (by rfl) (by rfl)) ?_) |refine aU rfl ?_ |refine Aa ?_)
    refine aR ⟨_,rfl,rfl⟩
theorem Hm (w:W) (i:Nat) (c:UInt8) (hc:w[((i:Nat):Int).toNat]? = some c):Pure Tryz.prog TB 143 [eT w,eI .i64 i] (eI .i64 ((c.toNat:Int) - 97)):=by
  have hb:=c.toNat_lt
  refine eN Tryz.func143 rfl (by kernel_rfl) rfl ?_;intro Γ hΓ
  (repeat' first|(refine sA rfl ?_ ?_;first|exact tI|omega) |(refine s4 rfl ‹_› rfl ?_ ?_;omega) |refine aU rfl ?_ |refine Aa ?_|(refine aC rfl ?_ ?_<;>rintro ⟨⟩)|refine aK ?_|refine aE ?_|refine aB ?_|refine aR ⟨_,rfl,?_⟩)
  rfl
theorem Nl (n:Int) (h0:0≤n) (h1:n < 16):Pure Tryz.prog TB 132 [eI .i64 n] (eI .i64 ((2 ^ n.toNat:Nat):Int)):=by
  refine eN Tryz.func132 rfl (by kernel_rfl) rfl ?_;intro Γ hΓ
  (repeat' first|(refine sA rfl ?_ ?_;first|exact tI|omega)|(refine Af rfl ?_;refine gA rfl ?_;first| refine gS (fun _ _=>SA rfl rfl h0 (PL h0 h1)) ?_) |refine aU rfl ?_ |refine Aa ?_|(refine aC rfl ?_ ?_<;>rintro ⟨⟩)|refine aK ?_|refine aE ?_|refine aB ?_|refine aR ⟨_,rfl,?_⟩)
  rfl
theorem Fz {c:UInt8}:En c=decide (0≤(c.toNat:Int) - 97∧(c.toNat:Int) - 97 < 6):=by
  unfold En
  rw [Bool.eq_iff_iff,decide_eq_true_eq,decide_eq_true_eq]
  omega
theorem MB (w:W) (hl:w.length≤1099511627776):Pure Tryz.prog TB 142 [eT w] (eB (El w)):=by
  by_cases h5:w.length≤50000
  · have hwk : El w=w.all En:=by unfold El;simp [h5]
    rw [hwk]
    refine eN Tryz.func142 rfl (by kernel_rfl) rfl ?_;intro Γ hΓ
    (repeat first|refine tA rfl ?_ |refine s2 rfl fun _ _hb=>?_ |refine aU rfl ?_ |refine Aa ?_)
    (refine aC rfl ?_ ?_<;>rintro ⟨⟩)
    · exfalso;(simp only[oZ] at *;omega)
    refine aK ?_
    (repeat first|refine tA rfl ?_ |refine aU rfl ?_ |refine Aa ?_)
    refine aB ?_
    refine aL (α:={k:Nat // k≤w.length∧(w.take k).all En=true}) [0] [] rfl rfl (fun ⟨k,hk,ha⟩=>[(3,eI .i64 k)]) (fun ⟨k,hk,ha⟩=>[]) 0 (fun ⟨k,hk,ha⟩=>w.length - k) (⟨0,by omega,rfl⟩) hΓ rfl (by (simp[cX,zC,hΓ])) ?_;rintro ⟨k,hk,ha⟩;(try dsimp only[cA,cB])
    by_cases hlt:k < w.length
    · obtain ⟨c,hc⟩:=get_some hlt
      have hc':w[((k:Nat):Int).toNat]? = some c:=by simpa using hc
      have hla:=Hm (TB:=TB) w k c hc'
      have hcn:=Fz (c:=c)
      by_cases hcc:En c=true
      · have hst:=EI hc ha hcc
        rw [hcn] at hcc
        simp only [decide_eq_true_eq] at hcc
        (repeat first|refine tA rfl ?_ |refine s2 rfl fun _ _hb=>?_ |refine aU rfl ?_ |refine Aa ?_)
        (refine aC rfl ?_ ?_<;>rintro ⟨⟩)
        · (repeat' first|(refine sA rfl ?_ ?_;first|exact tI|omega) |refine s2 rfl fun _ _hb=>?_ |refine sP rfl (hla) rfl ?_ |refine s3 rfl ?_ ?_<;>rintro rfl |refine aU rfl ?_ |refine Aa ?_|(refine aC rfl ?_ ?_<;>rintro ⟨⟩)|refine aK ?_|refine aE ?_|refine aB ?_|refine aR ⟨_,rfl,?_⟩)
          · exfalso;(simp only[oZ] at *;omega)
          · exfalso;(simp only[oZ] at *;omega)
          · refine ⟨⟨k+1,by omega,hst⟩,by dsimp only;(omega),[],?_⟩
            simp[cX,zC,hΓ]
        · exfalso;(simp only[oZ] at *;omega)
      · have hst:=FY hc (f:=En) (by simpa using hcc)
        rw [hcn] at hcc
        simp only [decide_eq_true_eq] at hcc
        (repeat first|refine tA rfl ?_ |refine s2 rfl fun _ _hb=>?_ |refine aU rfl ?_ |refine Aa ?_)
        (refine aC rfl ?_ ?_<;>rintro ⟨⟩)
        · (repeat' first|(refine sA rfl ?_ ?_;first|exact tI|omega) |refine s2 rfl fun _ _hb=>?_ |refine sP rfl (hla) rfl ?_ |refine s3 rfl ?_ ?_<;>rintro rfl |refine aU rfl ?_ |refine Aa ?_|(refine aC rfl ?_ ?_<;>rintro ⟨⟩)|refine aK ?_|refine aE ?_|refine aB ?_|refine aR ⟨_,rfl,?_⟩)
          · rw [hst]
          · rw [hst]
          · exfalso;(simp only[oZ] at *;omega)
        · exfalso;(simp only[oZ] at *;omega)
    · have hd:=EG ha (show w.length≤k by omega)
      (repeat first|refine tA rfl ?_ |refine s2 rfl fun _ _hb=>?_ |refine aU rfl ?_ |refine Aa ?_)
      (refine aC rfl ?_ ?_<;>rintro ⟨⟩)
      · exfalso;(simp only[oZ] at *;omega)
      · (repeat' first|refine tA rfl ?_ |refine aU rfl ?_ |refine Aa ?_|(refine aC rfl ?_ ?_<;>rintro ⟨⟩)|refine aK ?_|refine aE ?_|refine aB ?_|refine aR ⟨_,rfl,?_⟩)
        rw [hd]
  · have hwk:El w=false:=by unfold El;simp [h5]
    rw [hwk]
    refine eN Tryz.func142 rfl (by kernel_rfl) rfl ?_;intro Γ hΓ
    (repeat first|refine tA rfl ?_ |refine s2 rfl fun _ _hb=>?_ |refine aU rfl ?_ |refine Aa ?_)
    (refine aC rfl ?_ ?_<;>rintro ⟨⟩)
    · (repeat' first|refine tA rfl ?_ |refine aU rfl ?_ |refine Aa ?_|(refine aC rfl ?_ ?_<;>rintro ⟨⟩)|refine aK ?_|refine aE ?_|refine aB ?_|refine aR ⟨_,rfl,?_⟩)
      rfl
    · exfalso;(simp only[oZ] at *;omega)
abbrev Yg (n:Int) (b:Bool):E:=.t [(false,[.d (iD n)]),(false,[.d (bD b)])]
theorem QI {w:W} {k:Nat} {c:UInt8} (hc:w[k]? = some c):GY (w.take (k+1))=GY (w.take k) ||| 2 ^ (c.toNat - 97):=by
  unfold GY
  rw [List.take_add_one,hc];simp
theorem KH (w:W) (hl:w.length≤1099511627776):Pure Tryz.prog TB 115 [eT w] (if El w then Yg (GY w:Nat) true else Yg 0 false):=by
  have hwv:=MB (TB:=TB) w hl
  by_cases hok:El w=true
  · have hok2:=hok
    unfold El at hok2
    simp only [Bool.and_eq_true,decide_eq_true_eq] at hok2
    rw [if_pos hok]
    refine eN Tryz.func115 rfl (by kernel_rfl) rfl ?_;intro Γ hΓ
    (repeat first|refine tA rfl ?_ |refine s2 rfl fun _ _hb=>?_ |(refine sC rfl (hwv) ?_;intro _ _hb) |refine aU rfl ?_ |refine Aa ?_)
    (refine aC rfl ?_ ?_<;>rintro ⟨⟩)
    · exfalso;simp at *;grind
    refine aK ?_
    (repeat first|refine tA rfl ?_ |refine aU rfl ?_ |refine Aa ?_)
    refine aB ?_
    refine aL (α:={k:Nat // k≤w.length}) [0] [] rfl rfl (fun ⟨k,hk⟩=>[(4,eI .i64 (GY (w.take k):Nat)),(5,eI .i64 k)]) (fun ⟨k,hk⟩=>[]) 0 (fun ⟨k,hk⟩=>w.length - k) (⟨0,by omega⟩) hΓ rfl (by (simp[cX,zC,hΓ]<;>rfl)) ?_;rintro ⟨k,hk⟩;(try dsimp only[cA,cB])
    by_cases hlt:k < w.length
    · obtain ⟨c,hc⟩:=get_some hlt
      have hc':w[((k:Nat):Int).toNat]? = some c:=by simpa using hc
      have hla:=Hm (TB:=TB) w k c hc'
      have hcc:=(List.all_eq_true.1 hok2.2) c (List.mem_of_getElem? hc)
      rw [Fz,decide_eq_true_eq] at hcc
      have hbt:=Nl (TB:=TB) ((c.toNat:Int) - 97) hcc.1 (by omega)
      have hst:=QI hc
      have hs1:GY (w.take k) < 64:=Mt (by rw [List.all_eq_true];exact fun x hx=>(List.all_eq_true.1 hok2.2) x (List.mem_of_mem_take hx)) (by omega)
      have ht:((c.toNat:Int) - 97).toNat=c.toNat - 97:=by omega
      have h26:2 ^ (c.toNat - 97) < 2 ^ 6:=Nat.pow_lt_pow_right (by omega) (by omega)
      have hor:=(TC hs1 h26).1
      rw [←hst] at hor
      rw [ht] at hbt
      (repeat first|refine tA rfl ?_ |refine s2 rfl fun _ _hb=>?_ |refine aU rfl ?_ |refine Aa ?_)
      (refine aC rfl ?_ ?_<;>rintro ⟨⟩)
      · (repeat' first|(refine sA rfl ?_ ?_;first|exact tI|omega) |refine sP rfl (hla) rfl ?_|refine sP rfl (hbt) rfl ?_ |refine aU rfl ?_ |refine Aa ?_|(refine aC rfl ?_ ?_<;>rintro ⟨⟩)|refine aK ?_|refine aE ?_|refine aB ?_|refine aR ⟨_,rfl,?_⟩)
        rw [hor]
        refine ⟨⟨k+1,by omega⟩,by dsimp only;(omega),[],?_⟩
        simp[cX,zC,hΓ]
      · exfalso;(simp only[oZ] at *;omega)
    · obtain rfl:k=w.length:=by omega
      rw [List.take_length]
      (repeat first|refine tA rfl ?_ |refine s2 rfl fun _ _hb=>?_ |refine aU rfl ?_ |refine Aa ?_)
      (refine aC rfl ?_ ?_<;>rintro ⟨⟩)
      · exfalso;(simp only[oZ] at *;omega)
      · (repeat' first|refine tA rfl ?_ |refine aU rfl ?_ |refine Aa ?_|(refine aC rfl ?_ ?_<;>rintro ⟨⟩)|refine aK ?_|refine aE ?_|refine aB ?_|refine aR ⟨_,rfl,?_⟩)
        rfl
  · rw [if_neg hok]
    refine eN Tryz.func115 rfl (by kernel_rfl) rfl ?_;intro Γ hΓ
    (repeat first|refine tA rfl ?_ |refine s2 rfl fun _ _hb=>?_ |(refine sC rfl (hwv) ?_;intro _ _hb) |refine aU rfl ?_ |refine Aa ?_)
    (refine aC rfl ?_ ?_<;>rintro ⟨⟩)
    · (repeat' first|refine tA rfl ?_ |refine aU rfl ?_ |refine Aa ?_|(refine aC rfl ?_ ?_<;>rintro ⟨⟩)|refine aK ?_|refine aE ?_|refine aB ?_|refine aR ⟨_,rfl,?_⟩)
      rfl
    · exfalso;simp at *;grind
theorem CW (w:W) (al:Int) (hl:w.length≤1099511627776):Pure Tryz.prog TB 95 [eT w,eI .i64 al] (eB (within w al)):=by
  have h1:=KH (TB:=TB) w hl
  have h2:=CP (TB:=TB) al
  by_cases hok:El w=true
  · rw [if_pos hok] at h1
    unfold El at hok
    simp only [Bool.and_eq_true,decide_eq_true_eq] at hok
    have hw:within w al=(Bk al && w.all (GO al)):=by unfold within;simp [hok.1]
    rw [hw]
    refine eN Tryz.func95 rfl (by kernel_rfl) rfl ?_;intro Γ hΓ
    (repeat' first|refine tA rfl ?_ |refine s2 rfl fun _ _hb=>?_ |refine sP rfl (h1) rfl ?_|(refine sC rfl (h2) ?_;intro _ _hb) |refine s3 rfl ?_ ?_<;>rintro rfl |refine aU rfl ?_ |refine Aa ?_|(refine aC rfl ?_ ?_<;>rintro ⟨⟩)|refine aK ?_|refine aE ?_|refine aB ?_|refine aR ⟨_,rfl,?_⟩)
    all_goals first
      | (show E.o _=E.o _;congr;grind)
      | (rename_i ha b;rw [Ud hok.2 ha] at _hb;show E.o _=E.o _;rw [ha,_hb];rfl)
  · rw [if_neg hok] at h1
    have hw:within w al=false:=by
      rw [Bool.eq_false_iff]
      intro h
      unfold within at h
      simp only [Bool.and_eq_true,decide_eq_true_eq] at h
      exact hok (by unfold El;simp [h.1,OS h.2.2])
    rw [hw]
    refine eN Tryz.func95 rfl (by kernel_rfl) rfl ?_;intro Γ hΓ
    (repeat' first|refine tA rfl ?_ |refine sP rfl (h1) rfl ?_|(refine sC rfl (h2) ?_;intro _ _hb) |refine aU rfl ?_ |refine Aa ?_|(refine aC rfl ?_ ?_<;>rintro ⟨⟩)|refine aK ?_|refine aE ?_|refine aB ?_|refine aR ⟨_,rfl,?_⟩)
    all_goals rfl
theorem Cd {w:W} {al:Int} (h:within w al=true):A1 (Bc al) w:=by
  unfold within at h
  simp only [Bool.and_eq_true,decide_eq_true_eq] at h
  intro c hc
  have h1:=(List.all_eq_true.1 h.2.2) c hc
  unfold GO En at h1
  simp only [Bool.and_eq_true,decide_eq_true_eq] at h1
  refine List.mem_map.2 ⟨((c.toNat - 97:Nat):Int),EA.2 ⟨by omega,h1.2⟩,?_⟩
  unfold lb
  have e:97+((c.toNat - 97:Nat):Int).toNat=c.toNat:=by omega
  rw [e]
  simp
theorem Ea {w:W} {al:Int} (h:A1 (Bc al) w) (hl:w.length≤50000) (ha:Bk al=true):within w al=true:=by
  unfold within
  simp only [Bool.and_eq_true,decide_eq_true_eq]
  refine ⟨hl,ha,List.all_eq_true.2 fun c hc=>?_⟩
  obtain ⟨l,hm,rfl⟩:=List.mem_map.1 (h c hc)
  have h1:=BB hm
  have h2:=RT h1.1 (by omega)
  unfold GO En
  simp only [Bool.and_eq_true,decide_eq_true_eq]
  have e:(lb l).toNat - 97=l.toNat:=by omega
  rw [e]
  exact ⟨by omega,h1.2.2⟩
theorem RQ {p:Cj} (hp:Bf p=true) (w:W) (hw:A1 (Bc p.al) w) (hl:w.length≤1099511627776):Pure Tryz.prog TB 167 [BF p,eI .i64 0,eT w] (eI .i64 (CD p 0 w)):=by
  have hph:=AN hp
  refine eN Tryz.func167 rfl (by kernel_rfl) rfl ?_;intro Γ hΓ
  (repeat first|refine tA rfl ?_ |refine aU rfl ?_ |refine Aa ?_)
  refine aB ?_
  refine aL (α:={k:Nat // k≤w.length}) [2,3] [] rfl rfl (fun ⟨k,hk⟩=>[(1,eI .i64 (CD p 0 (w.take k))),(7,eI .i64 k)]) (fun ⟨k,hk⟩=>[]) 0 (fun ⟨k,hk⟩=>w.length - k) (⟨0,by omega⟩) hΓ rfl (by (simp[cX,zC,hΓ]<;>rfl)) ?_;rintro ⟨k,hk⟩;(try dsimp only[cA,cB])
  have hr:=DN hp (w.take k) 0 (Mf hw k) (by omega)
  by_cases hlt:k < w.length
  · obtain ⟨c,hc⟩:=get_some hlt
    have hc':w[((k:Nat):Int).toNat]? = some c:=by simpa using hc
    have hcl:=Gi (hw c (List.mem_of_getElem? hc))
    have hla:=Hm (TB:=TB) w k c hc'
    have hgo:=LW (TB:=TB) p hp (CD p 0 (w.take k)).toNat (by omega) ((c.toNat:Int) - 97) hcl.1 hcl.2
    have e:(((CD p 0 (w.take k)).toNat:Nat):Int)=CD p 0 (w.take k):=by omega
    rw [e] at hgo
    have hst:=Ip (p:=p) hc 0
    rw [←hst] at hgo
    (repeat first|refine tA rfl ?_ |refine s2 rfl fun _ _hb=>?_ |refine aU rfl ?_ |refine Aa ?_)
    (refine aC rfl ?_ ?_<;>rintro ⟨⟩)
    · (repeat' first|(refine sA rfl ?_ ?_;first|exact tI|omega) |refine sP rfl (hla) rfl ?_|refine sP rfl (hgo) rfl ?_ |refine aU rfl ?_ |refine Aa ?_ |refine rE (by kernel_rfl) ?_|(refine aC rfl ?_ ?_<;>rintro ⟨⟩)|refine aK ?_|refine aE ?_|refine aB ?_|refine aR ⟨_,rfl,?_⟩)
      refine ⟨⟨k+1,by omega⟩,by dsimp only;(omega),[],?_⟩
      simp[cX,zC,hΓ]
    · exfalso;(simp only[oZ] at *;omega)
  · obtain rfl:k=w.length:=by omega
    rw [List.take_length]
    (repeat first|refine tA rfl ?_ |refine s2 rfl fun _ _hb=>?_ |refine aU rfl ?_ |refine Aa ?_)
    (refine aC rfl ?_ ?_<;>rintro ⟨⟩)
    · exfalso;(simp only[oZ] at *;omega)
    · (repeat' first|refine tA rfl ?_ |refine aU rfl ?_ |refine Aa ?_|(refine aC rfl ?_ ?_<;>rintro ⟨⟩)|refine aK ?_|refine aE ?_|refine aB ?_|refine aR ⟨_,rfl,?_⟩)
      rfl
def Bw (p:Cj) (w:W):Int:=if Bf p && within w p.al then CD p 0 w else -1
def GH (p:Cj) (w:W):Bool:=Bf p && (within w p.al && LA p w)
theorem KY (p:Cj) (w:W) (hl:w.length≤1099511627776):Pure Tryz.prog TB 146 [BF p,eT w] (eI .i64 (Bw p w)):=by
  have h1:=Bn (TB:=TB) p
  have h2:=CW (TB:=TB) w p.al hl
  by_cases hv:(Bf p && within w p.al)=true
  · have hs:Bw p w=CD p 0 w:=by unfold Bw;rw [if_pos hv]
    rw [hs]
    rw [Bool.and_eq_true] at hv
    have h3:=RQ (TB:=TB) hv.1 w (Cd hv.2) hl
    refine eN Tryz.func146 rfl (by kernel_rfl) rfl ?_;intro Γ hΓ
    (repeat' first|refine tA rfl ?_ |refine s2 rfl fun _ _hb=>?_ |(refine sC rfl (h1) ?_;intro _ _hb)|(refine sC rfl (h2) ?_;intro _ _hb)|refine sP rfl (h3) rfl ?_ |refine s3 rfl ?_ ?_<;>rintro rfl |refine aU rfl ?_ |refine Aa ?_|(refine aC rfl ?_ ?_<;>rintro ⟨⟩)|refine aK ?_|refine aE ?_|refine aB ?_|refine aR ⟨_,rfl,?_⟩)
    all_goals first
      | rfl
      | (exfalso;grind;done)
  · have hs:Bw p w = -1:=by unfold Bw;rw [if_neg hv]
    rw [hs]
    refine eN Tryz.func146 rfl (by kernel_rfl) rfl ?_;intro Γ hΓ
    (repeat' first|refine tA rfl ?_ |refine s2 rfl fun _ _hb=>?_ |(refine sC rfl (h1) ?_;intro _ _hb)|(refine sC rfl (h2) ?_;intro _ _hb) |refine s3 rfl ?_ ?_<;>rintro rfl |refine aU rfl ?_ |refine Aa ?_|(refine aC rfl ?_ ?_<;>rintro ⟨⟩)|refine aK ?_|refine aE ?_|refine aB ?_|refine aR ⟨_,rfl,?_⟩)
    all_goals first
      | rfl
      | (exfalso;grind;done)
theorem Js (p:Cj) (w:W) (hl:w.length≤1099511627776):Pure Tryz.prog TB 119 [BF p,eT w] (eB (GH p w)):=by
  have h1:=KY (TB:=TB) p w hl
  by_cases hv:(Bf p && within w p.al)=true
  · have hs:Bw p w=CD p 0 w:=by unfold Bw;rw [if_pos hv]
    rw [hs] at h1
    rw [Bool.and_eq_true] at hv
    have hph:=AN hv.1
    have hr:=DN hv.1 w 0 (Cd hv.2) (by omega)
    obtain ⟨b,hb⟩:=get_some (l:=p.ac) (k:=(CD p 0 w).toNat) (by omega)
    have hb':(p.ac.map KI)[(CD p 0 w).toNat]? = some (KI b):=by simp [hb]
    have ha:GH p w=b:=by unfold GH LA;simp [hv.1,hv.2,List.getD,hb]
    rw [ha]
    refine eN Tryz.func119 rfl (by kernel_rfl) rfl ?_;intro Γ hΓ
    (repeat' first|refine tA rfl ?_ |(refine s4 rfl ‹_› rfl ?_ ?_;omega) |refine s2 rfl fun _ _hb=>?_ |refine sP rfl (h1) rfl ?_ |refine s3 rfl ?_ ?_<;>rintro rfl |refine aU rfl ?_ |refine Aa ?_|(refine aC rfl ?_ ?_<;>rintro ⟨⟩)|refine aK ?_|refine aE ?_|refine aB ?_|refine aR ⟨_,rfl,?_⟩)
    all_goals first
      | rfl
      | (exfalso;(simp only[oZ] at *;omega))
  · have hs:Bw p w = -1:=by unfold Bw;rw [if_neg hv]
    rw [hs] at h1
    have ha:GH p w=false:=by unfold GH;grind
    rw [ha]
    refine eN Tryz.func119 rfl (by kernel_rfl) rfl ?_;intro Γ hΓ
    (repeat' first|refine tA rfl ?_ |refine s2 rfl fun _ _hb=>?_ |refine sP rfl (h1) rfl ?_ |refine s3 rfl ?_ ?_<;>rintro rfl |refine aU rfl ?_ |refine Aa ?_|(refine aC rfl ?_ ?_<;>rintro ⟨⟩)|refine aK ?_|refine aE ?_|refine aB ?_|refine aR ⟨_,rfl,?_⟩)
    all_goals first
      | rfl
      | (exfalso;(simp only[oZ] at *;omega))
structure C5 where
  kn:Bool
  p:Cj
  s:Sys
  q:Cj
  al:Int
abbrev Cq (t:C5):E:=Xg t.kn t.p t.s t.q t.al
theorem I8 (t:C5) (hk:t.kn=true):Pure Tryz.prog TB 53 [Cq t] (eI .i64 (if Bf t.p then t.p.al else -1)):=by
  obtain ⟨kn,p,s,q,al⟩:=t
  dsimp only at hk
  subst hk
  refine eN Tryz.func53 rfl (by kernel_rfl) rfl ?_;intro Γ hΓ
  (repeat' first|refine tA rfl ?_ |refine s2 rfl fun _ _hb=>?_ |(refine sC rfl (Bn p) ?_;intro _ _hb) |refine s3 rfl ?_ ?_<;>rintro rfl |refine aU rfl ?_ |refine Aa ?_|(refine aC rfl ?_ ?_<;>rintro ⟨⟩)|refine aK ?_|refine aE ?_|refine aB ?_|refine aR ⟨_,rfl,?_⟩)
  all_goals first
    | (show E.o _=E.o _;congr;grind)
    | (exfalso;simp at *;done)
theorem Jt (t:C5) (hk:t.kn=true) (w:W) (hl:w.length≤1099511627776):Pure Tryz.prog TB 99 [Cq t,eT w] (eB (GH t.p w)):=by
  obtain ⟨kn,p,s,q,al⟩:=t
  dsimp only at hk
  subst hk
  have h1:=Js (TB:=TB) p w hl
  refine eN Tryz.func99 rfl (by kernel_rfl) rfl ?_;intro Γ hΓ
  (repeat' first|refine tA rfl ?_ |refine sP rfl (h1) rfl ?_ |refine aU rfl ?_ |refine Aa ?_|(refine aC rfl ?_ ?_<;>rintro ⟨⟩)|refine aK ?_|refine aE ?_|refine aB ?_|refine aR ⟨_,rfl,?_⟩)
  all_goals rfl
end Go.Am
namespace Go.Am
open Go
set_option linter.unusedVariables false
def Bs (es:List Dm) (l:Int) (m:Nat):Nat:=es.foldl (fun a e=>if e.l=l∧m.testBit e.f.toNat=true then a ||| 2 ^ e.t.toNat else a) 0
theorem Ge {α:Type} {p:α→Prop} [DecidablePred p] {g:α→Nat} {j:Nat}:∀(l:List α) (a:Nat),(l.foldl (fun a e=>if p e then a ||| g e else a) a).testBit j=true↔a.testBit j=true∨∃e∈l,p e∧(g e).testBit j=true
  | [],a=>by simp
  | x :: l,a=>by
    rw [List.foldl_cons,Ge l]
    by_cases h:p x
    · rw [if_pos h,Nat.testBit_or,Bool.or_eq_true]
      constructor
      · rintro ((h1|h1)|⟨e,h1,h2⟩)
        · exact .inl h1
        · exact .inr ⟨x,by simp,h,h1⟩
        · exact .inr ⟨e,by simp [h1],h2⟩
      · rintro (h1|⟨e,h1,h2,h3⟩)
        · exact .inl (.inl h1)
        · rcases List.mem_cons.1 h1 with rfl|h1
          · exact .inl (.inr h3)
          · exact .inr ⟨e,h1,h2,h3⟩
    · rw [if_neg h]
      constructor
      · rintro (h1|⟨e,h1,h2⟩)
        · exact .inl h1
        · exact .inr ⟨e,by simp [h1],h2⟩
      · rintro (h1|⟨e,h1,h2,h3⟩)
        · exact .inl h1
        · rcases List.mem_cons.1 h1 with rfl|h1
          · exact absurd h2 h
          · exact .inr ⟨e,h1,h2,h3⟩
theorem Dq {es:List Dm} {l:Int} {m j:Nat}:(Bs es l m).testBit j=true↔∃e∈es,(e.l=l∧m.testBit e.f.toNat=true)∧e.t.toNat=j:=by
  unfold Bs
  rw [Ge]
  simp [Nat.testBit_two_pow]
structure BY where
  s:Sys
  q:Cj
  al:Int
def AR (t:BY):Bool:=Bu t.s && (Bf t.q && Bk t.al)
def B4 (t:BY):List Int:=(Ag t.s.al).filter fun l=>!DJ t.al l.toNat
def Cn (s:Sys) (l:Int) (m:Nat):Nat:=if DJ s.al l.toNat then Bs s.es l m else m
abbrev PS:=Nat→Nat
def Pp (t:BY) (l:Int) (F:PS):PS:=fun p'=>(List.range t.q.nx.length).foldl (fun a p=>if Dl t.q p l=(p':Int) then a ||| Cn t.s l (F p) else a) 0
theorem Jj {t:BY} {l:Int} {F:PS} {p' j:Nat}:(Pp t l F p').testBit j=true↔∃p,p < t.q.nx.length∧Dl t.q p l=(p':Int)∧(Cn t.s l (F p)).testBit j=true:=by
  unfold Pp
  rw [Ge]
  simp
inductive MC (t:BY) (F0:PS):Nat→Nat→Prop
  | base {p j:Nat}:(F0 p).testBit j=true→MC t F0 p j
  | step {p j:Nat} {e:Dm}:MC t F0 p j→e∈t.s.es→e.l∈B4 t→e.f.toNat=j→MC t F0 (Dl t.q p e.l).toNat e.t.toNat
open Classical in
noncomputable def NT (t:BY) (F0:PS):PS:=fun p=>(List.range 16).foldl (fun a j=>if MC t F0 p j then a ||| 2 ^ j else a) 0
open Classical in
theorem LQ {t:BY} {F0:PS} {p j:Nat}:(NT t F0 p).testBit j=true↔j < 16∧MC t F0 p j:=by
  unfold NT
  rw [Ge]
  simp only [Nat.zero_testBit,Bool.false_eq_true,false_or,List.mem_range,Nat.testBit_two_pow,decide_eq_true_eq]
  constructor
  · rintro ⟨e,h1,h2,rfl⟩;exact ⟨h1,h2⟩
  · rintro ⟨h1,h2⟩;exact ⟨j,h1,h2,rfl⟩
structure Cr (t:BY) (F:PS):Prop where
  lt:∀p,F p < 65536
  z:∀p,t.q.nx.length≤p→F p=0
theorem Gb {m:Nat} (h:∀j,m.testBit j=true→j < 16):m < 65536:=by
  have:m < 2 ^ 16:=Nat.lt_pow_two_of_testBit m fun i hi=>by
    cases hb:m.testBit i
    · rfl
    · have:=h i hb;omega
  omega
theorem Ho {m j:Nat} (h:m < 65536) (hb:m.testBit j=true):j < 16:=by
  rcases Nat.lt_or_ge j 16 with h1|h1
  · exact h1
  · have:m.testBit j=false:=Nat.testBit_lt_two_pow (Nat.lt_of_lt_of_le h (Nat.pow_le_pow_right (n:=2) (by omega) h1))
    rw [this] at hb;cases hb
theorem Gc {m:Nat} (h:∀j,m.testBit j=false):m=0:=Nat.eq_of_testBit_eq fun j=>by rw [h j];simp
section
variable {t:BY} (ht:AR t=true)
include ht set_option linter.unusedSectionVars false
theorem NM {e:Dm} (he:e∈t.s.es):0≤e.f∧e.f < 16∧0≤e.t∧e.t < 16∧0≤e.l∧e.l < 6:=by
  unfold AR at ht
  simp only [Bool.and_eq_true] at ht
  have h1:=Cx ht.1 he
  have h2:=BX ht.1
  unfold CJ at h1
  grind
theorem Cb:Bf t.q=true:=by
  unfold AR at ht
  simp only [Bool.and_eq_true] at ht
  exact ht.2.1
theorem E9 {l:Int} (h:l∈B4 t):0≤l∧l < 6∧DJ t.s.al l.toNat=true:=by
  unfold B4 at h
  have h1:=BB (List.mem_filter.1 h).1
  exact ⟨h1.1,by omega,h1.2.2⟩
theorem FT {l:Int} {m:Nat} (hm:m < 65536):Cn t.s l m < 65536:=by
  unfold Cn
  split
  · refine Gb fun j hj=>?_
    obtain ⟨e,h1,_,rfl⟩:=Dq.1 hj
    have:=NM ht h1;omega
  · exact hm
theorem Ig {l:Int} (hl:0≤l∧l < 6) {F:PS} (h:Cr t F):Cr t (Pp t l F):=by
  refine ⟨fun p=>Gb fun j hj=>?_,fun p hp=>Gc fun j=>?_⟩
  · obtain ⟨q,h1,h2,h3⟩:=Jj.1 hj
    exact Ho (FT ht (h.lt q)) h3
  · cases hb:(Pp t l F p).testBit j
    · rfl
    · obtain ⟨q,h1,h2,h3⟩:=Jj.1 hb
      have:=FG (Cb ht) h1 hl.1 hl.2
      omega
theorem MC.lt {F0:PS} (h:Cr t F0) {p j:Nat} (hr:MC t F0 p j):p < t.q.nx.length∧j < 16:=by
  induction hr with
  | @base p j hb=>
    refine ⟨?_,Ho (h.lt p) hb⟩
    rcases Nat.lt_or_ge p t.q.nx.length with h1|h1
    · exact h1
    · rw [h.z p h1] at hb;simp at hb
  | @step p j e _ he hl _ ih=>
    have h1:=NM ht he
    have h2:=FG (Cb ht) ih.1 h1.2.2.2.2.1 h1.2.2.2.2.2
    omega
theorem Rt {F0:PS} (h:Cr t F0):Cr t (NT t F0):=by
  refine ⟨fun p=>Gb fun j hj=>(LQ.1 hj).1,fun p hp=>Gc fun j=>?_⟩
  cases hb:(NT t F0 p).testBit j
  · rfl
  · have:=((LQ.1 hb).2.lt ht h).1
    omega
theorem Rs {F0 G:PS} (h0:Cr t F0) (hG:∀p,t.q.nx.length≤p→G p=0) (h1:∀p j,(F0 p).testBit j=true→(G p).testBit j=true) (h2:∀p j,(G p).testBit j=true→MC t F0 p j)
    (h3:∀p l j,p < t.q.nx.length→l∈B4 t→(Bs t.s.es l (G p)).testBit j=true→(G (Dl t.q p l).toNat).testBit j=true):G=NT t F0:=by
  have key:∀ {p j:Nat},MC t F0 p j→(G p).testBit j=true:=fun {p j} hr=>by
    induction hr with
    | base hb=>exact h1 _ _ hb
    | @step p j e hr he hl hf ih=>exact h3 p e.l _ (hr.lt ht h0).1 hl (Dq.2 ⟨e,he,⟨rfl,by rw [hf];exact ih⟩,rfl⟩)
  funext p
  refine Nat.eq_of_testBit_eq fun j=>?_
  rw [Bool.eq_iff_iff,LQ]
  exact ⟨fun h=>⟨((h2 p j h).lt ht h0).2,h2 p j h⟩,fun h=>key h.2⟩
end
def HK:PS:=fun p=>if p=0 then 1 else 0
noncomputable def B3 (t:BY):PS:=NT t HK
noncomputable def DF (t:BY) (l:Int) (F:PS):PS:=NT t (Pp t l F)
def HP (t:BY) (F:PS):Bool:=(List.range t.q.nx.length).any fun p=>decide (F p≠0) && !(t.q.ac.getD p false)
noncomputable def GD (t:BY):PS→W→Bool
  | F,[]=>!HP t F
  | F,c::w=>!HP t F && GD t (DF t ((c.toNat:Int) - 97) F) w
noncomputable def LS (t:BY) (w:W):Bool:=GD t (B3 t) w
section
variable {t:BY} (ht:AR t=true)
include ht
theorem KC:Cr t HK:=by
  have h:=AN (Cb ht)
  refine ⟨fun p=>by unfold HK;split<;>omega,fun p hp=>by unfold HK;rw [if_neg (by omega)]⟩
theorem Ir:Cr t (B3 t):=Rt ht (KC ht)
theorem JY {l:Int} (hl:0≤l∧l < 6) {F:PS} (h:Cr t F):Cr t (DF t l F):=Rt ht (Ig ht hl h)
end
end Go.Am
