/-
  Loops whose head keeps most of what stands ahead of it.
-/
import Derived.Test.YtkkihplpglchjaaGreatDoorPart12
import Derived.Test.YtkkihplpglchjaaGreatDoorPart8
import Derived.Test.YtkkihplpglchjaaGreatDoorPart11
import Derived.Test.YtkkihplpglchjaaGreatDoorPart9
set_option linter.constructorNameAsVariable false
set_option linter.unusedSimpArgs false
set_option linter.unusedVariables false
namespace Go.Am
open Go
def Yp:Option TypeDesc→Bool
  | some (.func ..)=>true
  | _=>false
class Z7 (P:Program) (t:TypeId):Prop where
  out:Yp (P.underlying t)=true
section
variable {P:Program} {TB:Bc} {Γ:Ctx} {d:Option Tmp} {ty:TypeId} {pos:String} {af:Array Edge} {g:Option (Nat×Bool)} {f:Env} {σ:Ab} {nx:Nat}
end
def Kx (L:List (Nat×E)):List Nat→Option (List (Nat×E))
  | []=>some []
  | k::r=>match look L k,Kx L r with
    | some e,some l=>some ((k,e)::l)
    | _,_=>none
def Qt (σ:Ab):List Nat→Option Ab
  | []=>some []
  | k::r=>match look σ k,Qt σ r with
    | some e,some l=>some ((k,e)::l)
    | _,_=>none
section
variable {P:Program} {TB:Bc} {Γ:Ctx} {N:Nat}
theorem Ai.Yu {c:Code} {Q:Exit→Env→Ab→Nat→Prop} {L0 Lk:List (Nat×E)} {σ Sk:Ab} {nx:Nat} {α:Type} (ks is:List Nat) (hk:Kx L0 ks=some Lk) (hi:Qt σ is=some Sk) (v:α→List (Nat×E)) (s:α→Ab) (n:Nat) (μ:α→Nat)
    (x:α) (l0:List Nat) (hl0:(∀i,i < Γ.V.nx→l0[i]? = some i)∧l0.Nodup∧l0.length=n) (h0:CQ (nm l0 nx) (look L0) (v x++Lk)∧AO (nm l0 nx) σ (s x++Sk))
    (round:∀x,Ai P TB Γ N c (Iw (fun f σ nx=>∃y,μ y < μ x∧∃l:List Nat,(∀i,i < Γ.V.nx→l[i]? = some i)∧l.Nodup∧l.length=n∧CQ (nm l nx) f (v y++Lk)∧AO (nm l nx) σ (s y++Sk)) Q) (look (v x++Lk)) (s x++Sk) n) :
    Ai P TB Γ N (.loop c) Q (look L0) σ nx:=Ai.B0 (fun x=>v x++Lk) (fun x=>s x++Sk) n μ x l0 hl0 h0 round
theorem aL {c:Code} {Q:Exit→Env→Ab→Nat→Prop} {L0 Lk:List (Nat×E)} {σ Sk:Ab} {nx:Nat} {α:Type} (ks is:List Nat) (hk:Kx L0 ks=some Lk) (hi:Qt σ is=some Sk) (v:α→List (Nat×E)) (s:α→Ab) (n:Nat) (μ:α→Nat)
    (x:α) {m:Nat} (hΓ:Γ.V.nx=m) (hn:Nat.ble m n=true) (h0:CQ (nm (List.range n) nx) (look L0) (v x++Lk)∧AO (nm (List.range n) nx) σ (s x++Sk))
    (round:∀x,Ai P TB Γ N c (Iw (fun f σ nx=>∃y,μ y < μ x∧∃l:List Nat,(∀i,i < Γ.V.nx→l[i]? = some i)∧l.Nodup∧l.length=n∧CQ (nm l nx) f (v y++Lk)∧AO (nm l nx) σ (s y++Sk)) Q) (look (v x++Lk)) (s x++Sk) n) :
    Ai P TB Γ N (.loop c) Q (look L0) σ nx:=Ai.Yu ks is hk hi v s n μ x (List.range n) (rg hΓ hn) h0 round
end
inductive FZ (σ:Ab):C→D→Prop
  | d {x:D}:FZ σ (.d x) x
  | fn {g:FuncId}:FZ σ (.fn g []) (.v (.func (.func g) #[] #[]))
  | arr {id k off len:Nat} {T:TypeId} {rows:List (List C)} {ds:List (List D)} {rs:Nat→List C} {cs:Nat→Nat→C}:look σ id=some (.cells T k rows)→off+len≤rows.length→ds.length=len→
      (∀i r',ds[i]? = some r'→rows[off+i]? = some (rs i)∧(rs i).length=r'.length)→(∀i j r' x,ds[i]? = some r'→r'[j]? = some x→(rs i)[j]? = some (cs i j))→
      (∀i j r' x,ds[i]? = some r'→r'[j]? = some x→FZ σ (cs i j) x)→FZ σ (.arr id k off len) (.l ds)
  | ptr {id k i j:Nat} {T:TypeId} {rows:List (List C)} {r:List C} {ds:List D} {cs:Nat→C}:look σ id=some (.cells T k rows)→rows[i]? = some r→(∀q x,ds[q]? = some x→r[j+q]? = some (cs q))→(∀q x,ds[q]? = some x→FZ σ (cs q) x)→FZ σ (.ptr id k i j) (.p ds)
  | sld {id:Nat} {T:TypeId} {l:List (Value×List Value)} {v:Value} {row:List Value}:look σ id=some (.sld T l)→(v,row)∈l→FZ σ (.d (.v v)) (.l (row.map fun x=>[.v x]))
  | nl {b:Option Addr}:FZ σ (.d (.v (.slice b 0 0))) (.l [])
inductive Sh (σ:Ab):List C→List D→Prop
  | nil:Sh σ [] []
  | cons {c:C} {d:D} {cs:List C} {ds:List D}:FZ σ c d→Sh σ cs ds→Sh σ (c::cs) (d::ds)
theorem Sh.get {σ:Ab} {cs:List C} {ds:List D} (h:Sh σ cs ds):cs.length=ds.length∧∀(j:Nat) x,ds[j]? = some x→∃c,cs[j]? = some c∧FZ σ c x:=by
  induction h with
  | nil=>exact ⟨rfl,fun j x h=>by simp at h⟩
  | @cons c d cs ds h1 _ ih=>
    refine ⟨by simp [ih.1],fun j x hj=>?_⟩
    cases j with
    | zero=>simp at hj;subst hj;exact ⟨c,rfl,h1⟩
    | succ j=>exact ih.2 j x (by simpa using hj)
theorem Sh.refl {σ:Ab}:∀(ds:List D),Sh σ (ds.map .d) ds
  | []=>.nil
  | d::ds=>.cons .d (Sh.refl ds)
theorem FZ.rows {σ:Ab} {id k len:Nat} {T:TypeId} {rows:List (List C)} {ds:List (List D)} (hl:look σ id=some (.cells T k rows)) (hn:ds.length=len) (hr:rows.length=len) (h:∀(i:Nat) (r':List D),ds[i]? = some r'→∃r,rows[i]? = some r∧Sh σ r r'):FZ σ (.arr id k 0 len) (.l ds):=by
  refine .arr (rs:=fun i=>(rows[i]?).getD []) (cs:=fun i j=>(((rows[i]?).getD [])[j]?).getD (.d (.l []))) hl (by omega) hn (fun i r' hi=>?_) (fun i j r' x hi hj=>?_) (fun i j r' x hi hj=>?_)
  · obtain ⟨r,h1,h2⟩:=h i r' hi
    rw [Nat.zero_add,h1]
    exact ⟨rfl,h2.get.1⟩
  · obtain ⟨r,h1,h2⟩:=h i r' hi
    obtain ⟨c,h3,h4⟩:=h2.get.2 j x hj
    simp [h1,h3]
  · obtain ⟨r,h1,h2⟩:=h i r' hi
    obtain ⟨c,h3,h4⟩:=h2.get.2 j x hj
    simp [h1,h3,h4]
theorem FZ.full {σ:Ab} {id k len:Nat} {T:TypeId} {rows:List (List C)} {ds:List (List D)} (hl:look σ id=some (.cells T k rows)) (hr:rows=ds.map (fun r=>r.map .d)) (hn:rows.length=len):FZ σ (.arr id k 0 len) (.l ds):=by
  refine .rows hl (by rw [←hn,hr];simp) hn fun i r' hi=>⟨r'.map .d,?_,Sh.refl _⟩
  rw [hr];simp [hi]
theorem FZ.box {σ:Ab} {id k:Nat} {T:TypeId} {r:List C} {ds:List D} (hl:look σ id=some (.cells T k [r])) (h:Sh σ r ds):FZ σ (.ptr id k 0 0) (.p ds):=by
  refine .ptr (cs:=fun q=>(r[q]?).getD (.d (.l []))) hl rfl (fun q x hq=>?_) (fun q x hq=>?_)
  · obtain ⟨c,h3,h4⟩:=h.get.2 q x hq
    rw [Nat.zero_add,h3];rfl
  · obtain ⟨c,h3,h4⟩:=h.get.2 q x hq
    simp [h3,h4]
inductive EZ (σ:Ab):E→E→Prop
  | A0 {e:E}:e.A1=true→EZ σ e e
  | o {c:C} {d:D}:FZ σ c d→EZ σ (.o c) (.o (.d d))
  | a {cs:List C} {ds:List D}:Sh σ cs ds→EZ σ (.a cs) (.a (ds.map .d))
def NP (σ:Ab) (f:Env):List (Nat×E)→Prop
  | []=>True
  | (t,e')::L=>(∃e,f t=some e∧EZ σ e e')∧NP σ f L
theorem NP.get {σ:Ab} {f:Env}:∀ {L:List (Nat×E)},NP σ f L→∀t e',look L t=some e'→∃e,f t=some e∧EZ σ e e'
  | [],_,t,e,h=>by cases h
  | (k,x)::L,hs,t,e,h=>by
    rw [Ar] at h
    by_cases hk:k=t
    · rw [if_pos hk] at h;injection h with h;subst h;subst hk;exact hs.1
    · rw [if_neg hk] at h;exact NP.get hs.2 t e h
def D0 (V:View) (σ:Ab):View:={ V with I:=fun b=>V.I b∨∃id o,look σ id=some o∧¬V.nl id∧Dn V id o b }
theorem JR {V:View} {σ:Ab}:Ext V (D0 V σ):=⟨fun _ h=>.inl h,fun _ _=>rfl,Nat.le_refl _,fun _ _=>rfl,fun _ _=>rfl,fun _ _=>Iff.rfl,Nat.le_refl _⟩
section
variable {P:Program} {TB:Bc} {Γ:Ctx} {N:Nat} {σ:Ab}
theorem HK.data {I:Nat→Prop} {w:World} {T:TypeId} {v:Value} {row:List Value} (h:HK w T v row) (hI:∀b,Hs v b→I b):CA I w (.l (row.map fun x=>[.v x])) v:=by
  rcases h with ⟨rfl,rfl⟩|⟨b,cap,cur,rfl,h2,h3,h4,h5,h6⟩
  · exact .nil
  · have hn:row.length=(row.map fun x=>[D.v x]).length:=by simp
    have hg:∀(i:Nat) (r:List D) (j:Nat) (d:D),(row.map fun x=>[D.v x])[i]? = some r→r[j]? = some d→j=0∧∃x,row[i]? = some x∧d=.v x:=fun i r j d hi hj=>by
      simp only [List.getElem?_map,Option.map_eq_some_iff] at hi
      obtain ⟨x,hx,rfl⟩:=hi
      have hj0:j=0:=by have:=(List.getElem?_eq_some_iff.1 hj).1;simp at this;omega
      subst hj0
      simp at hj
      exact ⟨rfl,x,hx,hj.symm⟩
    rw [hn]
    refine .l (k:=1) (vs:=fun i _=>(row[i]?).getD undef) (hI b ⟨_,_,_,rfl⟩) (by simpa using h4) h5 (fun i r hi=>?_) (fun i r j d hi hj=>?_) (fun i r j d hi hj=>?_)
    · simp only [List.getElem?_map,Option.map_eq_some_iff] at hi
      obtain ⟨x,hx,rfl⟩:=hi;rfl
    · obtain ⟨rfl,x,hx,rfl⟩:=hg i r j d hi hj
      simp [World.cell?,h2,hx,(h6 i x hx).1]
    · obtain ⟨rfl,x,hx,rfl⟩:=hg i r j d hi hj
      simp only [hx,Option.getD_some]
      exact .v (h6 i x hx).2
theorem FZ.rel {V:View} (hi:Inv TB Γ V σ) {c:C} {d:D} (h:FZ σ c d):∀ {v:Value},Ay V c v→CA (D0 V σ).I V.w d v:=by
  induction h with
  | d=>intro v hc;cases hc with|d h=>exact h.ext (V:=V) (V':=D0 V σ) JR
  | @sld id T l v row hl hm=>
    intro v' hc
    have hv:v'=v:=Ay.val hc
    subst hv
    have h1:=hi.st.obj id _ hl
    exact (h1.2.2 _ hm).data fun b hb=>.inr ⟨id,_,hl,h1.1,⟨_,hm,hb⟩⟩
  | @nl b=>
    intro v' hc
    have hv:v'=_:=Ay.val hc
    subst hv
    cases b
    · exact .nil
    · exact .e (Nat.zero_le _)
  | fn =>
    intro v hc
    cases hc with
    | @fn f cap vs h1 _=>
      have:vs = #[]:=Array.eq_empty_of_size_eq_zero (by simpa using h1)
      subst this
      exact .v rfl
  | @arr id k off len T rows ds rs cs hl hle hn h1 h2 _ ih=>
    intro v hc
    cases hc with
    | nil h3 h4=>
      have:ds=[]:=List.length_eq_zero_iff.1 hn
      subst this
      exact .nil
    | arr h3 hnl h4=>
      rcases hi.st.obj id _ hl with ⟨h5,_⟩|⟨_,cur,h5,h6,h7,h8,h9,h10⟩
      · exact absurd h5 hnl
      · have hcell:∀(i:Nat) (r:List D) (j:Nat) (x:D),ds[i]? = some r→r[j]? = some x→∃v,cur[(off+i)*k+j]? = some v∧CA (D0 V σ).I V.w x v:=fun i r j x hi' hj=>by
          obtain ⟨v,h11,h12⟩:=h10 (off+i) (rs i) j (cs i j) (h1 i r hi').1 (h2 i j r x hi' hj)
          exact ⟨v,h11,ih i j r x hi' hj h12⟩
        rw [←hn] at h4 ⊢
        refine .l (b:=V.ρ id) (o:=off*k) (k:=k) (vs:=fun i j=>cur.getD ((off+i)*k+j) undef) (.inr ⟨id,_,hl,hnl,rfl⟩) (by omega) (by omega) (fun i r hi'=>?_) (fun i r j x hi' hj=>?_) (fun i r j x hi' hj=>?_)
        · have h13:=h1 i r hi'
          rw [←h13.2]
          exact h9 _ (List.mem_of_getElem? h13.1)
        · obtain ⟨v,h11,_⟩:=hcell i r j x hi' hj
          have e:off*k+i*k+j=(off+i)*k+j:=by rw [Nat.add_mul]
          rw [e]
          simp [World.cell?,h5,h11]
        · obtain ⟨v,h11,h12⟩:=hcell i r j x hi' hj
          have:cur.getD ((off+i)*k+j) undef=v:=by simp [h11]
          simp only [this]
          exact h12
  | @ptr id k i j T rows r ds cs hl hri h1 _ ih=>
    intro v hc
    cases hc with
    | ptr h3 hnl=>
      rcases hi.st.obj id _ hl with ⟨h5,_⟩|⟨_,cur,h5,h6,h7,h8,h9,h10⟩
      · exact absurd h5 hnl
      · have hcell:∀(q:Nat) (x:D),ds[q]? = some x→∃v,cur[i*k+j+q]? = some v∧CA (D0 V σ).I V.w x v:=fun q x hq=>by
          obtain ⟨v,h11,h12⟩:=h10 i r (j+q) (cs q) hri (h1 q x hq)
          exact ⟨v,by rw [Nat.add_assoc];exact h11,ih q x hq h12⟩
        refine .p (b:=V.ρ id) (o:=i*k+j) (vs:=fun q=>cur.getD (i*k+j+q) undef) (.inr ⟨id,_,hl,hnl,rfl⟩) (fun q x hq=>?_) (fun q x hq=>?_)
        · obtain ⟨v,h11,_⟩:=hcell q x hq
          simp [World.cell?,h5,h11]
        · obtain ⟨v,h11,h12⟩:=hcell q x hq
          have:cur.getD (i*k+j+q) undef=v:=by simp [h11]
          simp only [this]
          exact h12
theorem EZ.rel {V:View} (hi:Inv TB Γ V σ) {e e':E} (h:EZ σ e e') {v:Value} (hv:A2 V e v):A2 (D0 V σ) e' v:=by
  cases h with
  | A0=>exact hv.ext JR
  | o h=>exact Ay.d (V:=D0 V σ) (h.rel hi hv)
  | @a cs ds h=>
    obtain ⟨vs,rfl,h1,h2⟩:=hv
    refine ⟨vs,rfl,by rw [h1,h.get.1];simp,fun j c v hj hv=>?_⟩
    simp only [List.getElem?_map,Option.map_eq_some_iff] at hj
    obtain ⟨x,hx,rfl⟩:=hj
    obtain ⟨c,h3,h4⟩:=h.get.2 j x hx
    exact Ay.d (V:=D0 V σ) (h4.rel hi (h2 j c v h3 hv))
theorem Ai.settle {c:Code} {Q:Exit→Env→Ab→Nat→Prop} {f:Env} {nx:Nat} (L:List (Nat×E)) (hE:NP σ f L) (h:Ai P TB Γ N c Q (look L) [] nx):Ai P TB Γ N c Q f σ nx:=by
  intro V a hr
  refine h (D0 V σ) a ⟨fun t x hx=>?_,fun t x hx=>?_,hr.size,?_,hr.nx,hr.defers⟩
  · obtain ⟨y,h1,h2⟩:=hE.get t x hx
    exact h2.rel hr.inv (hr.env t y h1)
  · obtain ⟨y,h1,_⟩:=hE.get t x hx
    exact hr.lt t y h1
  · have hi:=hr.inv
    refine ⟨hi.os,hi.tape,hi.output,hi.old,?_,?_,hi.ext.trans JR,De,fun id o ho=>(by cases ho),fun x hx=>⟨.inl (hi.tabs x hx).1,(hi.tabs x hx).2⟩,hi.hid.same rfl (fun _ h=>.inl h) (fun b hb=>hb.elim .inl fun ⟨id,o,hl,hn,he⟩=>.inr ⟨id,o,hl,hn,he⟩) fun b ⟨_,_,h,_⟩=>by cases h⟩
    · rintro b (hb|⟨id,o,hl,hn,hb⟩)
      · exact hi.iLt b hb
      · exact (hi.st.obj id o hl).blt hn hb
    · rintro b (hb|⟨id,o,hl,hn,hb⟩)
      · exact hi.iNew b hb
      · exact .inr (hi.live id o hl hn b hb)
theorem Mh {ids:List Nat} {L0:List (Nat×E)}:∀ {ks:List Nat} {Lk:List (Nat×E)},Kx L0 ks=some Lk→C9 σ ids (look L0) Lk
  | [],Lk,h=>by injection h with h;subst h;trivial
  | k :: ks,Lk,h=>by
    unfold Kx at h
    split at h
    · rename_i e l h1 h2
      injection h with h
      subst h
      exact ⟨⟨e,h1,.A0⟩,Mh h2⟩
    · cases h
theorem C9.app {ids:List Nat} {f:Env}:∀ {L M:List (Nat×E)},C9 σ ids f L→C9 σ ids f M→C9 σ ids f (L++M)
  | [],_,_,h=>h
  | _::_,_,h,h'=>⟨h.1,C9.app h.2 h'⟩
theorem Ai.MU {c:Code} {Q:Exit→Env→Ab→Nat→Prop} {L0 Lk:List (Nat×E)} {nx:Nat} (ids ks:List Nat) (hk:Kx L0 ks=some Lk) (L:List (Nat×E)) (hE:C9 σ ids (look L0) L) (h:Ai P TB Γ N c Q (look (L++Lk)) (BU ids σ) nx):Ai P TB Γ N c Q (look L0) σ nx:=
  Ai.freeze ids (L++Lk) (hE.app (Mh hk)) h
section
variable {d:Option Tmp} {ty:TypeId} {pos:String} {af:Array Edge} {g:Option (Nat×Bool)} {f:Env} {nx:Nat}
theorem Eb {t:TypeId} {x lo:Operand} {s:List UInt8} {m:Int} {k:IntKind} [ht:CR P t] (hx:ev f x=some (eT s)) (hl:ev f lo=some (eI k m)) (h0:0≤m) (h1:m≤s.length):AU P TB Γ ⟨d,.slice t x (some lo) none none,ty,pos,af,g⟩ f σ nx (eT (s.drop m.toNat)):=by
  have h:=Nr (P:=P) (TB:=TB) (Γ:=Γ) (d:=d) (ty:=ty) (pos:=pos) (af:=af) (g:=g) (σ:=σ) (nx:=nx) (t:=t) (x:=x) (lo:=some lo) (hi:=none) (l:=some (k,m)) (h:=none) hx (by simp [UI,hl]) rfl h0 h1 (Int.le_refl _)
  simpa [IS,IY] using h
theorem Ns {t:TypeId} {x hi:Operand} {s:List UInt8} {m:Int} {k:IntKind} [ht:CR P t] (hx:ev f x=some (eT s)) (hl:ev f hi=some (eI k m)) (h0:0≤m) (h1:m≤s.length):AU P TB Γ ⟨d,.slice t x none (some hi) none,ty,pos,af,g⟩ f σ nx (eT (s.take m.toNat)):=by
  have h:=Nr (P:=P) (TB:=TB) (Γ:=Γ) (d:=d) (ty:=ty) (pos:=pos) (af:=af) (g:=g) (σ:=σ) (nx:=nx) (t:=t) (x:=x) (lo:=none) (hi:=some hi) (l:=none) (h:=some (k,m)) hx rfl (by simp [UI,hl]) (Int.le_refl _) h0 h1
  simpa [IS,IY] using h
theorem QL {t e:TypeId} {b n:Nat} {x lo:Operand} {rows:List (List D)} {m:Int} {k:IntKind} [hsl:BS P t e n b] (hx:ev f x=some (.o (.d (.l rows)))) (hl:ev f lo=some (eI k m)) (hn:∀r∈rows,r.length=n) (h0:0≤m) (h1:m≤rows.length):AU P TB Γ ⟨d,.slice t x (some lo) none none,ty,pos,af,g⟩ f σ nx (.o (.d (.l (rows.drop m.toNat)))):=by
  have h:=QN (P:=P) (TB:=TB) (Γ:=Γ) (d:=d) (ty:=ty) (pos:=pos) (af:=af) (g:=g) (σ:=σ) (nx:=nx) (t:=t) (x:=x) (lo:=some lo) (hi:=none) (l:=some (k,m)) (h:=none) hx (by simp [UI,hl]) rfl hn h0 h1 (Int.le_refl _)
  simpa [IS,IY] using h
theorem GW {t e:TypeId} {b n:Nat} {x hi:Operand} {rows:List (List D)} {m:Int} {k:IntKind} [hsl:BS P t e n b] (hx:ev f x=some (.o (.d (.l rows)))) (hl:ev f hi=some (eI k m)) (hn:∀r∈rows,r.length=n) (h0:0≤m) (h1:m≤rows.length):AU P TB Γ ⟨d,.slice t x none (some hi) none,ty,pos,af,g⟩ f σ nx (.o (.d (.l (rows.take m.toNat)))):=by
  have h:=QN (P:=P) (TB:=TB) (Γ:=Γ) (d:=d) (ty:=ty) (pos:=pos) (af:=af) (g:=g) (σ:=σ) (nx:=nx) (t:=t) (x:=x) (lo:=none) (hi:=some hi) (l:=none) (h:=some (k,m)) hx rfl (by simp [UI,hl]) hn (Int.le_refl _) h0 h1
  simpa [IS,IY] using h
end
end
end Go.Am
namespace Go.Am
open Go Go.Proofs
end Go.Am
namespace Go.Am
open Go Go.Proofs
set_option maxHeartbeats 1000000
attribute [local irreducible] AU B3 Lex Br Ai Spec
variable {TB:Bc}
end Go.Am
namespace Go.Am
open Go
section
variable {P:Program} {TB:Bc} {Γ:Ctx} {d:Option Tmp} {ty:TypeId} {pos:String} {af:Array Edge} {g:Option (Nat×Bool)} {f:Env} {σ:Ab} {nx:Nat}
variable {K:E→Ab→Nat→Prop}
theorem GR {t:TypeId} {z:List Value} {fl:List (Nat×Nat)} {parts:Array (Nat×Operand)} {es:List E} {qs:List (Nat×List C)} [hz:Bz P t z] [hf:DG P t fl] (p k e q k' e':Nat) (hp:z[p]? = some (.slice none 0 0)) (hp':z[q]? = some (.slice none 0 0)) (hpq:p≠q) (hes:GI f (parts.toList.map (·.2))=some es) (hq:DK fl parts.toList es=some qs)
    (hok:z.all Lr=true) (hle:(qs.all fun x=>Nat.ble (x.1+x.2.length) z.length)=true) (hK:K (.a (BK qs (((z.map zC).set p (.arr nx k 0 0)).set q (.arr (nx+1) k' 0 0)))) ((nx+1,.cells e' k' [])::(nx,.cells e k [])::σ) (nx+2)):B3 P TB Γ ⟨d,.build t parts,ty,pos,af,g⟩ f σ nx K:=
  CD fun V ρ h1 h2 h3=>by
    subst h3
    obtain ⟨i,zv,hi,hzv,hzz⟩:=FP hz.out
    obtain ⟨hi1,he1⟩:=h2.alloc (c:=0) (nl:=True) (w:=V.w) (ob:=.cells e k []) rfl rfl rfl rfl (Nat.le_refl _) (fun _ _=>rfl) (.inl ⟨by simp [Al],rfl⟩)
    obtain ⟨hi2,he2⟩:=hi1.alloc (c:=0) (nl:=True) (w:=V.w) (ob:=.cells e' k' []) rfl rfl rfl rfl (Nat.le_refl _) (fun _ _=>rfl) (.inl ⟨by simp [Al],rfl⟩)
    have he3:=he1.trans he2
    have hfo:=Cs (V:=Al (Al V V.w.heap.size 0 True V.w) V.w.heap.size 0 True V.w) (ρ:=ρ) parts.toList es qs (fun x hx e he=>(h1.get (by simp only [Op.operands];simpa using hx) he).ext he3) hes hq
    have hzr:Cr (Al (Al V V.w.heap.size 0 True V.w) V.w.heap.size 0 True V.w) (((z.map zC).set p (.arr V.nx k 0 0)).set q (.arr (V.nx+1) k' 0 0)) zv.cells:=by
      refine ⟨by rw [List.length_set,List.length_set,List.length_map,←hzz];simp,fun j c v hj hv=>?_⟩
      have hzj:z[j]? = some v:=by rw [←hzz,Array.getElem?_toList];exact hv
      by_cases hjq:q=j
      · subst hjq
        rw [hp'] at hzj
        injection hzj with hzj
        subst hzj
        rw [List.getElem?_set_self (by rw [List.length_set,List.length_map];exact (List.getElem?_eq_some_iff.1 hp').1)] at hj
        injection hj with hj
        subst hj
        exact Ay.nil (by simp [Al]) (by simp [Al])
      · rw [List.getElem?_set_ne hjq] at hj
        by_cases hjp:p=j
        · subst hjp
          rw [hp] at hzj
          injection hzj with hzj
          subst hzj
          rw [List.getElem?_set_self (by rw [List.length_map];exact (List.getElem?_eq_some_iff.1 hp).1)] at hj
          injection hj with hj
          subst hj
          exact Ay.nil (by simp [Al];omega) (by simp [Al])
        · rw [List.getElem?_set_ne hjp,List.getElem?_map,hzj] at hj
          injection hj with hj
          subst hj
          exact HJ (List.all_eq_true.1 hok v (List.mem_of_getElem? hzj))
    obtain ⟨cells,h4,h5⟩:=Ek _ _ _ _ hfo hzr (fun x hx=>by rw [List.length_set,List.length_set,List.length_map];exact Gl _ _ hle x hx)
    have hb:=run_build (P:=P) (ρ:=ρ) (parts:=parts) (V:=V) hi hzv hf.out h4
    refine ⟨.agg cells,_,_,_,?_,he3,hi2,(show A2 _ (.a _) _ from ⟨cells,rfl,h5⟩),hK⟩
    show ((do let v ←Instr.build t (parts.map fun (i,x)=>(i,ρ x));pure (Go.Next.value v):Sem Go.Next)).run P V.w=_
    simp only [Sem.run_bind,hb,Result.andThen_ok]
    rfl
end
end Go.Am
namespace Go.Am
open Go Go.Proofs
set_option maxHeartbeats 1000000
attribute [local irreducible] AU B3 Lex Br Ai Spec
variable {TB:Bc}
theorem Lu {c:C} {L:W→Bool} {ok:W→Prop} (hc:ET Tryz.prog TB c L ok) (al:Int) (t:AZ) (hf:Gd ok (A6 al) t) (ht:Hc al 20012 t) (ho:AV L (A6 al) t=none) :
    Pure Tryz.prog TB 72 [JI al c,BX t] (BH (Bd L al t)):=by
  have hr:=Cb c hc.A1
  have hrl:=ht.rl
  have hcl:=ht.cl
  have hla:(Af al).length≤6:=AM al 6
  have hask:=ht.Ri hf (by omega)
  have hnl:(Bd L al t).nx.length=t.rows.length:=by simp [Bd]
  have hal:(Bd L al t).ac.length=t.rows.length:=by simp [Bd]
  refine AN.Ji (AN.ofM 3 (Nat.le_refl _) Tryz.func72 rfl rfl (by kernel_rfl) (Nat.le_of_ble_eq_true rfl) ?_);intro Γ hΓ
  (repeat first|refine aU rfl ?_)
  (refine pW rfl ?_ rfl (by rfl);refine Es rfl rfl ?_)
  (refine Ag rfl ?_;refine CU (fun _ _=>DD rfl rfl rfl) rfl ?_)
  (repeat first|refine tA rfl ?_ |refine aU rfl ?_ |refine Aa ?_)
  (refine pW rfl ?_ rfl (by rfl);refine Ac [] rfl rfl (ES hc al t hask.1) ⟨rfl,by simp,by simp⟩ (by simp [Dy,E.AP,C.BG,C.AP,hr,eC]) trivial ?_;rintro x0 σ1 nx1 ⟨rfl,rfl,rfl⟩ _)
  (repeat first|refine tA rfl ?_ |refine aU rfl ?_ |refine Aa ?_)
  (refine pW rfl ?_ rfl (by rfl);refine GR 1 1 90 2 1 4 rfl rfl (by decide) rfl rfl (by rfl) (by rfl) ?_)
  (repeat first|refine sN rfl ?_ |refine tA rfl ?_ |refine aU rfl ?_ |refine Aa ?_)
  refine aB ?_
  refine Ai.B0 (α:={k:Nat // k≤t.rows.length}) (fun ⟨k,hkl⟩=>[(2,.o (.ptr 0 2 0 0)),(3,.o (.ip (OX t))),(4,.o (.ptr 1 3 0 0)),(5,.o (.mp 2)),(6,.o (.ptr 3 3 0 0)),(19,.o (.d (AQ t.rows))),(20,eI .i64 t.rows.length),(21,eI .i64 k)]) (fun ⟨k,hkl⟩=>[(0,.cells 71 2 [[.d (iD al),c]]),(1,.cells 26 3 [[.d (iD 0),.d (.l []),.d (.l [])]]),(2,.mp (Fg (Bb L t t.rows.length))),(3,.cells 26 3 [[.d (iD al),.arr 4 1 0 k,.arr 5 1 0 k]]),(4,.cells 90 1 (((Bd L al t).nx.take k).map fun r=>[.d (E9 r)])),(5,.cells 4 1 (((Bd L al t).ac.take k).map fun b=>[.d (bD b)]))]) 6 (fun ⟨k,hkl⟩=>t.rows.length - k) (⟨0,by omega⟩) [0,1,2,5,3,4] (IE hΓ rfl rfl) (by (simp[cX,zC,hΓ,hr,eC,Ab.AP,BU,Gc,BK,Ae])) ?_;rintro ⟨k,hkl⟩;(try dsimp only)
  (repeat first|refine s2 rfl fun _ _hb=>?_ |refine aU rfl ?_ |refine Aa ?_)
  (refine aC rfl ?_ ?_<;>rintro ⟨⟩)
  · have hlt:k < t.rows.length:=by (simp only[oZ] at *;omega)
    obtain ⟨r,hx⟩:=get_some (l:=t.rows) (k:=k) hlt
    have hx':=get_map (g:=BI) hx
    have hxm:=List.mem_of_getElem? hx
    refine aK ?_
    refine aS (aB ?_)
    (repeat first|refine tM rfl ?_ |(refine s4 rfl ‹_› rfl ?_ ?_;omega) |refine aU rfl ?_ |refine Aa ?_)
    (refine pW rfl ?_ rfl (by rfl);refine Mu 1 3 ?_)
    (repeat first|refine sN rfl ?_ |refine tM rfl ?_ |refine sP rfl (Dp al) rfl ?_ |refine aU rfl ?_ |refine Aa ?_)
    refine aB ?_
    refine Ai.B0 (α:={j:Nat // j≤(Af al).length}) (fun ⟨j,hjl⟩=>[(2,.o (.ptr 0 2 0 0)),(3,.o (.ip (OX t))),(4,.o (.ptr 1 3 0 0)),(5,.o (.mp 2)),(6,.o (.ptr 3 3 0 0)),(19,.o (.d (AQ t.rows))),(20,eI .i64 t.rows.length),(21,eI .i64 k),(8,eT r),(9,.o (.arr 6 1 0 j)),(27,A7 (Af al)),(28,eI .i64 (Af al).length),(29,eI .i64 j)]) (fun ⟨j,hjl⟩=>[(0,.cells 71 2 [[.d (iD al),c]]),(1,.cells 26 3 [[.d (iD 0),.d (.l []),.d (.l [])]]),(2,.mp (Fg (Bb L t t.rows.length))),(3,.cells 26 3 [[.d (iD al),.arr 4 1 0 k,.arr 5 1 0 k]]),(4,.cells 90 1 (((Bd L al t).nx.take k).map fun r=>[.d (E9 r)])),(5,.cells 4 1 (((Bd L al t).ac.take k).map fun b=>[.d (bD b)])),(6,.cells 3 1 (((Af al).take j).map fun l=>[.d (iD ((Em L t (r++[lb l]):Nat):Int))]))]) 7 (fun ⟨j,hjl⟩=>(Af al).length - j) (⟨0,by omega⟩) [0,1,2,3,4,5,6] (IE hΓ rfl rfl) (by (simp[cX,zC,hΓ,hr,eC,Ab.AP,BU,Gc])) ?_;rintro ⟨j,hjl⟩;(try dsimp only)
    (repeat first|refine s2 rfl fun _ _hb=>?_ |refine aU rfl ?_ |refine Aa ?_)
    (refine aC rfl ?_ ?_<;>rintro ⟨⟩)
    · have hjlt:j < (Af al).length:=by (simp only[oZ] at *;omega)
      obtain ⟨l,hl⟩:=get_some (l:=Af al) (k:=j) hjlt
      have hl':=get_map (g:=Db) hl
      have hlm:=List.mem_of_getElem? hl
      have hlb:=Bj hlm
      have hrb:=ht.onR r hxm
      have hm:=Ia (TB:=TB) hc al t (r++[lb l]) (by omega) (fun x hx=>hask.2 r hxm _ (List.mem_map.2 ⟨l,hlm,rfl⟩) x hx) (fun y hy=>by have:=(ht.onC y hy).2;simp;omega)
      have hlk:=Tx ho hxm hlm
      refine aK ?_
      refine aS (aB ?_)
      (repeat first|refine tA rfl ?_ |(refine s4 rfl ‹_› rfl ?_ ?_;omega) |refine aU rfl ?_ |refine Aa ?_)
      refine rG (Jr [13]) (by kernel_rfl) ?_
      (repeat first|(refine sA rfl ?_ ?_;first|exact tI|omega|simp only[oZ] at *;omega) |refine sP rfl (EP l hlb.1 (by omega)) rfl ?_|(refine Ag rfl ?_;refine gA rfl ?_;first| refine gS (fun _ _=>Uc rfl (by omega) (by omega)) ?_))
      rw [Wm hlb.1]
      (repeat first| (refine Ag rfl ?_;refine gA rfl ?_;first| refine gS (fun _ _=>AT rfl rfl (by simp [E.A1,C.Bw,C.A1,hc.A1]) hm rfl) ?_|refine gQ (VH rfl rfl rfl) (by rfl) ?_))
      (repeat first|refine tA rfl ?_)
      (refine pW rfl ?_ rfl (by rfl);refine Av rfl rfl rfl (by first| (simp;done)|(simp;(omega))) rfl (by intro r hr;simp at hr;subst hr;rfl) (by rfl) (Nat.le_of_ble_eq_true rfl) (by simp;omega) ?_)
      (repeat first|(refine sA rfl ?_ ?_;first|exact tI|omega) |refine aU rfl ?_ |refine Aa ?_)
      rw [hlk]
      refine ⟨⟨j+1,by omega⟩,by dsimp only;(omega),[0,1,2,3,4,5,7],?_⟩
      simp[cX,zC,hΓ,hr,List.take_add_one,hl]
    · obtain rfl:j=(Af al).length:=by (simp only[oZ] at *;omega)
      have hok:=hf r ⟨r,hxm,[],.inl rfl,[],.inl rfl,by simp⟩
      have hnx:(Bd L al t).nx.take (k+1)=(Bd L al t).nx.take k++[(Af al).map fun l=>((Em L t (r++[lb l]):Nat):Int)]:=by
        rw [List.take_add_one];simp [Bd,hx]
      have hac:(Bd L al t).ac.take (k+1)=(Bd L al t).ac.take k++[L r]:=by
        rw [List.take_add_one];simp [Bd,hx]
      refine aE ?_
      rw [List.take_length]
      refine Ai.MU [6] [2,3,4,5,6,8,19,20,21] rfl [(9,A7 ((Af al).map fun l=>((Em L t (r++[lb l]):Nat):Int)))] ⟨⟨_,rfl,.o (.full (by simp) rfl (by simp [Function.comp_def]) (by simp))⟩,trivial⟩ ?_;(try dsimp only[cA,cB])
      (repeat first|refine tA rfl ?_ |refine aU rfl ?_)
      (refine pW rfl ?_ rfl (by rfl);refine Av rfl rfl rfl (by first| (simp;done)|(simp;(omega))) rfl (by intro r hr;simp at hr;subst hr;rfl) (by rfl) (Nat.le_of_ble_eq_true rfl) (by simp;omega) ?_)
      (repeat first|refine tA rfl ?_ |refine Aa ?_)
      refine rG (Jr [7,9]) (by kernel_rfl) ?_
      (repeat first|refine tA rfl ?_|(refine Ag rfl ?_;refine gA rfl ?_;first| refine gS (fun _ _=>hc.ask rfl rfl hok) ?_))
      (refine pW rfl ?_ rfl (by rfl);refine Av rfl rfl rfl (by first| (simp;done)|(simp;(omega))) rfl (by intro r hr;simp at hr;subst hr;rfl) (by rfl) (Nat.le_of_ble_eq_true rfl) (by simp;omega) ?_)
      (repeat first|(refine sA rfl ?_ ?_;first|exact tI|omega) |refine aU rfl ?_ |refine Aa ?_)
      refine ⟨⟨k+1,by omega⟩,by dsimp only;(omega),[0,1,2,3,7,8],?_⟩
      simp[cX,zC,hΓ,hr,eC,Ab.AP,BU,Gc,BK,Ae,hnx,hac]
  · obtain rfl:k=t.rows.length:=by (simp only[oZ] at *;omega)
    have ht1:(Bd L al t).nx.take t.rows.length=(Bd L al t).nx:=List.take_of_length_le (by simp [Bd])
    have ht2:(Bd L al t).ac.take t.rows.length=(Bd L al t).ac:=List.take_of_length_le (by simp [Bd])
    rw [ht1,ht2]
    refine aE ?_
    (repeat first|refine tM rfl ?_ |refine aU rfl ?_ |refine Aa ?_)
    refine Ai.settle [(4,.o (.ip [iD al,DA (Bd L al t).nx,FT (Bd L al t).ac]))] ⟨⟨_,rfl,.o (.box rfl (.cons .d (.cons (.full rfl (by simp [Function.comp_def]) (by simp [Bd])) (.cons (.full rfl (by simp [Function.comp_def]) (by simp [Bd])) .nil))))⟩,trivial⟩ ?_
    refine aR ⟨_,rfl,rfl⟩
theorem EI (w:W) (i:Nat) (c:UInt8) (hc:w[((i:Nat):Int).toNat]? = some c) (hl:0≤(c.toNat:Int) - 97∧(c.toNat:Int) - 97 < 6):Pure Tryz.prog TB 84 [eT w,eI .i64 i] (eI .i64 ((c.toNat:Int) - 97)):=by
  refine eN Tryz.func84 rfl (by kernel_rfl) rfl ?_;intro Γ hΓ
  (repeat' first|(refine sA rfl ?_ ?_;first|exact tI|omega) |(refine s4 rfl ‹_› rfl ?_ ?_;omega) |refine s2 rfl fun _ _hb=>?_ |refine s3 rfl ?_ ?_<;>rintro rfl |refine aU rfl ?_ |refine Aa ?_|(refine aC rfl ?_ ?_<;>rintro ⟨⟩)|refine aK ?_|refine aE ?_|refine aB ?_|refine aR ⟨_,rfl,?_⟩)
  all_goals first
    | rfl
    | (exfalso;grind)
abbrev MH (kn:Bool) (p:Ci) (s:Sys) (q:Ci) (al:Int):List D:=[bD kn,iD p.al,DA p.nx,FT p.ac,iD s.al,iD s.st,EO s.es,iD q.al,DA q.nx,FT q.ac,iD al]
theorem Ni {ls:List UInt8} {w:W} (h:AW ls w) (k:Nat):AW ls (w.take k):=fun c hc=>h c (List.mem_of_mem_take hc)
theorem Je {p:Ci} {w:W} {k:Nat} {c:UInt8} (hc:w[k]? = some c) (q:Int):CW p q (w.take (k+1))=Dj p (CW p q (w.take k)).toNat ((c.toNat:Int) - 97):=by
  rw [List.take_add_one,hc,OP];rfl
theorem UW {p:Ci} (hp:Bh p=true) (s:Sys) (q:Ci) (al:Int) (kn:Bool) (w:W) (hw:AW (A6 p.al) w) (hl:w.length≤1048576) :
    Pure Tryz.prog TB 106 [eT w,.o (.ip [.l (LN p)]),.o (.ip (MH kn p s q al))] (eB (LA p w)):=by
  have hph:=AX hp
  refine eN Tryz.func106 rfl (by kernel_rfl) rfl ?_;intro Γ hΓ
  (repeat first|refine tA rfl ?_ |refine aU rfl ?_ |refine Aa ?_)
  refine aB ?_
  refine aL (α:={k:Nat // k≤w.length}) [0,1,2,8] [] rfl rfl (fun ⟨k,hk⟩=>[(5,eI .i64 (CW p 0 (w.take k))),(9,eI .i64 k)]) (fun ⟨k,hk⟩=>[]) 0 (fun ⟨k,hk⟩=>w.length - k) (⟨0,by omega⟩) hΓ rfl (by (simp[cX,zC,hΓ]<;>rfl)) ?_;rintro ⟨k,hk⟩;(try dsimp only[cA,cB])
  have hr:=GY hp (w.take k) 0 (Ni hw k) (by omega)
  by_cases hlt:k < w.length
  · obtain ⟨c,hc⟩:=get_some hlt
    have hc':w[((k:Nat):Int).toNat]? = some c:=by simpa using hc
    have hcl:=GO (hw c (List.mem_of_getElem? hc))
    have hla:=EI (TB:=TB) w k c hc' hcl
    have ta:=NC (a:=p) (q:=(CW p 0 (w.take k)).toNat) (by omega)
    have el:((((c.toNat:Int) - 97).toNat:Nat):Int)=(c.toNat:Int) - 97:=by omega
    have ra:=K0 (h:=fun l=>Dj p (CW p 0 (w.take k)).toNat l) hcl.1 (by omega)
    simp only [el] at ra
    have hst:=Je (p:=p) hc 0
    (repeat first|refine s2 rfl fun _ _hb=>?_ |refine aU rfl ?_ |refine Aa ?_)
    (refine aC rfl ?_ ?_<;>rintro ⟨⟩)
    · (repeat' first|(refine sA rfl ?_ ?_;first|exact tI|omega) |(refine s4 rfl ‹_› rfl ?_ ?_;omega) |refine sP rfl (hla) rfl ?_|(refine Ag rfl ?_;refine gA rfl ?_;first| refine gS (fun _ _=>Fj rfl ra) ?_) |refine aU rfl ?_ |refine Aa ?_ |refine rE (by kernel_rfl) ?_|(refine aC rfl ?_ ?_<;>rintro ⟨⟩)|refine aK ?_|refine aE ?_|refine aB ?_|refine aR ⟨_,rfl,?_⟩)
      refine ⟨⟨k+1,by omega⟩,by dsimp only;(omega),[],?_⟩
      simp[cX,zC,hΓ,hst]
    · exfalso;(simp only[oZ] at *;omega)
  · obtain rfl:k=w.length:=by omega
    rw [List.take_length] at *
    obtain ⟨b,hb⟩:=get_some (l:=p.ac) (k:=(CW p 0 w).toNat) (by omega)
    have hb':(p.ac.map Lv)[(CW p 0 w).toNat]? = some (Lv b):=by simp [hb]
    have hbl:LA p w=b:=by unfold LA;simp [List.getD,hb]
    rw [hbl]
    (repeat first|refine s2 rfl fun _ _hb=>?_ |refine aU rfl ?_ |refine Aa ?_)
    (refine aC rfl ?_ ?_<;>rintro ⟨⟩)
    · exfalso;(simp only[oZ] at *;omega)
    · (repeat' first|refine tA rfl ?_ |(refine s4 rfl ‹_› rfl ?_ ?_;omega) |refine aU rfl ?_ |refine Aa ?_|(refine aC rfl ?_ ?_<;>rintro ⟨⟩)|refine aK ?_|refine aE ?_|refine aB ?_|refine aR ⟨_,rfl,?_⟩)
      rfl
theorem Hc.mono {al:Int} {b b':Nat} {t:AZ} (h:Hc al b t) (hb:b≤b'):Hc al b' t:=⟨fun w hw=>⟨(h.onR w hw).1,Nat.le_trans (h.onR w hw).2 hb⟩,h.onC,h.rl,h.cl⟩
end Go.Am
namespace Go.Am
open Go
set_option linter.unusedVariables false
def Z3:Bool×List C→Option E
  | (false,[c])=>some (.o c)
  | (true,cs)=>some (.a cs)
  | _=>none
def Qj (f:Env) (σ:Ab) (t:Tmp) (ag:Bool) (n:Nat):Option (Bool×List C):=match f t with
  | some (.o (.d (.p cs)))=>match Nat.ble n cs.length with
    | true=>some (ag,(cs.take n).map .d)
    | false=>none
  | some (.o (.ptr id k i j))=>match look σ id with
    | some (.cells _ k' rows)=>match Nat.beq k k',nth rows i with
      | true,some r=>match Nat.ble (j+n) r.length with
        | true=>some (ag,(r.drop j).take n)
        | false=>none
      | _,_=>none
    | _=>none
  | _=>none
def RR (T:List (Nat×TI)) (f:Env) (σ:Ab):ResultVar→Option (Bool×List C)
  | .tmp t=>match f t with
    | some e=>OC e
    | none=>none
  | .cell t T'=>match (Hf T T').ld with
    | some (true,n)=>Qj f σ t true n
    | some (false,1)=>Qj f σ t false 1
    | _=>none
def RS (T:List (Nat×TI)) (f:Env) (σ:Ab):List ResultVar→Option (List (Bool×List C))
  | []=>some []
  | r::rs=>match RR T f σ r,RS T f σ rs with
    | some x,some xs=>some (x::xs)
    | _,_=>none
def Ui (T:List (Nat×TI)) (rs:Array ResultVar) (f:Env) (σ:Ab):Option E:=match rs.toList with
  | []=>some (.t [])
  | [r]=>match RR T f σ r with
    | some x=>Z3 x
    | none=>none
  | rs=>match rs.length,RS T f σ rs with
    | 2,some xs=>some (.t xs)
    | 3,some xs=>some (.t xs)
    | 4,some xs=>some (.t xs)
    | _,_=>none
def Ss (T:List (Nat×TI)) (rs:Array ResultVar) (post:E→Ab→Nat→Prop):Exit→Env→Ab→Nat→Prop
  | .ret,f,σ,nx|.normal,f,σ,nx=>∃x,Ui T rs f σ=some x∧post x σ nx
  | _,_,_,_=>False
section
variable {P:Program} {TB:Bc} {Γ:Ctx} {σ:Ab}
theorem Ma {V:View} {f:Env} {a:Act} {t:Tmp} {T':TypeId} {ag:Bool} {n:Nat} {x:Bool×List C} (hi:Inv TB Γ V σ) (hl:Df P T' ag n) (h1n:ag=false→n=1) (hE:Dk V f a.tmps) (h:Qj f σ t ag n=some x) :
    ∃v,((do loadVar T' (←asAddr (a.tmps.getD t undef))):Sem Value).run P V.w=.ok v V.w∧JF V x v:=by
  have key : ∃ (b o:Nat) (cs:List C) (vs:Nat→Value),a.tmps.getD t undef=.pointer (some ⟨b,o,none⟩)∧x=(ag,cs)∧cs.length=n∧∀(q:Nat) (c:C),cs[q]? = some c→V.w.cell? ⟨b,o+q,none⟩=some (vs q)∧Ay V c (vs q):=by
    unfold Qj at h
    split at h
    · rename_i ds hf
      split at h
      · rename_i hn
        have hn:=Nat.le_of_ble_eq_true hn
        injection h with h
        subst h
        have h3:Ay V (.d (.p ds)) (a.tmps.getD t undef):=hE t _ hf
        generalize a.tmps.getD t undef=v0 at h3
        obtain ⟨h3⟩:=h3
        cases h3 with
        | @p _ b o vs hb h1 h2=>
          refine ⟨b,o,_,vs,rfl,rfl,by simp;omega,fun q c hq=>?_⟩
          rw [List.getElem?_map,Option.map_eq_some_iff] at hq
          obtain ⟨dd,hd,rfl⟩:=hq
          rw [List.getElem?_take] at hd
          split at hd
          · exact ⟨h1 q dd hd,.d (h2 q dd hd)⟩
          · cases hd
      · cases h
    · rename_i id k i j hf
      split at h
      · rename_i T0 k' rows ho
        split at h
        · rename_i r hk hr
          have hk:=Nat.eq_of_beq_eq_true hk
          subst hk
          split at h
          · rename_i hn
            have hn:=Nat.le_of_ble_eq_true hn
            injection h with h
            subst h
            rw [J0] at hr
            have h3:Ay V (.ptr id k i j) (a.tmps.getD t undef):=hE t _ hf
            generalize a.tmps.getD t undef=v0 at h3
            cases h3 with
            | ptr hid hnl=>
              rcases hi.st.obj id _ ho with ⟨h4,_⟩|⟨_,cur,h4,h5,h6,h7,h8,h9⟩
              · exact absurd h4 hnl
              · refine ⟨V.ρ id,i*k+j,_,fun q=>cur.getD (i*k+j+q) undef,rfl,rfl,by simp;omega,fun q c hq=>?_⟩
                rw [List.getElem?_take] at hq
                split at hq
                · rw [List.getElem?_drop] at hq
                  obtain ⟨v,h10,h11⟩:=h9 i r (j+q) c hr hq
                  rw [←Nat.add_assoc] at h10
                  have e:cur.getD (i*k+j+q) undef=v:=by simp [h10]
                  dsimp only
                  rw [e]
                  exact ⟨by simp [World.cell?,h4,h10],h11⟩
                · cases hq
          · cases h
        · cases h
      · cases h
    · cases h
  obtain ⟨b,o,cs,vs,hv,rfl,hlen,hc⟩:=key
  rw [hv]
  cases ag with
  | false=>
    have hn1:=h1n rfl
    subst hn1
    match cs,hlen with
    | [c],_=>
      obtain ⟨h1,h2⟩:=hc 0 c rfl
      refine ⟨vs 0,?_,c,rfl,h2⟩
      rw [Nat.add_zero] at h1
      simp [asAddr,loadVar,(Bx hl.out V.w).1,h1,go_sem]
  | true =>
    refine ⟨.agg ((List.range n).map fun q=>vs q).toArray,?_,_,rfl,by simp [hlen],fun j c v hj hvv=>?_⟩
    · have:(loadCells ⟨b,o,none⟩ n).run P V.w=.ok ((List.range n).map fun q=>vs q).toArray V.w:=run_loadCells V.w _ n _ fun q hq=>by
        rw [Bm]
        exact (hc q cs[q] (List.getElem?_eq_getElem (by omega))).1
      unfold loadCells at this
      simp [asAddr,loadVar,(Bx hl.out V.w).1,(Bx hl.out V.w).2,this,go_sem]
    · have hq:j < n:=by have:=(List.getElem?_eq_some_iff.1 hj).1;omega
      have:v=vs j:=by simpa [hq] using hvv.symm
      subst this
      exact (hc j c hj).2
theorem Uh [hT:Cj P] {V:View} {f:Env} {a:Act} {r:ResultVar} {x:Bool×List C} (hi:Inv TB Γ V σ) (hE:Dk V f a.tmps) (h:RR hT.T f σ r=some x) :
    ∃v,((match r with
      | .tmp t=>pure (a.tmps.getD t undef)
      | .cell b t=>do loadVar t (←asAddr (a.tmps.getD b undef))):Sem Value).run P V.w=.ok v V.w∧JF V x v:=by
  have hty:=fun t=>CY (P:=P) t hT.ok
  unfold RR at h
  split at h
  · rename_i t
    split at h
    · rename_i e he
      exact ⟨_,by simp [go_sem],Et h (hE t e he)⟩
    · cases h
  · rename_i t T'
    split at h
    · rename_i n hl
      exact Ma hi ((hty T').Js hl) (fun h=>(by cases h)) hE h
    · rename_i hl
      exact Ma hi ((hty T').Js hl) (fun _=>rfl) hE h
    · cases h
theorem Wf {V:View} {x:Bool×List C} {e:E} {v:Value} (h:Z3 x=some e) (hr:JF V x v):A2 V e v:=by
  unfold Z3 at h
  split at h
  · injection h with h;subst h
    obtain ⟨c,h1,h2⟩:=hr
    simp at h1;subst h1;exact h2
  · injection h with h;subst h;exact hr
  · cases h
theorem Uj [hT:Cj P] {fn:Func} {V:View} {f:Env} {a:Act} {x:E} (hi:Inv TB Γ V σ) (hE:Dk V f a.tmps) (h:Ui hT.T fn.results f σ=some x):∃v,(results fn a.tmps).run P V.w=.ok v V.w∧A2 V x v:=by
  obtain ⟨F,hF,hFr⟩:∃F:ResultVar→Sem Value,results fn a.tmps=(do let vs ←fn.results.mapM F;pure (if h:vs.size=1 then vs[0] else .tuple vs))∧∀r x,RR hT.T f σ r=some x→∃v,(F r).run P V.w=.ok v V.w∧JF V x v:=
    ⟨fun r=>match r with
      | .tmp t=>pure (a.tmps.getD t undef)
      | .cell b t=>do loadVar t (←asAddr (a.tmps.getD b undef)),rfl,fun r x hr=>Uh hi hE hr⟩
  have two:∀ {r:ResultVar} {rs:List ResultVar} {xs:List (Bool×List C)},RS hT.T f σ (r::rs)=some xs→∃y ys,xs=y::ys∧RR hT.T f σ r=some y∧RS hT.T f σ rs=some ys:=by
    intro r rs xs h
    unfold RS at h
    split at h
    · rename_i y ys h1 h2
      injection h with h;subst h;exact ⟨y,ys,rfl,h1,h2⟩
    · cases h
  have nil:∀ {xs:List (Bool×List C)},RS hT.T f σ []=some xs→xs=[]:=fun h=>by injection h with h;exact h.symm
  have key:∀l:List ResultVar,fn.results=l.toArray→Ui hT.T l.toArray f σ=some x→∃v,(results fn a.tmps).run P V.w=.ok v V.w∧A2 V x v:=by
    intro l hll h
    rw [hF,hll]
    unfold Ui at h
    simp only at h
    match l with
    | []=>
      injection h with h;subst h
      exact ⟨.tuple #[],by simp [go_sem],#[],rfl,rfl,fun j x v hj=>by simp at hj⟩
    | [r]=>
      simp only at h
      split at h
      · rename_i y hy
        obtain ⟨v,h1,h2⟩:=hFr r y hy
        exact ⟨v,by simp [h1,go_sem],Wf h h2⟩
      · cases h
    | [r1,r2]=>
      simp only [List.length_cons,List.length_nil] at h
      split at h
      · rename_i xs _ hx
        injection h with h;subst h
        obtain ⟨y1,ys,rfl,h1,hx⟩:=two hx
        obtain ⟨y2,ys,rfl,h2,hx⟩:=two hx
        have:=nil hx;subst this
        obtain ⟨v1,e1,t1⟩:=hFr _ _ h1
        obtain ⟨v2,e2,t2⟩:=hFr _ _ h2
        refine ⟨.tuple #[v1,v2],by simp [e1,e2,go_sem],_,rfl,rfl,fun j x v' hj hv=>?_⟩
        match j with
        | 0=>simp at hj hv;subst hj;subst hv;exact t1
        | 1=>simp at hj hv;subst hj;subst hv;exact t2
        | j+2=>simp at hj
      · omega
      · omega
      · cases h
    | [r1,r2,r3]=>
      simp only [List.length_cons,List.length_nil] at h
      split at h
      · omega
      · rename_i xs _ hx
        injection h with h;subst h
        obtain ⟨y1,ys,rfl,h1,hx⟩:=two hx
        obtain ⟨y2,ys,rfl,h2,hx⟩:=two hx
        obtain ⟨y3,ys,rfl,h3,hx⟩:=two hx
        have:=nil hx;subst this
        obtain ⟨v1,e1,t1⟩:=hFr _ _ h1
        obtain ⟨v2,e2,t2⟩:=hFr _ _ h2
        obtain ⟨v3,e3,t3⟩:=hFr _ _ h3
        refine ⟨.tuple #[v1,v2,v3],by simp [e1,e2,e3,go_sem],_,rfl,rfl,fun j x v' hj hv=>?_⟩
        match j with
        | 0=>simp at hj hv;subst hj;subst hv;exact t1
        | 1=>simp at hj hv;subst hj;subst hv;exact t2
        | 2=>simp at hj hv;subst hj;subst hv;exact t3
        | j+3=>simp at hj
      · omega
      · cases h
    | [r1,r2,r3,r4]=>
      simp only [List.length_cons,List.length_nil] at h
      split at h
      · omega
      · omega
      · rename_i xs _ hx
        injection h with h;subst h
        obtain ⟨y1,ys,rfl,h1,hx⟩:=two hx
        obtain ⟨y2,ys,rfl,h2,hx⟩:=two hx
        obtain ⟨y3,ys,rfl,h3,hx⟩:=two hx
        obtain ⟨y4,ys,rfl,h4,hx⟩:=two hx
        have:=nil hx;subst this
        obtain ⟨v1,e1,t1⟩:=hFr _ _ h1
        obtain ⟨v2,e2,t2⟩:=hFr _ _ h2
        obtain ⟨v3,e3,t3⟩:=hFr _ _ h3
        obtain ⟨v4,e4,t4⟩:=hFr _ _ h4
        refine ⟨.tuple #[v1,v2,v3,v4],by simp [e1,e2,e3,e4,go_sem],_,rfl,rfl,fun j x v' hj hv=>?_⟩
        match j with
        | 0=>simp at hj hv;subst hj;subst hv;exact t1
        | 1=>simp at hj hv;subst hj;subst hv;exact t2
        | 2=>simp at hj hv;subst hj;subst hv;exact t3
        | 3=>simp at hj hv;subst hj;subst hv;exact t4
        | j+4=>simp at hj
      · cases h
    | _::_::_::_::_::_=>
      simp only [List.length_cons] at h
      cases h
  exact key fn.results.toList (by simp) (by simpa using h)
theorem AN.NM [hT:Cj P] {g:FuncId} {fn:Func} {c:Code} {m:Nat} {σ:Ab} {nx:Nat} {args:List E} {post:E→Ab→Nat→Prop} (hm:m≤nx) (hf:P.funcs[g]? = some fn) (hb:fn.body=some c) (hname:(fn.name == "runtime.NumGoroutine")=false)
    (hargs:args.length≤fn.ntmps) (h:∀Γ:Ctx,Γ.V.nx=m→Ai P TB Γ fn.ntmps c (Ss hT.T fn.results post) (look (BP 0 args)) σ nx):AN P TB g m σ nx args post:=by
  refine ⟨⟨fn,hf,hname,by rw [hb];rfl⟩,?_⟩
  intro V vs S hg ha
  refine calls_of_wp hf hb ?_
  have hs:vs.size≤fn.ntmps:=by rw [ha.1];exact hargs
  have hi:Inv TB (DS V (IZ V m) σ S) V σ:=
    ⟨rfl,rfl,rfl,fun _ _ _=>rfl,hg.iLt,fun _ h=>.inl h,Qv (by rw [hg.nx];exact hm),hg.st,fun id o ho hnl b hb=>.inr (.inl ⟨id,o,ho,hnl,hb⟩),hg.tabs,⟨S,hg.hid,fun b hb=>.inl hb,fun b hb=>.inr (.inr hb)⟩⟩
  have hr:BJ TB (DS V (IZ V m) σ S) fn.ntmps V (look (BP 0 args)) σ nx { tmps:=vs++Array.replicate (fn.ntmps - vs.size) undef,defers:=[] } := by
    refine ⟨?_,?_,by simp;omega,hi,hg.nx,rfl⟩
    · intro t e he
      obtain ⟨_,h2⟩:=B4 args 0 t e he
      have h2:args[t]? = some e:=by simpa using h2
      have hlt:t < vs.size:=by rw [ha.1];exact (List.getElem?_eq_some_iff.1 h2).1
      have h3:=ha.2 t e vs[t] h2 (Array.getElem?_eq_getElem hlt)
      simpa [Array.getElem?_append_left hlt,hlt] using h3
    · intro t e he
      obtain ⟨_,h2⟩:=B4 args 0 t e he
      have h2:args[t]? = some e:=by simpa using h2
      have:=(List.getElem?_eq_some_iff.1 h2).1
      omega
  refine wp_mono (h (DS V (IZ V m) σ S) rfl V _ hr) ?_
  rintro e a' w' ⟨V',f',σ',rfl,hq,hr'⟩
  have fin:(∃x,Ui hT.T fn.results f' σ'=some x∧post x σ' V'.nx)→a'.defers=[]∧∃v,(results fn a'.tmps).run P V'.w=.ok v V'.w∧∃V'' v' x σ'',Ending.returned v=.returned v'∧V''.w=V'.w∧Inv TB (DS V (IZ V m) σ S) V'' σ''∧A2 V'' x v'∧post x σ'' V''.nx:=by
    rintro ⟨x,hx,hp⟩
    obtain ⟨v,hv,he⟩:=Uj (P:=P) hr'.inv hr'.env hx
    exact ⟨hr'.defers,v,hv,V',v,x,σ',rfl,rfl,hr'.inv,he,hp⟩
  cases e with
  | normal=>exact fin hq
  | ret=>exact fin hq
  | exit id=>exact hq.elim
  | goto l=>exact hq.elim
  | panic ch=>exact hq.elim
  | outgrown=>exact hq.elim
theorem eG [hT:Cj P] {g:FuncId} {fn:Func} {c:Code} {nx:Nat} {args:List E} {post:E→Ab→Nat→Prop} (hf:P.funcs[g]? = some fn) (hb:fn.body=some c) (hname:(fn.name == "runtime.NumGoroutine")=false)
    (ha:Nat.ble args.length fn.ntmps=true) (h:∀Γ:Ctx,Γ.V.nx=nx→Ai P TB Γ fn.ntmps c (Ss hT.T fn.results post) (look (BP 0 args)) σ nx):Spec P TB g σ nx args post:=
  AN.Ji (AN.NM (Nat.le_refl _) hf hb hname (Nat.le_of_ble_eq_true ha) h)
end
end Go.Am
namespace Go.Am
open Go Go.Proofs
set_option maxHeartbeats 1000000
attribute [local irreducible] AU B3 Lex Br Ai Spec
variable {TB:Bc}
abbrev Y9 (kn:Bool) (p:Ci) (s:Sys) (q:Ci) (al:Int):E:=.a ((MH kn p s q al).map .d)
theorem DV (p:Ci) (s:Sys) (q:Ci) (al:Int):Pure Tryz.prog TB 26 [Y9 true p s q al] (eI .i64 (if Bh p then p.al else -1)):=by
  refine eN Tryz.func26 rfl (by kernel_rfl) rfl ?_;intro Γ hΓ
  (repeat' first|refine tA rfl ?_ |refine s2 rfl fun _ _hb=>?_ |(refine sC rfl (Cu p) ?_;intro _ _hb) |refine s3 rfl ?_ ?_<;>rintro rfl |refine aU rfl ?_ |refine Aa ?_|(refine aC rfl ?_ ?_<;>rintro ⟨⟩)|refine aK ?_|refine aE ?_|refine aB ?_|refine aR ⟨_,rfl,?_⟩)
  all_goals first
    | (show E.o _=E.o _;congr;grind)
    | (exfalso;simp at *;done)
abbrev X8 (kn:Bool) (p:Ci) (s:Sys) (q:Ci) (al:Int):C:=.fn 106 [.ip [.l (LN p)],.ip (MH kn p s q al)]
theorem WH {p:Ci} (hp:Bh p=true) (s:Sys) (q:Ci) (al:Int) (kn:Bool):ET Tryz.prog TB (X8 kn p s q al) (LA p) (fun w=>AW (A6 p.al) w∧w.length≤1048576):=
  .of rfl fun w hw=>UW hp s q al kn w hw.1 hw.2
theorem LG {p:Ci} (hp:Bh p=true) (s:Sys) (q:Ci) (al:Int):Pure Tryz.prog TB 57 [Y9 true p s q al] (.t [(true,[.d (iD p.al),X8 true p s q al]),(false,[.d (bD true)])]):=by
  have hT:=DV (TB:=TB) p s q al
  rw [if_pos hp] at hT
  have h0:=AX hp
  have ha:=h0.1
  unfold Bn at ha
  simp only [decide_eq_true_eq] at ha
  have htb:=HG (TB:=TB) p hp
  refine eG Tryz.func57 rfl (by kernel_rfl) rfl ?_;intro Γ hΓ
  (repeat first|refine tA rfl ?_ |refine sP rfl (hT) rfl ?_ |refine aU rfl ?_ |refine Aa ?_)
  refine aB ?_
  (repeat first|refine tA rfl ?_ |refine s2 rfl fun _ _hb=>?_ |refine aU rfl ?_ |refine Aa ?_)
  ((refine aC rfl ?_ ?_<;>rintro ⟨⟩);all_goals try (simp at _hb;done))
  · exfalso;(simp only[oZ] at *;omega)
  · (repeat first|refine tA rfl ?_ |refine aU rfl ?_ |refine Aa ?_)
    ((refine aC rfl ?_ ?_<;>rintro ⟨⟩);all_goals try (simp at _hb;done))
    refine aS ?_
    refine Zo (by kernel_rfl) ?_;(repeat first|refine tA rfl ?_ |refine sP rfl (htb) rfl ?_);refine Aa ?_
    refine aS ?_
    refine Ai.MU [1] [1,2,3,4] rfl [(5,.o (.ip [.l (LN p)]))] ⟨⟨_,rfl,.o (.ptr (by simp) rfl rfl rfl)⟩,trivial⟩ ?_;(try dsimp only[cA,cB])
    (repeat first|refine tA rfl ?_|(refine Ag rfl ?_;refine gA rfl ?_;first| refine gS (fun _ _=>Au rfl rfl (by rfl) (by rfl)) ?_) |refine aU rfl ?_ |refine Aa ?_)
    refine aR ⟨_,rfl,rfl⟩
theorem LF {p:Ci} (hp:Bh p=false) (s:Sys) (q:Ci) (al:Int):Pure Tryz.prog TB 57 [Y9 true p s q al] (.t [(true,[.d (iD 0),.d (.v .nilFunc)]),(false,[.d (bD false)])]):=by
  have hT:=DV (TB:=TB) p s q al
  rw [if_neg (by simp [hp])] at hT
  refine eG Tryz.func57 rfl (by kernel_rfl) rfl ?_;intro Γ hΓ
  (repeat first|refine tA rfl ?_ |refine sP rfl (hT) rfl ?_ |refine aU rfl ?_ |refine Aa ?_)
  refine aB ?_
  (repeat first|refine tA rfl ?_ |refine s2 rfl fun _ _hb=>?_ |refine aU rfl ?_ |refine Aa ?_)
  ((refine aC rfl ?_ ?_<;>rintro ⟨⟩);all_goals try (simp at _hb;done))
  · (repeat first|refine tA rfl ?_|(refine Ag rfl ?_;refine gA rfl ?_;first| refine gS (fun _ _=>Au rfl rfl (by rfl) (by rfl)) ?_) |refine aU rfl ?_ |refine Aa ?_)
    refine aR ⟨_,rfl,rfl⟩
theorem HX (w:W) (i:Nat) (c:UInt8) (hc:w[((i:Nat):Int).toNat]? = some c):Pure Tryz.prog TB 103 [eT w,eI .i64 i] (eI .i64 ((c.toNat:Int) - 97)):=by
  have hb:=c.toNat_lt
  refine eN Tryz.func103 rfl (by kernel_rfl) rfl ?_;intro Γ hΓ
  (repeat' first|(refine sA rfl ?_ ?_;first|exact tI|omega) |(refine s4 rfl ‹_› rfl ?_ ?_;omega) |refine aU rfl ?_ |refine Aa ?_|(refine aC rfl ?_ ?_<;>rintro ⟨⟩)|refine aK ?_|refine aE ?_|refine aB ?_|refine aR ⟨_,rfl,?_⟩)
  rfl
theorem On (n:Int) (h0:0≤n) (h1:n < 16):Pure Tryz.prog TB 153 [eI .i64 n] (eI .i64 ((2 ^ n.toNat:Nat):Int)):=by
  refine eN Tryz.func153 rfl (by kernel_rfl) rfl ?_;intro Γ hΓ
  (repeat' first|(refine sA rfl ?_ ?_;first|exact tI|omega)|(refine Ag rfl ?_;refine gA rfl ?_;first| refine gS (fun _ _=>Ud rfl rfl h0 (QU h0 h1)) ?_) |refine aU rfl ?_ |refine Aa ?_|(refine aC rfl ?_ ?_<;>rintro ⟨⟩)|refine aK ?_|refine aE ?_|refine aB ?_|refine aR ⟨_,rfl,?_⟩)
  rfl
theorem Gi {c:UInt8}:EB c=decide (0≤(c.toNat:Int) - 97∧(c.toNat:Int) - 97 < 6):=by
  unfold EB
  rw [Bool.eq_iff_iff,decide_eq_true_eq,decide_eq_true_eq]
  omega
theorem NG (w:W) (hl:w.length≤1099511627776):Pure Tryz.prog TB 176 [eT w] (eB (Ez w)):=by
  by_cases h5:w.length≤50000
  · have hwk : Ez w=w.all EB:=by unfold Ez;simp [h5]
    rw [hwk]
    refine eN Tryz.func176 rfl (by kernel_rfl) rfl ?_;intro Γ hΓ
    (repeat first|refine tA rfl ?_ |refine s2 rfl fun _ _hb=>?_ |refine aU rfl ?_ |refine Aa ?_)
    (refine aC rfl ?_ ?_<;>rintro ⟨⟩)
    · exfalso;(simp only[oZ] at *;omega)
    refine aK ?_
    (repeat first|refine tA rfl ?_ |refine aU rfl ?_ |refine Aa ?_)
    refine aB ?_
    refine aL (α:={k:Nat // k≤w.length∧(w.take k).all EB=true}) [0] [] rfl rfl (fun ⟨k,hk,ha⟩=>[(3,eI .i64 k)]) (fun ⟨k,hk,ha⟩=>[]) 0 (fun ⟨k,hk,ha⟩=>w.length - k) (⟨0,by omega,rfl⟩) hΓ rfl (by (simp[cX,zC,hΓ])) ?_;rintro ⟨k,hk,ha⟩;(try dsimp only[cA,cB])
    by_cases hlt:k < w.length
    · obtain ⟨c,hc⟩:=get_some hlt
      have hc':w[((k:Nat):Int).toNat]? = some c:=by simpa using hc
      have hla:=HX (TB:=TB) w k c hc'
      have hcn:=Gi (c:=c)
      by_cases hcc:EB c=true
      · have hst:=E1 hc ha hcc
        rw [hcn] at hcc
        simp only [decide_eq_true_eq] at hcc
        (repeat first|refine tA rfl ?_ |refine s2 rfl fun _ _hb=>?_ |refine aU rfl ?_ |refine Aa ?_)
        (refine aC rfl ?_ ?_<;>rintro ⟨⟩)
        · (repeat' first|(refine sA rfl ?_ ?_;first|exact tI|omega) |refine s2 rfl fun _ _hb=>?_ |refine sP rfl (hla) rfl ?_ |refine s3 rfl ?_ ?_<;>rintro rfl |refine aU rfl ?_ |refine Aa ?_|(refine aC rfl ?_ ?_<;>rintro ⟨⟩)|refine aK ?_|refine aE ?_|refine aB ?_|refine aR ⟨_,rfl,?_⟩)
          · exfalso;(simp only[oZ] at *;omega)
          · exfalso;(simp only[oZ] at *;omega)
          · refine ⟨⟨k+1,by omega,hst⟩,by dsimp only;(omega),[],?_⟩
            simp[cX,zC,hΓ]
        · exfalso;(simp only[oZ] at *;omega)
      · have hst:=GD hc (f:=EB) (by simpa using hcc)
        rw [hcn] at hcc
        simp only [decide_eq_true_eq] at hcc
        (repeat first|refine tA rfl ?_ |refine s2 rfl fun _ _hb=>?_ |refine aU rfl ?_ |refine Aa ?_)
        (refine aC rfl ?_ ?_<;>rintro ⟨⟩)
        · (repeat' first|(refine sA rfl ?_ ?_;first|exact tI|omega) |refine s2 rfl fun _ _hb=>?_ |refine sP rfl (hla) rfl ?_ |refine s3 rfl ?_ ?_<;>rintro rfl |refine aU rfl ?_ |refine Aa ?_|(refine aC rfl ?_ ?_<;>rintro ⟨⟩)|refine aK ?_|refine aE ?_|refine aB ?_|refine aR ⟨_,rfl,?_⟩)
          · rw [hst]
          · rw [hst]
          · exfalso;(simp only[oZ] at *;omega)
        · exfalso;(simp only[oZ] at *;omega)
    · have hd:=E0 ha (show w.length≤k by omega)
      (repeat first|refine tA rfl ?_ |refine s2 rfl fun _ _hb=>?_ |refine aU rfl ?_ |refine Aa ?_)
      (refine aC rfl ?_ ?_<;>rintro ⟨⟩)
      · exfalso;(simp only[oZ] at *;omega)
      · (repeat' first|refine tA rfl ?_ |refine aU rfl ?_ |refine Aa ?_|(refine aC rfl ?_ ?_<;>rintro ⟨⟩)|refine aK ?_|refine aE ?_|refine aB ?_|refine aR ⟨_,rfl,?_⟩)
        rw [hd]
  · have hwk:Ez w=false:=by unfold Ez;simp [h5]
    rw [hwk]
    refine eN Tryz.func176 rfl (by kernel_rfl) rfl ?_;intro Γ hΓ
    (repeat first|refine tA rfl ?_ |refine s2 rfl fun _ _hb=>?_ |refine aU rfl ?_ |refine Aa ?_)
    (refine aC rfl ?_ ?_<;>rintro ⟨⟩)
    · (repeat' first|refine tA rfl ?_ |refine aU rfl ?_ |refine Aa ?_|(refine aC rfl ?_ ?_<;>rintro ⟨⟩)|refine aK ?_|refine aE ?_|refine aB ?_|refine aR ⟨_,rfl,?_⟩)
      rfl
    · exfalso;(simp only[oZ] at *;omega)
abbrev ae (n:Int) (b:Bool):E:=.t [(false,[.d (iD n)]),(false,[.d (bD b)])]
theorem RZ {w:W} {k:Nat} {c:UInt8} (hc:w[k]? = some c):HF (w.take (k+1))=HF (w.take k) ||| 2 ^ (c.toNat - 97):=by
  unfold HF
  rw [List.take_add_one,hc];simp
theorem Lt (w:W) (hl:w.length≤1099511627776):Pure Tryz.prog TB 140 [eT w] (if Ez w then ae (HF w:Nat) true else ae 0 false):=by
  have hwv:=NG (TB:=TB) w hl
  by_cases hok:Ez w=true
  · have hok2:=hok
    unfold Ez at hok2
    simp only [Bool.and_eq_true,decide_eq_true_eq] at hok2
    rw [if_pos hok]
    refine eN Tryz.func140 rfl (by kernel_rfl) rfl ?_;intro Γ hΓ
    (repeat first|refine tA rfl ?_ |refine s2 rfl fun _ _hb=>?_ |(refine sC rfl (hwv) ?_;intro _ _hb) |refine aU rfl ?_ |refine Aa ?_)
    (refine aC rfl ?_ ?_<;>rintro ⟨⟩)
    · exfalso;simp at *;grind
    refine aK ?_
    (repeat first|refine tA rfl ?_ |refine aU rfl ?_ |refine Aa ?_)
    refine aB ?_
    refine aL (α:={k:Nat // k≤w.length}) [0] [] rfl rfl (fun ⟨k,hk⟩=>[(4,eI .i64 (HF (w.take k):Nat)),(5,eI .i64 k)]) (fun ⟨k,hk⟩=>[]) 0 (fun ⟨k,hk⟩=>w.length - k) (⟨0,by omega⟩) hΓ rfl (by (simp[cX,zC,hΓ]<;>rfl)) ?_;rintro ⟨k,hk⟩;(try dsimp only[cA,cB])
    by_cases hlt:k < w.length
    · obtain ⟨c,hc⟩:=get_some hlt
      have hc':w[((k:Nat):Int).toNat]? = some c:=by simpa using hc
      have hla:=HX (TB:=TB) w k c hc'
      have hcc:=(List.all_eq_true.1 hok2.2) c (List.mem_of_getElem? hc)
      rw [Gi,decide_eq_true_eq] at hcc
      have hbt:=On (TB:=TB) ((c.toNat:Int) - 97) hcc.1 (by omega)
      have hst:=RZ hc
      have hs1:HF (w.take k) < 64:=Nx (by rw [List.all_eq_true];exact fun x hx=>(List.all_eq_true.1 hok2.2) x (List.mem_of_mem_take hx)) (by omega)
      have ht:((c.toNat:Int) - 97).toNat=c.toNat - 97:=by omega
      have h26:2 ^ (c.toNat - 97) < 2 ^ 6:=Nat.pow_lt_pow_right (by omega) (by omega)
      have hor:=(Vl hs1 h26).1
      rw [←hst] at hor
      rw [ht] at hbt
      (repeat first|refine tA rfl ?_ |refine s2 rfl fun _ _hb=>?_ |refine aU rfl ?_ |refine Aa ?_)
      (refine aC rfl ?_ ?_<;>rintro ⟨⟩)
      · (repeat' first|(refine sA rfl ?_ ?_;first|exact tI|omega) |refine sP rfl (hla) rfl ?_|refine sP rfl (hbt) rfl ?_ |refine aU rfl ?_ |refine Aa ?_|(refine aC rfl ?_ ?_<;>rintro ⟨⟩)|refine aK ?_|refine aE ?_|refine aB ?_|refine aR ⟨_,rfl,?_⟩)
        rw [hor]
        refine ⟨⟨k+1,by omega⟩,by dsimp only;(omega),[],?_⟩
        simp[cX,zC,hΓ]
      · exfalso;(simp only[oZ] at *;omega)
    · obtain rfl:k=w.length:=by omega
      rw [List.take_length]
      (repeat first|refine tA rfl ?_ |refine s2 rfl fun _ _hb=>?_ |refine aU rfl ?_ |refine Aa ?_)
      (refine aC rfl ?_ ?_<;>rintro ⟨⟩)
      · exfalso;(simp only[oZ] at *;omega)
      · (repeat' first|refine tA rfl ?_ |refine aU rfl ?_ |refine Aa ?_|(refine aC rfl ?_ ?_<;>rintro ⟨⟩)|refine aK ?_|refine aE ?_|refine aB ?_|refine aR ⟨_,rfl,?_⟩)
        rfl
  · rw [if_neg hok]
    refine eN Tryz.func140 rfl (by kernel_rfl) rfl ?_;intro Γ hΓ
    (repeat first|refine tA rfl ?_ |refine s2 rfl fun _ _hb=>?_ |(refine sC rfl (hwv) ?_;intro _ _hb) |refine aU rfl ?_ |refine Aa ?_)
    (refine aC rfl ?_ ?_<;>rintro ⟨⟩)
    · (repeat' first|refine tA rfl ?_ |refine aU rfl ?_ |refine Aa ?_|(refine aC rfl ?_ ?_<;>rintro ⟨⟩)|refine aK ?_|refine aE ?_|refine aB ?_|refine aR ⟨_,rfl,?_⟩)
      rfl
    · exfalso;simp at *;grind
theorem C8 (w:W) (al:Int) (hl:w.length≤1099511627776):Pure Tryz.prog TB 111 [eT w,eI .i64 al] (eB (within w al)):=by
  have h1:=Lt (TB:=TB) w hl
  have h2:=C3 (TB:=TB) al
  by_cases hok:Ez w=true
  · rw [if_pos hok] at h1
    unfold Ez at hok
    simp only [Bool.and_eq_true,decide_eq_true_eq] at hok
    have hw:within w al=(Bn al && w.all (Hw al)):=by unfold within;simp [hok.1]
    rw [hw]
    refine eN Tryz.func111 rfl (by kernel_rfl) rfl ?_;intro Γ hΓ
    (repeat' first|refine tA rfl ?_ |refine s2 rfl fun _ _hb=>?_ |refine sP rfl (h1) rfl ?_|(refine sC rfl (h2) ?_;intro _ _hb) |refine s3 rfl ?_ ?_<;>rintro rfl |refine aU rfl ?_ |refine Aa ?_|(refine aC rfl ?_ ?_<;>rintro ⟨⟩)|refine aK ?_|refine aE ?_|refine aB ?_|refine aR ⟨_,rfl,?_⟩)
    all_goals first
      | (show E.o _=E.o _;congr;grind)
      | (rename_i ha b;rw [VS hok.2 ha] at _hb;show E.o _=E.o _;rw [ha,_hb];rfl)
  · rw [if_neg hok] at h1
    have hw:within w al=false:=by
      rw [Bool.eq_false_iff]
      intro h
      unfold within at h
      simp only [Bool.and_eq_true,decide_eq_true_eq] at h
      exact hok (by unfold Ez;simp [h.1,P0 h.2.2])
    rw [hw]
    refine eN Tryz.func111 rfl (by kernel_rfl) rfl ?_;intro Γ hΓ
    (repeat' first|refine tA rfl ?_ |refine sP rfl (h1) rfl ?_|(refine sC rfl (h2) ?_;intro _ _hb) |refine aU rfl ?_ |refine Aa ?_|(refine aC rfl ?_ ?_<;>rintro ⟨⟩)|refine aK ?_|refine aE ?_|refine aB ?_|refine aR ⟨_,rfl,?_⟩)
    all_goals rfl
theorem Cq {w:W} {al:Int} (h:within w al=true):AW (A6 al) w:=by
  unfold within at h
  simp only [Bool.and_eq_true,decide_eq_true_eq] at h
  intro c hc
  have h1:=(List.all_eq_true.1 h.2.2) c hc
  unfold Hw EB at h1
  simp only [Bool.and_eq_true,decide_eq_true_eq] at h1
  refine List.mem_map.2 ⟨((c.toNat - 97:Nat):Int),ER.2 ⟨by omega,h1.2⟩,?_⟩
  unfold lb
  have e:97+((c.toNat - 97:Nat):Int).toNat=c.toNat:=by omega
  rw [e]
  simp
theorem Ep {w:W} {al:Int} (h:AW (A6 al) w) (hl:w.length≤50000) (ha:Bn al=true):within w al=true:=by
  unfold within
  simp only [Bool.and_eq_true,decide_eq_true_eq]
  refine ⟨hl,ha,List.all_eq_true.2 fun c hc=>?_⟩
  obtain ⟨l,hm,rfl⟩:=List.mem_map.1 (h c hc)
  have h1:=Bj hm
  have h2:=Px h1.1 (by omega)
  unfold Hw EB
  simp only [Bool.and_eq_true,decide_eq_true_eq]
  have e:(lb l).toNat - 97=l.toNat:=by omega
  rw [e]
  exact ⟨by omega,h1.2.2⟩
theorem Tv {p:Ci} (hp:Bh p=true) (w:W) (hw:AW (A6 p.al) w) (hl:w.length≤1099511627776):Pure Tryz.prog TB 171 [BH p,eI .i64 0,eT w] (eI .i64 (CW p 0 w)):=by
  have hph:=AX hp
  refine eN Tryz.func171 rfl (by kernel_rfl) rfl ?_;intro Γ hΓ
  (repeat first|refine tA rfl ?_ |refine aU rfl ?_ |refine Aa ?_)
  refine aB ?_
  refine aL (α:={k:Nat // k≤w.length}) [2,3] [] rfl rfl (fun ⟨k,hk⟩=>[(1,eI .i64 (CW p 0 (w.take k))),(7,eI .i64 k)]) (fun ⟨k,hk⟩=>[]) 0 (fun ⟨k,hk⟩=>w.length - k) (⟨0,by omega⟩) hΓ rfl (by (simp[cX,zC,hΓ]<;>rfl)) ?_;rintro ⟨k,hk⟩;(try dsimp only[cA,cB])
  have hr:=GY hp (w.take k) 0 (Ni hw k) (by omega)
  by_cases hlt:k < w.length
  · obtain ⟨c,hc⟩:=get_some hlt
    have hc':w[((k:Nat):Int).toNat]? = some c:=by simpa using hc
    have hcl:=GO (hw c (List.mem_of_getElem? hc))
    have hla:=HX (TB:=TB) w k c hc'
    have hgo:=MW (TB:=TB) p hp (CW p 0 (w.take k)).toNat (by omega) ((c.toNat:Int) - 97) hcl.1 hcl.2
    have e:(((CW p 0 (w.take k)).toNat:Nat):Int)=CW p 0 (w.take k):=by omega
    rw [e] at hgo
    have hst:=Je (p:=p) hc 0
    rw [←hst] at hgo
    (repeat first|refine tA rfl ?_ |refine s2 rfl fun _ _hb=>?_ |refine aU rfl ?_ |refine Aa ?_)
    (refine aC rfl ?_ ?_<;>rintro ⟨⟩)
    · (repeat' first|(refine sA rfl ?_ ?_;first|exact tI|omega) |refine sP rfl (hla) rfl ?_|refine sP rfl (hgo) rfl ?_ |refine aU rfl ?_ |refine Aa ?_ |refine rE (by kernel_rfl) ?_|(refine aC rfl ?_ ?_<;>rintro ⟨⟩)|refine aK ?_|refine aE ?_|refine aB ?_|refine aR ⟨_,rfl,?_⟩)
      refine ⟨⟨k+1,by omega⟩,by dsimp only;(omega),[],?_⟩
      simp[cX,zC,hΓ]
    · exfalso;(simp only[oZ] at *;omega)
  · obtain rfl:k=w.length:=by omega
    rw [List.take_length]
    (repeat first|refine tA rfl ?_ |refine s2 rfl fun _ _hb=>?_ |refine aU rfl ?_ |refine Aa ?_)
    (refine aC rfl ?_ ?_<;>rintro ⟨⟩)
    · exfalso;(simp only[oZ] at *;omega)
    · (repeat' first|refine tA rfl ?_ |refine aU rfl ?_ |refine Aa ?_|(refine aC rfl ?_ ?_<;>rintro ⟨⟩)|refine aK ?_|refine aE ?_|refine aB ?_|refine aR ⟨_,rfl,?_⟩)
      rfl
def BF (p:Ci) (w:W):Int:=if Bh p && within w p.al then CW p 0 w else -1
def Gh (p:Ci) (w:W):Bool:=Bh p && (within w p.al && LA p w)
theorem LM (p:Ci) (w:W) (hl:w.length≤1099511627776):Pure Tryz.prog TB 132 [BH p,eT w] (eI .i64 (BF p w)):=by
  have h1:=Bt (TB:=TB) p
  have h2:=C8 (TB:=TB) w p.al hl
  by_cases hv:(Bh p && within w p.al)=true
  · have hs:BF p w=CW p 0 w:=by unfold BF;rw [if_pos hv]
    rw [hs]
    rw [Bool.and_eq_true] at hv
    have h3:=Tv (TB:=TB) hv.1 w (Cq hv.2) hl
    refine eN Tryz.func132 rfl (by kernel_rfl) rfl ?_;intro Γ hΓ
    (repeat' first|refine tA rfl ?_ |refine s2 rfl fun _ _hb=>?_ |(refine sC rfl (h1) ?_;intro _ _hb)|(refine sC rfl (h2) ?_;intro _ _hb)|refine sP rfl (h3) rfl ?_ |refine s3 rfl ?_ ?_<;>rintro rfl |refine aU rfl ?_ |refine Aa ?_|(refine aC rfl ?_ ?_<;>rintro ⟨⟩)|refine aK ?_|refine aE ?_|refine aB ?_|refine aR ⟨_,rfl,?_⟩)
    all_goals first
      | rfl
      | (exfalso;grind;done)
  · have hs:BF p w = -1:=by unfold BF;rw [if_neg hv]
    rw [hs]
    refine eN Tryz.func132 rfl (by kernel_rfl) rfl ?_;intro Γ hΓ
    (repeat' first|refine tA rfl ?_ |refine s2 rfl fun _ _hb=>?_ |(refine sC rfl (h1) ?_;intro _ _hb)|(refine sC rfl (h2) ?_;intro _ _hb) |refine s3 rfl ?_ ?_<;>rintro rfl |refine aU rfl ?_ |refine Aa ?_|(refine aC rfl ?_ ?_<;>rintro ⟨⟩)|refine aK ?_|refine aE ?_|refine aB ?_|refine aR ⟨_,rfl,?_⟩)
    all_goals first
      | rfl
      | (exfalso;grind;done)
theorem Kc (p:Ci) (w:W) (hl:w.length≤1099511627776):Pure Tryz.prog TB 100 [BH p,eT w] (eB (Gh p w)):=by
  have h1:=LM (TB:=TB) p w hl
  by_cases hv:(Bh p && within w p.al)=true
  · have hs:BF p w=CW p 0 w:=by unfold BF;rw [if_pos hv]
    rw [hs] at h1
    rw [Bool.and_eq_true] at hv
    have hph:=AX hv.1
    have hr:=GY hv.1 w 0 (Cq hv.2) (by omega)
    obtain ⟨b,hb⟩:=get_some (l:=p.ac) (k:=(CW p 0 w).toNat) (by omega)
    have hb':(p.ac.map Lv)[(CW p 0 w).toNat]? = some (Lv b):=by simp [hb]
    have ha:Gh p w=b:=by unfold Gh LA;simp [hv.1,hv.2,List.getD,hb]
    rw [ha]
    refine eN Tryz.func100 rfl (by kernel_rfl) rfl ?_;intro Γ hΓ
    (repeat' first|refine tA rfl ?_ |(refine s4 rfl ‹_› rfl ?_ ?_;omega) |refine s2 rfl fun _ _hb=>?_ |refine sP rfl (h1) rfl ?_ |refine s3 rfl ?_ ?_<;>rintro rfl |refine aU rfl ?_ |refine Aa ?_|(refine aC rfl ?_ ?_<;>rintro ⟨⟩)|refine aK ?_|refine aE ?_|refine aB ?_|refine aR ⟨_,rfl,?_⟩)
    all_goals first
      | rfl
      | (exfalso;(simp only[oZ] at *;omega))
  · have hs:BF p w = -1:=by unfold BF;rw [if_neg hv]
    rw [hs] at h1
    have ha:Gh p w=false:=by unfold Gh;grind
    rw [ha]
    refine eN Tryz.func100 rfl (by kernel_rfl) rfl ?_;intro Γ hΓ
    (repeat' first|refine tA rfl ?_ |refine s2 rfl fun _ _hb=>?_ |refine sP rfl (h1) rfl ?_ |refine s3 rfl ?_ ?_<;>rintro rfl |refine aU rfl ?_ |refine Aa ?_|(refine aC rfl ?_ ?_<;>rintro ⟨⟩)|refine aK ?_|refine aE ?_|refine aB ?_|refine aR ⟨_,rfl,?_⟩)
    all_goals first
      | rfl
      | (exfalso;(simp only[oZ] at *;omega))
structure Da where
  kn:Bool
  p:Ci
  s:Sys
  q:Ci
  al:Int
abbrev BR (t:Da):E:=Y9 t.kn t.p t.s t.q t.al
theorem JM (t:Da) (hk:t.kn=true):Pure Tryz.prog TB 60 [BR t] (eI .i64 (if Bh t.p then t.p.al else -1)):=by
  obtain ⟨kn,p,s,q,al⟩:=t
  dsimp only at hk
  subst hk
  refine eN Tryz.func60 rfl (by kernel_rfl) rfl ?_;intro Γ hΓ
  (repeat' first|refine tA rfl ?_ |refine s2 rfl fun _ _hb=>?_ |(refine sC rfl (Bt p) ?_;intro _ _hb) |refine s3 rfl ?_ ?_<;>rintro rfl |refine aU rfl ?_ |refine Aa ?_|(refine aC rfl ?_ ?_<;>rintro ⟨⟩)|refine aK ?_|refine aE ?_|refine aB ?_|refine aR ⟨_,rfl,?_⟩)
  all_goals first
    | (show E.o _=E.o _;congr;grind)
    | (exfalso;simp at *;done)
theorem Kd (t:Da) (hk:t.kn=true) (w:W) (hl:w.length≤1099511627776):Pure Tryz.prog TB 101 [BR t,eT w] (eB (Gh t.p w)):=by
  obtain ⟨kn,p,s,q,al⟩:=t
  dsimp only at hk
  subst hk
  have h1:=Kc (TB:=TB) p w hl
  refine eN Tryz.func101 rfl (by kernel_rfl) rfl ?_;intro Γ hΓ
  (repeat' first|refine tA rfl ?_ |refine sP rfl (h1) rfl ?_ |refine aU rfl ?_ |refine Aa ?_|(refine aC rfl ?_ ?_<;>rintro ⟨⟩)|refine aK ?_|refine aE ?_|refine aB ?_|refine aR ⟨_,rfl,?_⟩)
  all_goals rfl
end Go.Am
