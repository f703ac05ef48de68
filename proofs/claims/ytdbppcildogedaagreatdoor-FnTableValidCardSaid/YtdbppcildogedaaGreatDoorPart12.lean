/-
  Wrong words show new columns, and these open the table.
-/
import Derived.Test.YtdbppcildogedaaGreatDoorPart11
import Derived.Test.YtdbppcildogedaaGreatDoorPart8
import Derived.Test.YtdbppcildogedaaGreatDoorPart9
set_option linter.constructorNameAsVariable false
set_option linter.unusedSimpArgs false
set_option linter.unusedVariables false
namespace Go.Am
set_option linter.unusedVariables false
structure Split (L:W→Bool) (ls:List UInt8) (t:Tab) (u v:W):Prop where
  suf:∃p,p≠[]∧u=p++v
  new:v∉t.cols
  opens:∃r∈t.rows,∃c∈ls,marks L (t.cols++[v]) (r++[c])∉rowsM L ⟨t.rows,t.cols++[v]⟩
def accM (L:W→Bool) (t:Tab) (w:W):Bool:=L (t.rows.getD (runM L t 0 w) [])
def nextT (L:W→Bool) (ls:List UInt8) (t:Tab) (w:W):Option Tab:=(splitAt L t (L w) 0 w).bind fun v=>closeN L ls 13 ⟨t.rows,t.cols++[v]⟩
structure Next (L:W→Bool) (ls:List UInt8) (t:Tab) (w v:W) (t':Tab):Prop where
  split:splitAt L t (L w) 0 w=some v
  close:closeN L ls 13 ⟨t.rows,t.cols++[v]⟩=some t'
  next:nextT L ls t w=some t'
  ok:Closed L ls t'
  cols:t'.cols=t.cols++[v]
  new:v∉t.cols
  suf:∃p,p≠[]∧w=p++v
  more:t.rows.length < t'.rows.length
  pre:t.rows <+: t'.rows
structure Wr (L:W→Bool) (ls:List UInt8) (wr:Tab→Option W):Prop where
  on:∀t w,wr t=some w→Closed L ls t→wordOn ls w∧accM L t w≠L w
def runA (a:Aut):Int→W→Int
  | q,[]=>q
  | q,c::w=>runA a (goA a q.toNat ((c.toNat:Int) - 97)) w
def LA (a:Aut) (w:W):Bool:=a.ac.getD (runA a 0 w).toNat false
theorem runA_app (a:Aut):∀(u w:W) (q:Int),runA a q (u++w)=runA a (runA a q u) w
  | [],_,_=>rfl
  | c::u,w,q=>runA_app a u w _
theorem lb_num {l:Int} (h0:0≤l) (h1:l < 6):((lb l).toNat:Int) - 97=l:=by
  unfold lb
  have:(97+l.toNat) % 256=97+l.toNat:=by omega
  simp [this]
  omega
theorem lsB_num {al:Int} {c:UInt8} (h:c∈lsB al):0≤(c.toNat:Int) - 97∧(c.toNat:Int) - 97 < 6:=by
  obtain ⟨l,hl,rfl⟩:=List.mem_map.1 h
  have h1:=lettersTo_in hl
  rw [lb_num h1.1 (by omega)]
  omega
theorem runA_in {a:Aut} (ha:autOk a=true) {al:Int}:∀(w:W) (q:Int),wordOn (lsB al) w→0≤q∧q < a.nx.length→0≤runA a q w∧runA a q w < a.nx.length
  | [],q,_,hq=>hq
  | c::w,q,hw,hq=>by
    have h1:=lsB_num (hw c (by simp))
    have h2:=goA_in ha (q:=q.toNat) (by omega) h1.1 h1.2
    exact runA_in ha w _ (fun x hx=>hw x (by simp [hx])) h2
end Go.Am
namespace Go.Am
open Go
set_option linter.unusedVariables false
open Classical in
def isFnD:Option TypeDesc→Bool
  | some (.func ..)=>true
  | _=>false
class HasFn (P:Program) (t:TypeId):Prop where
  out:isFnD (P.underlying t)=true
section
variable {P:Program} {TB:Amb} {Γ:Ctx} {d:Option Tmp} {ty:TypeId} {pos:String} {af:Array Edge} {g:Option (Nat×Bool)} {f:Env} {σ:Store} {nx:Nat}
end
def keepE (L:List (Nat×E)):List Nat→Option (List (Nat×E))
  | []=>some []
  | k::r=>match look L k,keepE L r with
    | some e,some l=>some ((k,e)::l)
    | _,_=>none
def keepS (σ:Store):List Nat→Option Store
  | []=>some []
  | k::r=>match look σ k,keepS σ r with
    | some e,some l=>some ((k,e)::l)
    | _,_=>none
section
variable {P:Program} {TB:Amb} {Γ:Ctx} {N:Nat}
theorem AWp.loopV {c:Code} {Q:Exit→Env→Store→Nat→Prop} {L0 Lk:List (Nat×E)} {σ Sk:Store} {nx:Nat} {α:Type} (ks is:List Nat) (hk:keepE L0 ks=some Lk) (hi:keepS σ is=some Sk) (v:α→List (Nat×E)) (s:α→Store) (n:Nat) (μ:α→Nat)
    (x:α) (l0:List Nat) (hl0:(∀i,i < Γ.V.nx→l0[i]? = some i)∧l0.Nodup∧l0.length=n) (h0:EnvSub (nm l0 nx) (look L0) (v x++Lk)∧StoreSub (nm l0 nx) σ (s x++Sk))
    (round:∀x,AWp P TB Γ N c (thenQ (fun f σ nx=>∃y,μ y < μ x∧∃l:List Nat,(∀i,i < Γ.V.nx→l[i]? = some i)∧l.Nodup∧l.length=n∧EnvSub (nm l nx) f (v y++Lk)∧StoreSub (nm l nx) σ (s y++Sk)) Q) (look (v x++Lk)) (s x++Sk) n) :
    AWp P TB Γ N (.loop c) Q (look L0) σ nx:=AWp.loopL (fun x=>v x++Lk) (fun x=>s x++Sk) n μ x l0 hl0 h0 round
end
inductive FZ (σ:Store):C→D→Prop
  | d {x:D}:FZ σ (.d x) x
  | fn {g:FuncId}:FZ σ (.fn g []) (.v (.func (.func g) #[] #[]))
  | arr {id k off len:Nat} {T:TypeId} {rows:List (List C)} {ds:List (List D)} {rs:Nat→List C} {cs:Nat→Nat→C}:look σ id=some (.cells T k rows)→off+len≤rows.length→ds.length=len→
      (∀i r',ds[i]? = some r'→rows[off+i]? = some (rs i)∧(rs i).length=r'.length)→(∀i j r' x,ds[i]? = some r'→r'[j]? = some x→(rs i)[j]? = some (cs i j))→
      (∀i j r' x,ds[i]? = some r'→r'[j]? = some x→FZ σ (cs i j) x)→FZ σ (.arr id k off len) (.l ds)
  | ptr {id k i j:Nat} {T:TypeId} {rows:List (List C)} {r:List C} {ds:List D} {cs:Nat→C}:look σ id=some (.cells T k rows)→rows[i]? = some r→(∀q x,ds[q]? = some x→r[j+q]? = some (cs q))→(∀q x,ds[q]? = some x→FZ σ (cs q) x)→FZ σ (.ptr id k i j) (.p ds)
  | sld {id:Nat} {T:TypeId} {l:List (Value×List Value)} {v:Value} {row:List Value}:look σ id=some (.sld T l)→(v,row)∈l→FZ σ (.d (.v v)) (.l (row.map fun x=>[.v x]))
  | nl {b:Option Addr}:FZ σ (.d (.v (.slice b 0 0))) (.l [])
inductive FZL (σ:Store):List C→List D→Prop
  | nil:FZL σ [] []
  | cons {c:C} {d:D} {cs:List C} {ds:List D}:FZ σ c d→FZL σ cs ds→FZL σ (c::cs) (d::ds)
theorem FZL.get {σ:Store} {cs:List C} {ds:List D} (h:FZL σ cs ds):cs.length=ds.length∧∀(j:Nat) x,ds[j]? = some x→∃c,cs[j]? = some c∧FZ σ c x:=by
  induction h with
  | nil=>exact ⟨rfl,fun j x h=>by simp at h⟩
  | @cons c d cs ds h1 _ ih=>
    refine ⟨by simp [ih.1],fun j x hj=>?_⟩
    cases j with
    | zero=>simp at hj;subst hj;exact ⟨c,rfl,h1⟩
    | succ j=>exact ih.2 j x (by simpa using hj)
theorem FZL.refl {σ:Store}:∀(ds:List D),FZL σ (ds.map .d) ds
  | []=>.nil
  | d::ds=>.cons .d (FZL.refl ds)
theorem FZ.rows {σ:Store} {id k len:Nat} {T:TypeId} {rows:List (List C)} {ds:List (List D)} (hl:look σ id=some (.cells T k rows)) (hn:ds.length=len) (hr:rows.length=len) (h:∀(i:Nat) (r':List D),ds[i]? = some r'→∃r,rows[i]? = some r∧FZL σ r r'):FZ σ (.arr id k 0 len) (.l ds):=by
  refine .arr (rs:=fun i=>(rows[i]?).getD []) (cs:=fun i j=>(((rows[i]?).getD [])[j]?).getD (.d (.l []))) hl (by omega) hn (fun i r' hi=>?_) (fun i j r' x hi hj=>?_) (fun i j r' x hi hj=>?_)
  · obtain ⟨r,h1,h2⟩:=h i r' hi
    rw [Nat.zero_add,h1]
    exact ⟨rfl,h2.get.1⟩
  · obtain ⟨r,h1,h2⟩:=h i r' hi
    obtain ⟨c,h3,h4⟩:=h2.get.2 j x hj
    simp [h1,h3]
  · obtain ⟨r,h1,h2⟩:=h i r' hi
    obtain ⟨c,h3,h4⟩:=h2.get.2 j x hj
    simp [h1,h3,h4]
theorem FZ.full {σ:Store} {id k len:Nat} {T:TypeId} {rows:List (List C)} {ds:List (List D)} (hl:look σ id=some (.cells T k rows)) (hr:rows=ds.map (fun r=>r.map .d)) (hn:rows.length=len):FZ σ (.arr id k 0 len) (.l ds):=by
  refine .rows hl (by rw [←hn,hr];simp) hn fun i r' hi=>⟨r'.map .d,?_,FZL.refl _⟩
  rw [hr];simp [hi]
theorem FZ.box {σ:Store} {id k:Nat} {T:TypeId} {r:List C} {ds:List D} (hl:look σ id=some (.cells T k [r])) (h:FZL σ r ds):FZ σ (.ptr id k 0 0) (.p ds):=by
  refine .ptr (cs:=fun q=>(r[q]?).getD (.d (.l []))) hl rfl (fun q x hq=>?_) (fun q x hq=>?_)
  · obtain ⟨c,h3,h4⟩:=h.get.2 q x hq
    rw [Nat.zero_add,h3];rfl
  · obtain ⟨c,h3,h4⟩:=h.get.2 q x hq
    simp [h3,h4]
inductive EZ (σ:Store):E→E→Prop
  | keep {e:E}:e.pur=true→EZ σ e e
  | o {c:C} {d:D}:FZ σ c d→EZ σ (.o c) (.o (.d d))
  | a {cs:List C} {ds:List D}:FZL σ cs ds→EZ σ (.a cs) (.a (ds.map .d))
def EnvZ (σ:Store) (f:Env):List (Nat×E)→Prop
  | []=>True
  | (t,e')::L=>(∃e,f t=some e∧EZ σ e e')∧EnvZ σ f L
theorem EnvZ.get {σ:Store} {f:Env}:∀ {L:List (Nat×E)},EnvZ σ f L→∀t e',look L t=some e'→∃e,f t=some e∧EZ σ e e'
  | [],_,t,e,h=>by cases h
  | (k,x)::L,hs,t,e,h=>by
    rw [look_cons] at h
    by_cases hk:k=t
    · rw [if_pos hk] at h;injection h with h;subst h;subst hk;exact hs.1
    · rw [if_neg hk] at h;exact EnvZ.get hs.2 t e h
def allV (V:View) (σ:Store):View:={ V with I:=fun b=>V.I b∨∃id o,look σ id=some o∧¬V.nl id∧blk V id o b }
theorem all_ext {V:View} {σ:Store}:Ext V (allV V σ):=⟨fun _ h=>.inl h,fun _ _=>rfl,Nat.le_refl _,fun _ _=>rfl,fun _ _=>rfl,fun _ _=>Iff.rfl,Nat.le_refl _⟩
section
variable {P:Program} {TB:Amb} {Γ:Ctx} {N:Nat} {σ:Store}
theorem SlotR.data {I:Nat→Prop} {w:World} {T:TypeId} {v:Value} {row:List Value} (h:SlotR w T v row) (hI:∀b,blkV v b→I b):DRel I w (.l (row.map fun x=>[.v x])) v:=by
  rcases h with ⟨rfl,rfl⟩|⟨b,cap,cur,rfl,h2,h3,h4,h5,h6⟩
  · exact .nil
  · have hn:row.length=(row.map fun x=>[D.v x]).length:=by simp
    have hg:∀(i:Nat) (r:List D) (j:Nat) (d:D),(row.map fun x=>[D.v x])[i]? = some r→r[j]? = some d→j=0∧∃x,row[i]? = some x∧d=.v x:=fun i r j d hi hj=>by
      simp only [List.getElem?_map,Option.map_eq_some_iff] at hi
      obtain ⟨x,hx,rfl⟩:=hi
      have hj0:j=0:=by have:=(List.getElem?_eq_some_iff.1 hj).1;simp at this;omega
      subst hj0
      simp at hj
      exact ⟨rfl,x,hx,hj.symm⟩
    rw [hn]
    refine .l (k:=1) (vs:=fun i _=>(row[i]?).getD undef) (hI b ⟨_,_,_,rfl⟩) (by simpa using h4) h5 (fun i r hi=>?_) (fun i r j d hi hj=>?_) (fun i r j d hi hj=>?_)
    · simp only [List.getElem?_map,Option.map_eq_some_iff] at hi
      obtain ⟨x,hx,rfl⟩:=hi;rfl
    · obtain ⟨rfl,x,hx,rfl⟩:=hg i r j d hi hj
      simp [World.cell?,h2,hx,(h6 i x hx).1]
    · obtain ⟨rfl,x,hx,rfl⟩:=hg i r j d hi hj
      simp only [hx,Option.getD_some]
      exact .v (h6 i x hx).2
theorem FZ.rel {V:View} (hi:Inv TB Γ V σ) {c:C} {d:D} (h:FZ σ c d):∀ {v:Value},CRel V c v→DRel (allV V σ).I V.w d v:=by
  induction h with
  | d=>intro v hc;cases hc with|d h=>exact h.ext (V:=V) (V':=allV V σ) all_ext
  | @sld id T l v row hl hm=>
    intro v' hc
    have hv:v'=v:=CRel.val hc
    subst hv
    have h1:=hi.st.obj id _ hl
    exact (h1.2.2 _ hm).data fun b hb=>.inr ⟨id,_,hl,h1.1,⟨_,hm,hb⟩⟩
  | @nl b=>
    intro v' hc
    have hv:v'=_:=CRel.val hc
    subst hv
    cases b
    · exact .nil
    · exact .e (Nat.zero_le _)
  | fn =>
    intro v hc
    cases hc with
    | @fn f cap vs h1 _=>
      have:vs = #[]:=Array.eq_empty_of_size_eq_zero (by simpa using h1)
      subst this
      exact .v rfl
  | @arr id k off len T rows ds rs cs hl hle hn h1 h2 _ ih=>
    intro v hc
    cases hc with
    | nil h3 h4=>
      have:ds=[]:=List.length_eq_zero_iff.1 hn
      subst this
      exact .nil
    | arr h3 hnl h4=>
      rcases hi.st.obj id _ hl with ⟨h5,_⟩|⟨_,cur,h5,h6,h7,h8,h9,h10⟩
      · exact absurd h5 hnl
      · have hcell:∀(i:Nat) (r:List D) (j:Nat) (x:D),ds[i]? = some r→r[j]? = some x→∃v,cur[(off+i)*k+j]? = some v∧DRel (allV V σ).I V.w x v:=fun i r j x hi' hj=>by
          obtain ⟨v,h11,h12⟩:=h10 (off+i) (rs i) j (cs i j) (h1 i r hi').1 (h2 i j r x hi' hj)
          exact ⟨v,h11,ih i j r x hi' hj h12⟩
        rw [←hn] at h4 ⊢
        refine .l (b:=V.ρ id) (o:=off*k) (k:=k) (vs:=fun i j=>cur.getD ((off+i)*k+j) undef) (.inr ⟨id,_,hl,hnl,rfl⟩) (by omega) (by omega) (fun i r hi'=>?_) (fun i r j x hi' hj=>?_) (fun i r j x hi' hj=>?_)
        · have h13:=h1 i r hi'
          rw [←h13.2]
          exact h9 _ (List.mem_of_getElem? h13.1)
        · obtain ⟨v,h11,_⟩:=hcell i r j x hi' hj
          have e:off*k+i*k+j=(off+i)*k+j:=by rw [Nat.add_mul]
          rw [e]
          simp [World.cell?,h5,h11]
        · obtain ⟨v,h11,h12⟩:=hcell i r j x hi' hj
          have:cur.getD ((off+i)*k+j) undef=v:=by simp [h11]
          simp only [this]
          exact h12
  | @ptr id k i j T rows r ds cs hl hri h1 _ ih=>
    intro v hc
    cases hc with
    | ptr h3 hnl=>
      rcases hi.st.obj id _ hl with ⟨h5,_⟩|⟨_,cur,h5,h6,h7,h8,h9,h10⟩
      · exact absurd h5 hnl
      · have hcell:∀(q:Nat) (x:D),ds[q]? = some x→∃v,cur[i*k+j+q]? = some v∧DRel (allV V σ).I V.w x v:=fun q x hq=>by
          obtain ⟨v,h11,h12⟩:=h10 i r (j+q) (cs q) hri (h1 q x hq)
          exact ⟨v,by rw [Nat.add_assoc];exact h11,ih q x hq h12⟩
        refine .p (b:=V.ρ id) (o:=i*k+j) (vs:=fun q=>cur.getD (i*k+j+q) undef) (.inr ⟨id,_,hl,hnl,rfl⟩) (fun q x hq=>?_) (fun q x hq=>?_)
        · obtain ⟨v,h11,_⟩:=hcell q x hq
          simp [World.cell?,h5,h11]
        · obtain ⟨v,h11,h12⟩:=hcell q x hq
          have:cur.getD (i*k+j+q) undef=v:=by simp [h11]
          simp only [this]
          exact h12
theorem EZ.rel {V:View} (hi:Inv TB Γ V σ) {e e':E} (h:EZ σ e e') {v:Value} (hv:ERel V e v):ERel (allV V σ) e' v:=by
  cases h with
  | keep=>exact hv.ext all_ext
  | o h=>exact CRel.d (V:=allV V σ) (h.rel hi hv)
  | @a cs ds h=>
    obtain ⟨vs,rfl,h1,h2⟩:=hv
    refine ⟨vs,rfl,by rw [h1,h.get.1];simp,fun j c v hj hv=>?_⟩
    simp only [List.getElem?_map,Option.map_eq_some_iff] at hj
    obtain ⟨x,hx,rfl⟩:=hj
    obtain ⟨c,h3,h4⟩:=h.get.2 j x hx
    exact CRel.d (V:=allV V σ) (h4.rel hi (h2 j c v h3 hv))
theorem AWp.settle {c:Code} {Q:Exit→Env→Store→Nat→Prop} {f:Env} {nx:Nat} (L:List (Nat×E)) (hE:EnvZ σ f L) (h:AWp P TB Γ N c Q (look L) [] nx):AWp P TB Γ N c Q f σ nx:=by
  intro V a hr
  refine h (allV V σ) a ⟨fun t x hx=>?_,fun t x hx=>?_,hr.size,?_,hr.nx,hr.defers⟩
  · obtain ⟨y,h1,h2⟩:=hE.get t x hx
    exact h2.rel hr.inv (hr.env t y h1)
  · obtain ⟨y,h1,_⟩:=hE.get t x hx
    exact hr.lt t y h1
  · have hi:=hr.inv
    refine ⟨hi.os,hi.tape,hi.output,hi.old,?_,?_,hi.ext.trans all_ext,store_none,fun id o ho=>(by cases ho),fun x hx=>⟨.inl (hi.tabs x hx).1,(hi.tabs x hx).2⟩,hi.hid.same rfl (fun _ h=>.inl h) (fun b hb=>hb.elim .inl fun ⟨id,o,hl,hn,he⟩=>.inr ⟨id,o,hl,hn,he⟩) fun b ⟨_,_,h,_⟩=>by cases h⟩
    · rintro b (hb|⟨id,o,hl,hn,hb⟩)
      · exact hi.iLt b hb
      · exact (hi.st.obj id o hl).blt hn hb
    · rintro b (hb|⟨id,o,hl,hn,hb⟩)
      · exact hi.iNew b hb
      · exact .inr (hi.live id o hl hn b hb)
theorem keepE_frz {ids:List Nat} {L0:List (Nat×E)}:∀ {ks:List Nat} {Lk:List (Nat×E)},keepE L0 ks=some Lk→EnvFrz σ ids (look L0) Lk
  | [],Lk,h=>by injection h with h;subst h;trivial
  | k :: ks,Lk,h=>by
    unfold keepE at h
    split at h
    · rename_i e l h1 h2
      injection h with h
      subst h
      exact ⟨⟨e,h1,.keep⟩,keepE_frz h2⟩
    · cases h
theorem EnvFrz.app {ids:List Nat} {f:Env}:∀ {L M:List (Nat×E)},EnvFrz σ ids f L→EnvFrz σ ids f M→EnvFrz σ ids f (L++M)
  | [],_,_,h=>h
  | _::_,_,h,h'=>⟨h.1,EnvFrz.app h.2 h'⟩
theorem AWp.freezeV {c:Code} {Q:Exit→Env→Store→Nat→Prop} {L0 Lk:List (Nat×E)} {nx:Nat} (ids ks:List Nat) (hk:keepE L0 ks=some Lk) (L:List (Nat×E)) (hE:EnvFrz σ ids (look L0) L) (h:AWp P TB Γ N c Q (look (L++Lk)) (killL ids σ) nx):AWp P TB Γ N c Q (look L0) σ nx:=
  AWp.freeze ids (L++Lk) (hE.app (keepE_frz hk)) h
section
variable {d:Option Tmp} {ty:TypeId} {pos:String} {af:Array Edge} {g:Option (Nat×Bool)} {f:Env} {nx:Nat}
theorem q_dropT {t:TypeId} {x lo:Operand} {s:List UInt8} {m:Int} {k:IntKind} [ht:HasStr P t] (hx:ev f x=some (eT s)) (hl:ev f lo=some (eI k m)) (h0:0≤m) (h1:m≤s.length):QOp P TB Γ ⟨d,.slice t x (some lo) none none,ty,pos,af,g⟩ f σ nx (eT (s.drop m.toNat)):=by
  have h:=q_partT (P:=P) (TB:=TB) (Γ:=Γ) (d:=d) (ty:=ty) (pos:=pos) (af:=af) (g:=g) (σ:=σ) (nx:=nx) (t:=t) (x:=x) (lo:=some lo) (hi:=none) (l:=some (k,m)) (h:=none) hx (by simp [bnd,hl]) rfl h0 h1 (Int.le_refl _)
  simpa [hiV,loV] using h
theorem q_takeT {t:TypeId} {x hi:Operand} {s:List UInt8} {m:Int} {k:IntKind} [ht:HasStr P t] (hx:ev f x=some (eT s)) (hl:ev f hi=some (eI k m)) (h0:0≤m) (h1:m≤s.length):QOp P TB Γ ⟨d,.slice t x none (some hi) none,ty,pos,af,g⟩ f σ nx (eT (s.take m.toNat)):=by
  have h:=q_partT (P:=P) (TB:=TB) (Γ:=Γ) (d:=d) (ty:=ty) (pos:=pos) (af:=af) (g:=g) (σ:=σ) (nx:=nx) (t:=t) (x:=x) (lo:=none) (hi:=some hi) (l:=none) (h:=some (k,m)) hx rfl (by simp [bnd,hl]) (Int.le_refl _) h0 h1
  simpa [hiV,loV] using h
theorem q_dropL {t e:TypeId} {b n:Nat} {x lo:Operand} {rows:List (List D)} {m:Int} {k:IntKind} [hsl:HasSl P t e n b] (hx:ev f x=some (.o (.d (.l rows)))) (hl:ev f lo=some (eI k m)) (hn:∀r∈rows,r.length=n) (h0:0≤m) (h1:m≤rows.length):QOp P TB Γ ⟨d,.slice t x (some lo) none none,ty,pos,af,g⟩ f σ nx (.o (.d (.l (rows.drop m.toNat)))):=by
  have h:=q_partL (P:=P) (TB:=TB) (Γ:=Γ) (d:=d) (ty:=ty) (pos:=pos) (af:=af) (g:=g) (σ:=σ) (nx:=nx) (t:=t) (x:=x) (lo:=some lo) (hi:=none) (l:=some (k,m)) (h:=none) hx (by simp [bnd,hl]) rfl hn h0 h1 (Int.le_refl _)
  simpa [hiV,loV] using h
theorem q_takeL {t e:TypeId} {b n:Nat} {x hi:Operand} {rows:List (List D)} {m:Int} {k:IntKind} [hsl:HasSl P t e n b] (hx:ev f x=some (.o (.d (.l rows)))) (hl:ev f hi=some (eI k m)) (hn:∀r∈rows,r.length=n) (h0:0≤m) (h1:m≤rows.length):QOp P TB Γ ⟨d,.slice t x none (some hi) none,ty,pos,af,g⟩ f σ nx (.o (.d (.l (rows.take m.toNat)))):=by
  have h:=q_partL (P:=P) (TB:=TB) (Γ:=Γ) (d:=d) (ty:=ty) (pos:=pos) (af:=af) (g:=g) (σ:=σ) (nx:=nx) (t:=t) (x:=x) (lo:=none) (hi:=some hi) (l:=none) (h:=some (k,m)) hx rfl (by simp [bnd,hl]) hn (Int.le_refl _) h0 h1
  simpa [hiV,loV] using h
end
end
end Go.Am
namespace Go.Am
open Go Go.Proofs
end Go.Am
namespace Go.Am
open Go Go.Proofs
set_option maxHeartbeats 1000000
attribute [local irreducible] QOp AOp Lex LexO AWp Spec
variable {TB:Amb}
end Go.Am
namespace Go.Am
open Go
section
variable {P:Program} {TB:Amb} {Γ:Ctx} {d:Option Tmp} {ty:TypeId} {pos:String} {af:Array Edge} {g:Option (Nat×Bool)} {f:Env} {σ:Store} {nx:Nat}
variable {K:E→Store→Nat→Prop}
theorem n_buildN2 {t:TypeId} {z:List Value} {fl:List (Nat×Nat)} {parts:Array (Nat×Operand)} {es:List E} {qs:List (Nat×List C)} [hz:HasZe P t z] [hf:HasFl P t fl] (p k e q k' e':Nat) (hp:z[p]? = some (.slice none 0 0)) (hp':z[q]? = some (.slice none 0 0)) (hpq:p≠q) (hes:evs f (parts.toList.map (·.2))=some es) (hq:offParts fl parts.toList es=some qs)
    (hok:z.all zOk=true) (hle:(qs.all fun x=>Nat.ble (x.1+x.2.length) z.length)=true) (hK:K (.a (fillC qs (((z.map zC).set p (.arr nx k 0 0)).set q (.arr (nx+1) k' 0 0)))) ((nx+1,.cells e' k' [])::(nx,.cells e k [])::σ) (nx+2)):AOp P TB Γ ⟨d,.build t parts,ty,pos,af,g⟩ f σ nx K:=
  n_of_run fun V ρ h1 h2 h3=>by
    subst h3
    obtain ⟨i,zv,hi,hzv,hzz⟩:=ze_inv hz.out
    obtain ⟨hi1,he1⟩:=h2.alloc (c:=0) (nl:=True) (w:=V.w) (ob:=.cells e k []) rfl rfl rfl rfl (Nat.le_refl _) (fun _ _=>rfl) (.inl ⟨by simp [newV],rfl⟩)
    obtain ⟨hi2,he2⟩:=hi1.alloc (c:=0) (nl:=True) (w:=V.w) (ob:=.cells e' k' []) rfl rfl rfl rfl (Nat.le_refl _) (fun _ _=>rfl) (.inl ⟨by simp [newV],rfl⟩)
    have he3:=he1.trans he2
    have hfo:=offParts_fill (V:=newV (newV V V.w.heap.size 0 True V.w) V.w.heap.size 0 True V.w) (ρ:=ρ) parts.toList es qs (fun x hx e he=>(h1.get (by simp only [Op.operands];simpa using hx) he).ext he3) hes hq
    have hzr:LRel (newV (newV V V.w.heap.size 0 True V.w) V.w.heap.size 0 True V.w) (((z.map zC).set p (.arr V.nx k 0 0)).set q (.arr (V.nx+1) k' 0 0)) zv.cells:=by
      refine ⟨by rw [List.length_set,List.length_set,List.length_map,←hzz];simp,fun j c v hj hv=>?_⟩
      have hzj:z[j]? = some v:=by rw [←hzz,Array.getElem?_toList];exact hv
      by_cases hjq:q=j
      · subst hjq
        rw [hp'] at hzj
        injection hzj with hzj
        subst hzj
        rw [List.getElem?_set_self (by rw [List.length_set,List.length_map];exact (List.getElem?_eq_some_iff.1 hp').1)] at hj
        injection hj with hj
        subst hj
        exact CRel.nil (by simp [newV]) (by simp [newV])
      · rw [List.getElem?_set_ne hjq] at hj
        by_cases hjp:p=j
        · subst hjp
          rw [hp] at hzj
          injection hzj with hzj
          subst hzj
          rw [List.getElem?_set_self (by rw [List.length_map];exact (List.getElem?_eq_some_iff.1 hp).1)] at hj
          injection hj with hj
          subst hj
          exact CRel.nil (by simp [newV];omega) (by simp [newV])
        · rw [List.getElem?_set_ne hjp,List.getElem?_map,hzj] at hj
          injection hj with hj
          subst hj
          exact zC_rel (List.all_eq_true.1 hok v (List.mem_of_getElem? hzj))
    obtain ⟨cells,h4,h5⟩:=fill_rel _ _ _ _ hfo hzr (fun x hx=>by rw [List.length_set,List.length_set,List.length_map];exact fillC_ok _ _ hle x hx)
    have hb:=run_build (P:=P) (ρ:=ρ) (parts:=parts) (V:=V) hi hzv hf.out h4
    refine ⟨.agg cells,_,_,_,?_,he3,hi2,(show ERel _ (.a _) _ from ⟨cells,rfl,h5⟩),hK⟩
    show ((do let v ←Instr.build t (parts.map fun (i,x)=>(i,ρ x));pure (Go.Next.value v):Sem Go.Next)).run P V.w=_
    simp only [Sem.run_bind,hb,Result.andThen_ok]
    rfl
end
end Go.Am
namespace Go.Am
open Go Go.Proofs
set_option maxHeartbeats 1000000
attribute [local irreducible] QOp AOp Lex LexO AWp Spec
variable {TB:Amb}
theorem letterAt_ok (w:W) (i:Nat) (c:UInt8) (hc:w[((i:Nat):Int).toNat]? = some c) (hl:0≤(c.toNat:Int) - 97∧(c.toNat:Int) - 97 < 6):Pure Tryz.prog TB 69 [eT w,eI .i64 i] (eI .i64 ((c.toNat:Int) - 97)):=by
  refine eN Tryz.func69 rfl (by kernel_rfl) rfl ?_;intro Γ hΓ
  (repeat' first|refine sN rfl ?_|((first|refine sA rfl ?_ ?_|refine s4 rfl ‹_› rfl ?_ ?_);first|exact tI|omega|simp only[oZ] at *;omega)|refine s2 rfl fun _ _hb=>?_|refine s3 rfl ?_ ?_<;>rintro rfl|refine aU rfl ?_|refine lexE ?_|refine rE (by kernel_rfl) ?_|(refine aC rfl ?_ ?_<;>rintro ⟨⟩)|refine aK ?_|refine aE ?_|refine aB ?_|refine AWp.ret ⟨_,rfl,?_⟩)
  all_goals first
    | rfl
    | (exfalso;grind)
abbrev teRow (kn:Bool) (p:Aut) (s:Sys) (q:Aut) (al:Int):List D:=[bD kn,iD p.al,iiList p.nx,bList p.ac,iD s.al,iD s.st,edList s.es,iD q.al,iiList q.nx,bList q.ac,iD al]
theorem on_take {ls:List UInt8} {w:W} (h:wordOn ls w) (k:Nat):wordOn ls (w.take k):=fun c hc=>h c (List.mem_of_mem_take hc)
theorem runA_step {p:Aut} {w:W} {k:Nat} {c:UInt8} (hc:w[k]? = some c) (q:Int):runA p q (w.take (k+1))=goA p (runA p q (w.take k)).toNat ((c.toNat:Int) - 97):=by
  rw [List.take_add_one,hc,runA_app];rfl
theorem ask1_ok {p:Aut} (hp:autOk p=true) (s:Sys) (q:Aut) (al:Int) (kn:Bool) (w:W) (hw:wordOn (lsB p.al) w) (hl:w.length≤1048576) :
    Pure Tryz.prog TB 90 [eT w,.o (.ip [.l (tblD p)]),.o (.ip (teRow kn p s q al))] (eB (LA p w)):=by
  have hph:=autOk_head hp
  refine eN Tryz.func90 rfl (by kernel_rfl) rfl ?_;intro Γ hΓ
  (repeat first|refine sN rfl ?_|((first|refine sA rfl ?_ ?_|refine s4 rfl ‹_› rfl ?_ ?_);first|exact tI|omega|simp only[oZ] at *;omega)|refine s2 rfl fun _ _hb=>?_|refine s3 rfl ?_ ?_<;>rintro rfl|refine aU rfl ?_|refine lexE ?_)
  refine AWp.block ?_
  refine AWp.loopV (α:={k:Nat // k≤w.length}) [0,1,2,8] [] rfl rfl (fun ⟨k,hk⟩=>[(5,eI .i64 (runA p 0 (w.take k))),(9,eI .i64 k)]) (fun ⟨k,hk⟩=>[]) 0 (fun ⟨k,hk⟩=>w.length - k) (⟨0,by omega⟩) (List.range 0) (rg hΓ rfl) (by (repeat' first|exact tI|rfl|refine And.intro ?_ ?_)<;>(simp[cX,zC,hΓ]<;>rfl)) ?_;rintro ⟨k,hk⟩;(try dsimp only[List.cons_append,List.nil_append])
  have hr:=runA_in hp (w.take k) 0 (on_take hw k) (by omega)
  by_cases hlt:k < w.length
  · obtain ⟨c,hc⟩:=get_some hlt
    have hc':w[((k:Nat):Int).toNat]? = some c:=by simpa using hc
    have hcl:=lsB_num (hw c (List.mem_of_getElem? hc))
    have hla:=letterAt_ok (TB:=TB) w k c hc' hcl
    have ta:=tbl_get (a:=p) (q:=(runA p 0 (w.take k)).toNat) (by omega)
    have el:((((c.toNat:Int) - 97).toNat:Nat):Int)=(c.toNat:Int) - 97:=by omega
    have ra:=rowD_get (h:=fun l=>goA p (runA p 0 (w.take k)).toNat l) hcl.1 (by omega)
    simp only [el] at ra
    have hst:=runA_step (p:=p) hc 0
    (repeat first|refine sN rfl ?_|((first|refine sA rfl ?_ ?_|refine s4 rfl ‹_› rfl ?_ ?_);first|exact tI|omega|simp only[oZ] at *;omega)|refine s2 rfl fun _ _hb=>?_|refine s3 rfl ?_ ?_<;>rintro rfl|refine aU rfl ?_|refine lexE ?_)
    (refine aC rfl ?_ ?_<;>rintro ⟨⟩)
    · (repeat' first|refine sN rfl ?_|((first|refine sA rfl ?_ ?_|refine s4 rfl ‹_› rfl ?_ ?_);first|exact tI|omega|simp only[oZ] at *;omega)|refine s2 rfl fun _ _hb=>?_ |refine sP rfl (hla) rfl ?_|(refine popO rfl ?_;refine gA rfl ?_;first|refine gS (fun _ _=>q_loadIp0 rfl ra) ?_)|refine s3 rfl ?_ ?_<;>rintro rfl|refine aU rfl ?_|refine lexE ?_|refine rE (by kernel_rfl) ?_|(refine aC rfl ?_ ?_<;>rintro ⟨⟩)|refine aK ?_|refine aE ?_|refine aB ?_|refine AWp.ret ⟨_,rfl,?_⟩)
      refine ⟨⟨k+1,by first|omega|simp only[oZ] at *;omega⟩,by dsimp only;(first|omega|simp only[oZ] at *;omega),[],?_⟩
      simp[cX,zC,hΓ,hst]
    · exfalso;first|omega|simp only[oZ] at *;omega
  · obtain rfl:k=w.length:=by omega
    rw [List.take_length] at *
    obtain ⟨b,hb⟩:=get_some (l:=p.ac) (k:=(runA p 0 w).toNat) (by omega)
    have hb':(p.ac.map bRow)[(runA p 0 w).toNat]? = some (bRow b):=by simp [hb]
    have hbl:LA p w=b:=by unfold LA;simp [List.getD,hb]
    rw [hbl]
    (repeat first|refine sN rfl ?_|((first|refine sA rfl ?_ ?_|refine s4 rfl ‹_› rfl ?_ ?_);first|exact tI|omega|simp only[oZ] at *;omega)|refine s2 rfl fun _ _hb=>?_|refine s3 rfl ?_ ?_<;>rintro rfl|refine aU rfl ?_|refine lexE ?_)
    (refine aC rfl ?_ ?_<;>rintro ⟨⟩)
    · exfalso;first|omega|simp only[oZ] at *;omega
    · (repeat' first|refine sN rfl ?_|((first|refine sA rfl ?_ ?_|refine s4 rfl ‹_› rfl ?_ ?_);first|exact tI|omega|simp only[oZ] at *;omega)|refine s2 rfl fun _ _hb=>?_|refine s3 rfl ?_ ?_<;>rintro rfl|refine aU rfl ?_|refine lexE ?_|refine rE (by kernel_rfl) ?_|(refine aC rfl ?_ ?_<;>rintro ⟨⟩)|refine aK ?_|refine aE ?_|refine aB ?_|refine AWp.ret ⟨_,rfl,?_⟩)
      rfl
end Go.Am
namespace Go.Am
open Go
set_option linter.unusedVariables false
def xE1:Bool×List C→Option E
  | (false,[c])=>some (.o c)
  | (true,cs)=>some (.a cs)
  | _=>none
def cellO (f:Env) (σ:Store) (t:Tmp) (ag:Bool) (n:Nat):Option (Bool×List C):=match f t with
  | some (.o (.d (.p cs)))=>match Nat.ble n cs.length with
    | true=>some (ag,(cs.take n).map .d)
    | false=>none
  | some (.o (.ptr id k i j))=>match look σ id with
    | some (.cells _ k' rows)=>match Nat.beq k k',nth rows i with
      | true,some r=>match Nat.ble (j+n) r.length with
        | true=>some (ag,(r.drop j).take n)
        | false=>none
      | _,_=>none
    | _=>none
  | _=>none
def resC (T:List (Nat×TI)) (f:Env) (σ:Store):ResultVar→Option (Bool×List C)
  | .tmp t=>match f t with
    | some e=>oneT e
    | none=>none
  | .cell t T'=>match (tyi T T').ld with
    | some (true,n)=>cellO f σ t true n
    | some (false,1)=>cellO f σ t false 1
    | _=>none
def resL (T:List (Nat×TI)) (f:Env) (σ:Store):List ResultVar→Option (List (Bool×List C))
  | []=>some []
  | r::rs=>match resC T f σ r,resL T f σ rs with
    | some x,some xs=>some (x::xs)
    | _,_=>none
def resG (T:List (Nat×TI)) (rs:Array ResultVar) (f:Env) (σ:Store):Option E:=match rs.toList with
  | []=>some (.t [])
  | [r]=>match resC T f σ r with
    | some x=>xE1 x
    | none=>none
  | rs=>match rs.length,resL T f σ rs with
    | 2,some xs=>some (.t xs)
    | 3,some xs=>some (.t xs)
    | 4,some xs=>some (.t xs)
    | _,_=>none
def RetQG (T:List (Nat×TI)) (rs:Array ResultVar) (post:E→Store→Nat→Prop):Exit→Env→Store→Nat→Prop
  | .ret,f,σ,nx|.normal,f,σ,nx=>∃x,resG T rs f σ=some x∧post x σ nx
  | _,_,_,_=>False
section
variable {P:Program} {TB:Amb} {Γ:Ctx} {σ:Store}
theorem cellO_run {V:View} {f:Env} {a:Act} {t:Tmp} {T':TypeId} {ag:Bool} {n:Nat} {x:Bool×List C} (hi:Inv TB Γ V σ) (hl:HasLd P T' ag n) (h1n:ag=false→n=1) (hE:EnvRel V f a.tmps) (h:cellO f σ t ag n=some x) :
    ∃v,((do loadVar T' (←asAddr (a.tmps.getD t undef))):Sem Value).run P V.w=.ok v V.w∧TRel V x v:=by
  have key : ∃ (b o:Nat) (cs:List C) (vs:Nat→Value),a.tmps.getD t undef=.pointer (some ⟨b,o,none⟩)∧x=(ag,cs)∧cs.length=n∧∀(q:Nat) (c:C),cs[q]? = some c→V.w.cell? ⟨b,o+q,none⟩=some (vs q)∧CRel V c (vs q):=by
    unfold cellO at h
    split at h
    · rename_i ds hf
      split at h
      · rename_i hn
        have hn:=Nat.le_of_ble_eq_true hn
        injection h with h
        subst h
        have h3:CRel V (.d (.p ds)) (a.tmps.getD t undef):=hE t _ hf
        generalize a.tmps.getD t undef=v0 at h3
        obtain ⟨h3⟩:=h3
        cases h3 with
        | @p _ b o vs hb h1 h2=>
          refine ⟨b,o,_,vs,rfl,rfl,by simp;omega,fun q c hq=>?_⟩
          rw [List.getElem?_map,Option.map_eq_some_iff] at hq
          obtain ⟨dd,hd,rfl⟩:=hq
          rw [List.getElem?_take] at hd
          split at hd
          · exact ⟨h1 q dd hd,.d (h2 q dd hd)⟩
          · cases hd
      · cases h
    · rename_i id k i j hf
      split at h
      · rename_i T0 k' rows ho
        split at h
        · rename_i r hk hr
          have hk:=Nat.eq_of_beq_eq_true hk
          subst hk
          split at h
          · rename_i hn
            have hn:=Nat.le_of_ble_eq_true hn
            injection h with h
            subst h
            rw [nth_get] at hr
            have h3:CRel V (.ptr id k i j) (a.tmps.getD t undef):=hE t _ hf
            generalize a.tmps.getD t undef=v0 at h3
            cases h3 with
            | ptr hid hnl=>
              rcases hi.st.obj id _ ho with ⟨h4,_⟩|⟨_,cur,h4,h5,h6,h7,h8,h9⟩
              · exact absurd h4 hnl
              · refine ⟨V.ρ id,i*k+j,_,fun q=>cur.getD (i*k+j+q) undef,rfl,rfl,by simp;omega,fun q c hq=>?_⟩
                rw [List.getElem?_take] at hq
                split at hq
                · rw [List.getElem?_drop] at hq
                  obtain ⟨v,h10,h11⟩:=h9 i r (j+q) c hr hq
                  rw [←Nat.add_assoc] at h10
                  have e:cur.getD (i*k+j+q) undef=v:=by simp [h10]
                  dsimp only
                  rw [e]
                  exact ⟨by simp [World.cell?,h4,h10],h11⟩
                · cases hq
          · cases h
        · cases h
      · cases h
    · cases h
  obtain ⟨b,o,cs,vs,hv,rfl,hlen,hc⟩:=key
  rw [hv]
  cases ag with
  | false=>
    have hn1:=h1n rfl
    subst hn1
    match cs,hlen with
    | [c],_=>
      obtain ⟨h1,h2⟩:=hc 0 c rfl
      refine ⟨vs 0,?_,c,rfl,h2⟩
      rw [Nat.add_zero] at h1
      simp [asAddr,loadVar,(run_isAgg hl.out V.w).1,h1,go_sem]
  | true =>
    refine ⟨.agg ((List.range n).map fun q=>vs q).toArray,?_,_,rfl,by simp [hlen],fun j c v hj hvv=>?_⟩
    · have:(loadCells ⟨b,o,none⟩ n).run P V.w=.ok ((List.range n).map fun q=>vs q).toArray V.w:=run_loadCells V.w _ n _ fun q hq=>by
        rw [addr_add]
        exact (hc q cs[q] (List.getElem?_eq_getElem (by omega))).1
      unfold loadCells at this
      simp [asAddr,loadVar,(run_isAgg hl.out V.w).1,(run_isAgg hl.out V.w).2,this,go_sem]
    · have hq:j < n:=by have:=(List.getElem?_eq_some_iff.1 hj).1;omega
      have:v=vs j:=by simpa [hq] using hvv.symm
      subst this
      exact (hc j c hj).2
theorem resC_run [hT:HasT P] {V:View} {f:Env} {a:Act} {r:ResultVar} {x:Bool×List C} (hi:Inv TB Γ V σ) (hE:EnvRel V f a.tmps) (h:resC hT.T f σ r=some x) :
    ∃v,((match r with
      | .tmp t=>pure (a.tmps.getD t undef)
      | .cell b t=>do loadVar t (←asAddr (a.tmps.getD b undef))):Sem Value).run P V.w=.ok v V.w∧TRel V x v:=by
  have hty:=fun t=>tyi_ok (P:=P) t hT.ok
  unfold resC at h
  split at h
  · rename_i t
    split at h
    · rename_i e he
      exact ⟨_,by simp [go_sem],oneT_rel h (hE t e he)⟩
    · cases h
  · rename_i t T'
    split at h
    · rename_i n hl
      exact cellO_run hi ((hty T').hasLd hl) (fun h=>(by cases h)) hE h
    · rename_i hl
      exact cellO_run hi ((hty T').hasLd hl) (fun _=>rfl) hE h
    · cases h
theorem xE1_rel {V:View} {x:Bool×List C} {e:E} {v:Value} (h:xE1 x=some e) (hr:TRel V x v):ERel V e v:=by
  unfold xE1 at h
  split at h
  · injection h with h;subst h
    obtain ⟨c,h1,h2⟩:=hr
    simp at h1;subst h1;exact h2
  · injection h with h;subst h;exact hr
  · cases h
theorem resG_run [hT:HasT P] {fn:Func} {V:View} {f:Env} {a:Act} {x:E} (hi:Inv TB Γ V σ) (hE:EnvRel V f a.tmps) (h:resG hT.T fn.results f σ=some x):∃v,(results fn a.tmps).run P V.w=.ok v V.w∧ERel V x v:=by
  obtain ⟨F,hF,hFr⟩:∃F:ResultVar→Sem Value,results fn a.tmps=(do let vs ←fn.results.mapM F;pure (if h:vs.size=1 then vs[0] else .tuple vs))∧∀r x,resC hT.T f σ r=some x→∃v,(F r).run P V.w=.ok v V.w∧TRel V x v:=
    ⟨fun r=>match r with
      | .tmp t=>pure (a.tmps.getD t undef)
      | .cell b t=>do loadVar t (←asAddr (a.tmps.getD b undef)),rfl,fun r x hr=>resC_run hi hE hr⟩
  have two:∀ {r:ResultVar} {rs:List ResultVar} {xs:List (Bool×List C)},resL hT.T f σ (r::rs)=some xs→∃y ys,xs=y::ys∧resC hT.T f σ r=some y∧resL hT.T f σ rs=some ys:=by
    intro r rs xs h
    unfold resL at h
    split at h
    · rename_i y ys h1 h2
      injection h with h;subst h;exact ⟨y,ys,rfl,h1,h2⟩
    · cases h
  have nil:∀ {xs:List (Bool×List C)},resL hT.T f σ []=some xs→xs=[]:=fun h=>by injection h with h;exact h.symm
  have key:∀l:List ResultVar,fn.results=l.toArray→resG hT.T l.toArray f σ=some x→∃v,(results fn a.tmps).run P V.w=.ok v V.w∧ERel V x v:=by
    intro l hll h
    rw [hF,hll]
    unfold resG at h
    simp only at h
    match l with
    | []=>
      injection h with h;subst h
      exact ⟨.tuple #[],by simp [go_sem],#[],rfl,rfl,fun j x v hj=>by simp at hj⟩
    | [r]=>
      simp only at h
      split at h
      · rename_i y hy
        obtain ⟨v,h1,h2⟩:=hFr r y hy
        exact ⟨v,by simp [h1,go_sem],xE1_rel h h2⟩
      · cases h
    | [r1,r2]=>
      simp only [List.length_cons,List.length_nil] at h
      split at h
      · rename_i xs _ hx
        injection h with h;subst h
        obtain ⟨y1,ys,rfl,h1,hx⟩:=two hx
        obtain ⟨y2,ys,rfl,h2,hx⟩:=two hx
        have:=nil hx;subst this
        obtain ⟨v1,e1,t1⟩:=hFr _ _ h1
        obtain ⟨v2,e2,t2⟩:=hFr _ _ h2
        refine ⟨.tuple #[v1,v2],by simp [e1,e2,go_sem],_,rfl,rfl,fun j x v' hj hv=>?_⟩
        match j with
        | 0=>simp at hj hv;subst hj;subst hv;exact t1
        | 1=>simp at hj hv;subst hj;subst hv;exact t2
        | j+2=>simp at hj
      · omega
      · omega
      · cases h
    | [r1,r2,r3]=>
      simp only [List.length_cons,List.length_nil] at h
      split at h
      · omega
      · rename_i xs _ hx
        injection h with h;subst h
        obtain ⟨y1,ys,rfl,h1,hx⟩:=two hx
        obtain ⟨y2,ys,rfl,h2,hx⟩:=two hx
        obtain ⟨y3,ys,rfl,h3,hx⟩:=two hx
        have:=nil hx;subst this
        obtain ⟨v1,e1,t1⟩:=hFr _ _ h1
        obtain ⟨v2,e2,t2⟩:=hFr _ _ h2
        obtain ⟨v3,e3,t3⟩:=hFr _ _ h3
        refine ⟨.tuple #[v1,v2,v3],by simp [e1,e2,e3,go_sem],_,rfl,rfl,fun j x v' hj hv=>?_⟩
        match j with
        | 0=>simp at hj hv;subst hj;subst hv;exact t1
        | 1=>simp at hj hv;subst hj;subst hv;exact t2
        | 2=>simp at hj hv;subst hj;subst hv;exact t3
        | j+3=>simp at hj
      · omega
      · cases h
    | [r1,r2,r3,r4]=>
      simp only [List.length_cons,List.length_nil] at h
      split at h
      · omega
      · omega
      · rename_i xs _ hx
        injection h with h;subst h
        obtain ⟨y1,ys,rfl,h1,hx⟩:=two hx
        obtain ⟨y2,ys,rfl,h2,hx⟩:=two hx
        obtain ⟨y3,ys,rfl,h3,hx⟩:=two hx
        obtain ⟨y4,ys,rfl,h4,hx⟩:=two hx
        have:=nil hx;subst this
        obtain ⟨v1,e1,t1⟩:=hFr _ _ h1
        obtain ⟨v2,e2,t2⟩:=hFr _ _ h2
        obtain ⟨v3,e3,t3⟩:=hFr _ _ h3
        obtain ⟨v4,e4,t4⟩:=hFr _ _ h4
        refine ⟨.tuple #[v1,v2,v3,v4],by simp [e1,e2,e3,e4,go_sem],_,rfl,rfl,fun j x v' hj hv=>?_⟩
        match j with
        | 0=>simp at hj hv;subst hj;subst hv;exact t1
        | 1=>simp at hj hv;subst hj;subst hv;exact t2
        | 2=>simp at hj hv;subst hj;subst hv;exact t3
        | 3=>simp at hj hv;subst hj;subst hv;exact t4
        | j+4=>simp at hj
      · cases h
    | _::_::_::_::_::_=>
      simp only [List.length_cons] at h
      cases h
  exact key fn.results.toList (by simp) (by simpa using h)
theorem SpecK.ofG [hT:HasT P] {g:FuncId} {fn:Func} {c:Code} {m:Nat} {σ:Store} {nx:Nat} {args:List E} {post:E→Store→Nat→Prop} (hm:m≤nx) (hf:P.funcs[g]? = some fn) (hb:fn.body=some c) (hname:(fn.name == "runtime.NumGoroutine")=false)
    (hargs:args.length≤fn.ntmps) (h:∀Γ:Ctx,Γ.V.nx=m→AWp P TB Γ fn.ntmps c (RetQG hT.T fn.results post) (look (argsFrom 0 args)) σ nx):SpecK P TB g m σ nx args post:=by
  refine ⟨⟨fn,hf,hname,by rw [hb];rfl⟩,?_⟩
  intro V vs S hg ha
  refine calls_of_wp hf hb ?_
  have hs:vs.size≤fn.ntmps:=by rw [ha.1];exact hargs
  have hi:Inv TB (ctxB V (lowV V m) σ S) V σ:=
    ⟨rfl,rfl,rfl,fun _ _ _=>rfl,hg.iLt,fun _ h=>.inl h,low_ext (by rw [hg.nx];exact hm),hg.st,fun id o ho hnl b hb=>.inr (.inl ⟨id,o,ho,hnl,hb⟩),hg.tabs,⟨S,hg.hid,fun b hb=>.inl hb,fun b hb=>.inr (.inr hb)⟩⟩
  have hr:RelSt TB (ctxB V (lowV V m) σ S) fn.ntmps V (look (argsFrom 0 args)) σ nx { tmps:=vs++Array.replicate (fn.ntmps - vs.size) undef,defers:=[] } := by
    refine ⟨?_,?_,by simp;omega,hi,hg.nx,rfl⟩
    · intro t e he
      obtain ⟨_,h2⟩:=argsFrom_look args 0 t e he
      have h2:args[t]? = some e:=by simpa using h2
      have hlt:t < vs.size:=by rw [ha.1];exact (List.getElem?_eq_some_iff.1 h2).1
      have h3:=ha.2 t e vs[t] h2 (Array.getElem?_eq_getElem hlt)
      simpa [Array.getElem?_append_left hlt,hlt] using h3
    · intro t e he
      obtain ⟨_,h2⟩:=argsFrom_look args 0 t e he
      have h2:args[t]? = some e:=by simpa using h2
      have:=(List.getElem?_eq_some_iff.1 h2).1
      omega
  refine wp_mono (h (ctxB V (lowV V m) σ S) rfl V _ hr) ?_
  rintro e a' w' ⟨V',f',σ',rfl,hq,hr'⟩
  have fin:(∃x,resG hT.T fn.results f' σ'=some x∧post x σ' V'.nx)→a'.defers=[]∧∃v,(results fn a'.tmps).run P V'.w=.ok v V'.w∧∃V'' v' x σ'',Ending.returned v=.returned v'∧V''.w=V'.w∧Inv TB (ctxB V (lowV V m) σ S) V'' σ''∧ERel V'' x v'∧post x σ'' V''.nx:=by
    rintro ⟨x,hx,hp⟩
    obtain ⟨v,hv,he⟩:=resG_run (P:=P) hr'.inv hr'.env hx
    exact ⟨hr'.defers,v,hv,V',v,x,σ',rfl,rfl,hr'.inv,he,hp⟩
  cases e with
  | normal=>exact fin hq
  | ret=>exact fin hq
  | exit id=>exact hq.elim
  | goto l=>exact hq.elim
  | panic ch=>exact hq.elim
  | outgrown=>exact hq.elim
end
end Go.Am
namespace Go.Am
open Go Go.Proofs
set_option maxHeartbeats 1000000
attribute [local irreducible] QOp AOp Lex LexO AWp Spec
variable {TB:Amb}
abbrev teE (kn:Bool) (p:Aut) (s:Sys) (q:Aut) (al:Int):E:=.a ((teRow kn p s q al).map .d)
theorem teacherKnown_ok (p:Aut) (s:Sys) (q:Aut) (al:Int):Pure Tryz.prog TB 26 [teE true p s q al] (eI .i64 (if autOk p then p.al else -1)):=by
  refine eN Tryz.func26 rfl (by kernel_rfl) rfl ?_;intro Γ hΓ
  (repeat' first|refine sN rfl ?_|((first|refine sA rfl ?_ ?_|refine s4 rfl ‹_› rfl ?_ ?_);first|exact tI|omega|simp only[oZ] at *;omega)|refine s2 rfl fun _ _hb=>?_ |(refine sC rfl (implAutomatonValid_ok p) ?_;intro _ _hb)|refine s3 rfl ?_ ?_<;>rintro rfl|refine aU rfl ?_|refine lexE ?_|refine rE (by kernel_rfl) ?_|(refine aC rfl ?_ ?_<;>rintro ⟨⟩)|refine aK ?_|refine aE ?_|refine aB ?_|refine AWp.ret ⟨_,rfl,?_⟩)
  all_goals first
    | (show E.o _=E.o _;congr;grind)
    | (exfalso;simp at *;done)
abbrev askC (kn:Bool) (p:Aut) (s:Sys) (q:Aut) (al:Int):C:=.fn 90 [.ip [.l (tblD p)],.ip (teRow kn p s q al)]
theorem ask1_V {p:Aut} (hp:autOk p=true) (s:Sys) (q:Aut) (al:Int) (kn:Bool):AskV Tryz.prog TB (askC kn p s q al) (LA p) (fun w=>wordOn (lsB p.al) w∧w.length≤1048576):=
  .of rfl fun w hw=>ask1_ok hp s q al kn w hw.1 hw.2
theorem newOracleK_ok {p:Aut} (hp:autOk p=true) (s:Sys) (q:Aut) (al:Int):Pure Tryz.prog TB 50 [teE true p s q al] (.t [(true,[.d (iD p.al),askC true p s q al]),(false,[.d (bD true)])]):=by
  have hT:=teacherKnown_ok (TB:=TB) p s q al
  rw [if_pos hp] at hT
  have h0:=autOk_head hp
  have ha:=h0.1
  unfold alphB at ha
  simp only [decide_eq_true_eq] at ha
  have htb:=tableOf_ok (TB:=TB) p hp
  refine SpecK.toSpec (SpecK.ofG (Nat.le_refl _) Tryz.func50 rfl (by kernel_rfl) (Nat.le_of_ble_eq_true rfl) ?_);intro Γ hΓ
  (repeat first|refine sN rfl ?_|((first|refine sA rfl ?_ ?_|refine s4 rfl ‹_› rfl ?_ ?_);first|exact tI|omega|simp only[oZ] at *;omega)|refine s2 rfl fun _ _hb=>?_ |refine sP rfl (hT) rfl ?_|refine s3 rfl ?_ ?_<;>rintro rfl|refine aU rfl ?_|refine lexE ?_)
  refine AWp.block ?_
  (repeat first|refine sN rfl ?_|((first|refine sA rfl ?_ ?_|refine s4 rfl ‹_› rfl ?_ ?_);first|exact tI|omega|simp only[oZ] at *;omega)|refine s2 rfl fun _ _hb=>?_|refine s3 rfl ?_ ?_<;>rintro rfl|refine aU rfl ?_|refine lexE ?_)
  ((refine aC rfl ?_ ?_<;>rintro ⟨⟩);all_goals try (simp at _hb;done))
  · exfalso;first|omega|simp only[oZ] at *;omega
  · (repeat first|refine sN rfl ?_|((first|refine sA rfl ?_ ?_|refine s4 rfl ‹_› rfl ?_ ?_);first|exact tI|omega|simp only[oZ] at *;omega)|refine s2 rfl fun _ _hb=>?_|refine s3 rfl ?_ ?_<;>rintro rfl|refine aU rfl ?_|refine lexE ?_)
    ((refine aC rfl ?_ ?_<;>rintro ⟨⟩);all_goals try (simp at _hb;done))
    refine AWp.seq ?_
    refine reg (by kernel_rfl) ?_;(repeat first|refine sN rfl ?_|((first|refine sA rfl ?_ ?_|refine s4 rfl ‹_› rfl ?_ ?_);first|exact tI|omega|simp only[oZ] at *;omega)|refine s2 rfl fun _ _hb=>?_ |refine sP rfl (htb) rfl ?_|refine s3 rfl ?_ ?_<;>rintro rfl);refine lexE ?_
    refine AWp.seq ?_
    refine AWp.freezeV [1] [1,2,3,4] rfl [(5,.o (.ip [.l (tblD p)]))] ⟨⟨_,rfl,.o (.ptr (by simp) rfl rfl rfl)⟩,trivial⟩ ?_;(try dsimp only[List.cons_append,List.nil_append])
    (repeat first|refine sN rfl ?_|((first|refine sA rfl ?_ ?_|refine s4 rfl ‹_› rfl ?_ ?_);first|exact tI|omega|simp only[oZ] at *;omega)|refine s2 rfl fun _ _hb=>?_|(refine popO rfl ?_;refine gA rfl ?_;first|refine gS (fun _ _=>q_build rfl rfl (by rfl) (by rfl)) ?_)|refine s3 rfl ?_ ?_<;>rintro rfl|refine aU rfl ?_|refine lexE ?_)
    refine AWp.ret ⟨_,rfl,rfl⟩
theorem newOracleK_no {p:Aut} (hp:autOk p=false) (s:Sys) (q:Aut) (al:Int):Pure Tryz.prog TB 50 [teE true p s q al] (.t [(true,[.d (iD 0),.d (.v .nilFunc)]),(false,[.d (bD false)])]):=by
  have hT:=teacherKnown_ok (TB:=TB) p s q al
  rw [if_neg (by simp [hp])] at hT
  refine SpecK.toSpec (SpecK.ofG (Nat.le_refl _) Tryz.func50 rfl (by kernel_rfl) (Nat.le_of_ble_eq_true rfl) ?_);intro Γ hΓ
  (repeat first|refine sN rfl ?_|((first|refine sA rfl ?_ ?_|refine s4 rfl ‹_› rfl ?_ ?_);first|exact tI|omega|simp only[oZ] at *;omega)|refine s2 rfl fun _ _hb=>?_ |refine sP rfl (hT) rfl ?_|refine s3 rfl ?_ ?_<;>rintro rfl|refine aU rfl ?_|refine lexE ?_)
  refine AWp.block ?_
  (repeat first|refine sN rfl ?_|((first|refine sA rfl ?_ ?_|refine s4 rfl ‹_› rfl ?_ ?_);first|exact tI|omega|simp only[oZ] at *;omega)|refine s2 rfl fun _ _hb=>?_|refine s3 rfl ?_ ?_<;>rintro rfl|refine aU rfl ?_|refine lexE ?_)
  ((refine aC rfl ?_ ?_<;>rintro ⟨⟩);all_goals try (simp at _hb;done))
  · (repeat first|refine sN rfl ?_|((first|refine sA rfl ?_ ?_|refine s4 rfl ‹_› rfl ?_ ?_);first|exact tI|omega|simp only[oZ] at *;omega)|refine s2 rfl fun _ _hb=>?_|(refine popO rfl ?_;refine gA rfl ?_;first|refine gS (fun _ _=>q_build rfl rfl (by rfl) (by rfl)) ?_)|refine s3 rfl ?_ ?_<;>rintro rfl|refine aU rfl ?_|refine lexE ?_)
    refine AWp.ret ⟨_,rfl,rfl⟩
theorem l1At_ok (w:W) (i:Nat) (c:UInt8) (hc:w[((i:Nat):Int).toNat]? = some c):Pure Tryz.prog TB 143 [eT w,eI .i64 i] (eI .i64 ((c.toNat:Int) - 97)):=by
  have hb:=c.toNat_lt
  refine eN Tryz.func143 rfl (by kernel_rfl) rfl ?_;intro Γ hΓ
  (repeat' first|refine sN rfl ?_|((first|refine sA rfl ?_ ?_|refine s4 rfl ‹_› rfl ?_ ?_);first|exact tI|omega|simp only[oZ] at *;omega)|refine s2 rfl fun _ _hb=>?_|refine s3 rfl ?_ ?_<;>rintro rfl|refine aU rfl ?_|refine lexE ?_|refine rE (by kernel_rfl) ?_|(refine aC rfl ?_ ?_<;>rintro ⟨⟩)|refine aK ?_|refine aE ?_|refine aB ?_|refine AWp.ret ⟨_,rfl,?_⟩)
  rfl
theorem l1Bit_ok (n:Int) (h0:0≤n) (h1:n < 16):Pure Tryz.prog TB 132 [eI .i64 n] (eI .i64 ((2 ^ n.toNat:Nat):Int)):=by
  refine eN Tryz.func132 rfl (by kernel_rfl) rfl ?_;intro Γ hΓ
  (repeat' first|refine sN rfl ?_|((first|refine sA rfl ?_ ?_|refine s4 rfl ‹_› rfl ?_ ?_);first|exact tI|omega|simp only[oZ] at *;omega)|refine s2 rfl fun _ _hb=>?_|(refine popO rfl ?_;refine gA rfl ?_;first|refine gS (fun _ _=>q_shl rfl rfl h0 (shl_one h0 h1)) ?_)|refine s3 rfl ?_ ?_<;>rintro rfl|refine aU rfl ?_|refine lexE ?_|refine rE (by kernel_rfl) ?_|(refine aC rfl ?_ ?_<;>rintro ⟨⟩)|refine aK ?_|refine aE ?_|refine aB ?_|refine AWp.ret ⟨_,rfl,?_⟩)
  rfl
theorem chOk_num {c:UInt8}:chOk c=decide (0≤(c.toNat:Int) - 97∧(c.toNat:Int) - 97 < 6):=by
  unfold chOk
  rw [Bool.eq_iff_iff,decide_eq_true_eq,decide_eq_true_eq]
  omega
theorem wordValid_ok (w:W) (hl:w.length≤1099511627776):Pure Tryz.prog TB 142 [eT w] (eB (wordOk w)):=by
  by_cases h5:w.length≤50000
  · have hwk : wordOk w=w.all chOk:=by unfold wordOk;simp [h5]
    rw [hwk]
    refine eN Tryz.func142 rfl (by kernel_rfl) rfl ?_;intro Γ hΓ
    (repeat first|refine sN rfl ?_|((first|refine sA rfl ?_ ?_|refine s4 rfl ‹_› rfl ?_ ?_);first|exact tI|omega|simp only[oZ] at *;omega)|refine s2 rfl fun _ _hb=>?_|refine s3 rfl ?_ ?_<;>rintro rfl|refine aU rfl ?_|refine lexE ?_)
    (refine aC rfl ?_ ?_<;>rintro ⟨⟩)
    · exfalso;first|omega|simp only[oZ] at *;omega
    refine AWp.skip ?_
    (repeat first|refine sN rfl ?_|((first|refine sA rfl ?_ ?_|refine s4 rfl ‹_› rfl ?_ ?_);first|exact tI|omega|simp only[oZ] at *;omega)|refine s2 rfl fun _ _hb=>?_|refine s3 rfl ?_ ?_<;>rintro rfl|refine aU rfl ?_|refine lexE ?_)
    refine AWp.block ?_
    refine AWp.loopV (α:={k:Nat // k≤w.length∧(w.take k).all chOk=true}) [0] [] rfl rfl (fun ⟨k,hk,ha⟩=>[(3,eI .i64 k)]) (fun ⟨k,hk,ha⟩=>[]) 0 (fun ⟨k,hk,ha⟩=>w.length - k) (⟨0,by omega,rfl⟩) (List.range 0) (rg hΓ rfl) (by (repeat' first|exact tI|rfl|refine And.intro ?_ ?_)<;>(simp[cX,zC,hΓ]<;>rfl)) ?_;rintro ⟨k,hk,ha⟩;(try dsimp only[List.cons_append,List.nil_append])
    by_cases hlt:k < w.length
    · obtain ⟨c,hc⟩:=get_some hlt
      have hc':w[((k:Nat):Int).toNat]? = some c:=by simpa using hc
      have hla:=l1At_ok (TB:=TB) w k c hc'
      have hcn:=chOk_num (c:=c)
      by_cases hcc:chOk c=true
      · have hst:=all_step hc ha hcc
        rw [hcn] at hcc
        simp only [decide_eq_true_eq] at hcc
        (repeat first|refine sN rfl ?_|((first|refine sA rfl ?_ ?_|refine s4 rfl ‹_› rfl ?_ ?_);first|exact tI|omega|simp only[oZ] at *;omega)|refine s2 rfl fun _ _hb=>?_|refine s3 rfl ?_ ?_<;>rintro rfl|refine aU rfl ?_|refine lexE ?_)
        (refine aC rfl ?_ ?_<;>rintro ⟨⟩)
        · (repeat' first|refine sN rfl ?_|((first|refine sA rfl ?_ ?_|refine s4 rfl ‹_› rfl ?_ ?_);first|exact tI|omega|simp only[oZ] at *;omega)|refine s2 rfl fun _ _hb=>?_ |refine sP rfl (hla) rfl ?_|refine s3 rfl ?_ ?_<;>rintro rfl|refine aU rfl ?_|refine lexE ?_|refine rE (by kernel_rfl) ?_|(refine aC rfl ?_ ?_<;>rintro ⟨⟩)|refine aK ?_|refine aE ?_|refine aB ?_|refine AWp.ret ⟨_,rfl,?_⟩)
          · exfalso;first|omega|simp only[oZ] at *;omega
          · exfalso;first|omega|simp only[oZ] at *;omega
          · refine ⟨⟨k+1,by first|omega|simp only[oZ] at *;omega,hst⟩,by dsimp only;(first|omega|simp only[oZ] at *;omega),[],?_⟩
            simp[cX,zC,hΓ]
        · exfalso;first|omega|simp only[oZ] at *;omega
      · have hst:=all_bad hc (f:=chOk) (by simpa using hcc)
        rw [hcn] at hcc
        simp only [decide_eq_true_eq] at hcc
        (repeat first|refine sN rfl ?_|((first|refine sA rfl ?_ ?_|refine s4 rfl ‹_› rfl ?_ ?_);first|exact tI|omega|simp only[oZ] at *;omega)|refine s2 rfl fun _ _hb=>?_|refine s3 rfl ?_ ?_<;>rintro rfl|refine aU rfl ?_|refine lexE ?_)
        (refine aC rfl ?_ ?_<;>rintro ⟨⟩)
        · (repeat' first|refine sN rfl ?_|((first|refine sA rfl ?_ ?_|refine s4 rfl ‹_› rfl ?_ ?_);first|exact tI|omega|simp only[oZ] at *;omega)|refine s2 rfl fun _ _hb=>?_ |refine sP rfl (hla) rfl ?_|refine s3 rfl ?_ ?_<;>rintro rfl|refine aU rfl ?_|refine lexE ?_|refine rE (by kernel_rfl) ?_|(refine aC rfl ?_ ?_<;>rintro ⟨⟩)|refine aK ?_|refine aE ?_|refine aB ?_|refine AWp.ret ⟨_,rfl,?_⟩)
          · rw [hst]
          · rw [hst]
          · exfalso;first|omega|simp only[oZ] at *;omega
        · exfalso;first|omega|simp only[oZ] at *;omega
    · have hd:=all_done ha (show w.length≤k by omega)
      (repeat first|refine sN rfl ?_|((first|refine sA rfl ?_ ?_|refine s4 rfl ‹_› rfl ?_ ?_);first|exact tI|omega|simp only[oZ] at *;omega)|refine s2 rfl fun _ _hb=>?_|refine s3 rfl ?_ ?_<;>rintro rfl|refine aU rfl ?_|refine lexE ?_)
      (refine aC rfl ?_ ?_<;>rintro ⟨⟩)
      · exfalso;first|omega|simp only[oZ] at *;omega
      · (repeat' first|refine sN rfl ?_|((first|refine sA rfl ?_ ?_|refine s4 rfl ‹_› rfl ?_ ?_);first|exact tI|omega|simp only[oZ] at *;omega)|refine s2 rfl fun _ _hb=>?_|refine s3 rfl ?_ ?_<;>rintro rfl|refine aU rfl ?_|refine lexE ?_|refine rE (by kernel_rfl) ?_|(refine aC rfl ?_ ?_<;>rintro ⟨⟩)|refine aK ?_|refine aE ?_|refine aB ?_|refine AWp.ret ⟨_,rfl,?_⟩)
        rw [hd]
  · have hwk:wordOk w=false:=by unfold wordOk;simp [h5]
    rw [hwk]
    refine eN Tryz.func142 rfl (by kernel_rfl) rfl ?_;intro Γ hΓ
    (repeat first|refine sN rfl ?_|((first|refine sA rfl ?_ ?_|refine s4 rfl ‹_› rfl ?_ ?_);first|exact tI|omega|simp only[oZ] at *;omega)|refine s2 rfl fun _ _hb=>?_|refine s3 rfl ?_ ?_<;>rintro rfl|refine aU rfl ?_|refine lexE ?_)
    (refine aC rfl ?_ ?_<;>rintro ⟨⟩)
    · (repeat' first|refine sN rfl ?_|((first|refine sA rfl ?_ ?_|refine s4 rfl ‹_› rfl ?_ ?_);first|exact tI|omega|simp only[oZ] at *;omega)|refine s2 rfl fun _ _hb=>?_|refine s3 rfl ?_ ?_<;>rintro rfl|refine aU rfl ?_|refine lexE ?_|refine rE (by kernel_rfl) ?_|(refine aC rfl ?_ ?_<;>rintro ⟨⟩)|refine aK ?_|refine aE ?_|refine aB ?_|refine AWp.ret ⟨_,rfl,?_⟩)
      rfl
    · exfalso;first|omega|simp only[oZ] at *;omega
abbrev eIB (n:Int) (b:Bool):E:=.t [(false,[.d (iD n)]),(false,[.d (bD b)])]
theorem setW_step {w:W} {k:Nat} {c:UInt8} (hc:w[k]? = some c):setW (w.take (k+1))=setW (w.take k) ||| 2 ^ (c.toNat - 97):=by
  unfold setW
  rw [List.take_add_one,hc];simp
theorem alphabetOf_ok (w:W) (hl:w.length≤1099511627776):Pure Tryz.prog TB 115 [eT w] (if wordOk w then eIB (setW w:Nat) true else eIB 0 false):=by
  have hwv:=wordValid_ok (TB:=TB) w hl
  by_cases hok:wordOk w=true
  · have hok2:=hok
    unfold wordOk at hok2
    simp only [Bool.and_eq_true,decide_eq_true_eq] at hok2
    rw [if_pos hok]
    refine eN Tryz.func115 rfl (by kernel_rfl) rfl ?_;intro Γ hΓ
    (repeat first|refine sN rfl ?_|((first|refine sA rfl ?_ ?_|refine s4 rfl ‹_› rfl ?_ ?_);first|exact tI|omega|simp only[oZ] at *;omega)|refine s2 rfl fun _ _hb=>?_ |(refine sC rfl (hwv) ?_;intro _ _hb)|refine s3 rfl ?_ ?_<;>rintro rfl|refine aU rfl ?_|refine lexE ?_)
    (refine aC rfl ?_ ?_<;>rintro ⟨⟩)
    · exfalso;simp at *;grind
    refine AWp.skip ?_
    (repeat first|refine sN rfl ?_|((first|refine sA rfl ?_ ?_|refine s4 rfl ‹_› rfl ?_ ?_);first|exact tI|omega|simp only[oZ] at *;omega)|refine s2 rfl fun _ _hb=>?_|refine s3 rfl ?_ ?_<;>rintro rfl|refine aU rfl ?_|refine lexE ?_)
    refine AWp.block ?_
    refine AWp.loopV (α:={k:Nat // k≤w.length}) [0] [] rfl rfl (fun ⟨k,hk⟩=>[(4,eI .i64 (setW (w.take k):Nat)),(5,eI .i64 k)]) (fun ⟨k,hk⟩=>[]) 0 (fun ⟨k,hk⟩=>w.length - k) (⟨0,by omega⟩) (List.range 0) (rg hΓ rfl) (by (repeat' first|exact tI|rfl|refine And.intro ?_ ?_)<;>(simp[cX,zC,hΓ]<;>rfl)) ?_;rintro ⟨k,hk⟩;(try dsimp only[List.cons_append,List.nil_append])
    by_cases hlt:k < w.length
    · obtain ⟨c,hc⟩:=get_some hlt
      have hc':w[((k:Nat):Int).toNat]? = some c:=by simpa using hc
      have hla:=l1At_ok (TB:=TB) w k c hc'
      have hcc:=(List.all_eq_true.1 hok2.2) c (List.mem_of_getElem? hc)
      rw [chOk_num,decide_eq_true_eq] at hcc
      have hbt:=l1Bit_ok (TB:=TB) ((c.toNat:Int) - 97) hcc.1 (by omega)
      have hst:=setW_step hc
      have hs1:setW (w.take k) < 64:=setW_lt (by rw [List.all_eq_true];exact fun x hx=>(List.all_eq_true.1 hok2.2) x (List.mem_of_mem_take hx)) (by omega)
      have ht:((c.toNat:Int) - 97).toNat=c.toNat - 97:=by omega
      have h26:2 ^ (c.toNat - 97) < 2 ^ 6:=Nat.pow_lt_pow_right (by omega) (by omega)
      have hor:=(iOr_nat hs1 h26).1
      rw [←hst] at hor
      rw [ht] at hbt
      (repeat first|refine sN rfl ?_|((first|refine sA rfl ?_ ?_|refine s4 rfl ‹_› rfl ?_ ?_);first|exact tI|omega|simp only[oZ] at *;omega)|refine s2 rfl fun _ _hb=>?_|refine s3 rfl ?_ ?_<;>rintro rfl|refine aU rfl ?_|refine lexE ?_)
      (refine aC rfl ?_ ?_<;>rintro ⟨⟩)
      · (repeat' first|refine sN rfl ?_|((first|refine sA rfl ?_ ?_|refine s4 rfl ‹_› rfl ?_ ?_);first|exact tI|omega|simp only[oZ] at *;omega)|refine s2 rfl fun _ _hb=>?_ |refine sP rfl (hla) rfl ?_|refine sP rfl (hbt) rfl ?_|refine s3 rfl ?_ ?_<;>rintro rfl|refine aU rfl ?_|refine lexE ?_|refine rE (by kernel_rfl) ?_|(refine aC rfl ?_ ?_<;>rintro ⟨⟩)|refine aK ?_|refine aE ?_|refine aB ?_|refine AWp.ret ⟨_,rfl,?_⟩)
        rw [hor]
        refine ⟨⟨k+1,by first|omega|simp only[oZ] at *;omega⟩,by dsimp only;(first|omega|simp only[oZ] at *;omega),[],?_⟩
        simp[cX,zC,hΓ]
      · exfalso;first|omega|simp only[oZ] at *;omega
    · obtain rfl:k=w.length:=by omega
      rw [List.take_length]
      (repeat first|refine sN rfl ?_|((first|refine sA rfl ?_ ?_|refine s4 rfl ‹_› rfl ?_ ?_);first|exact tI|omega|simp only[oZ] at *;omega)|refine s2 rfl fun _ _hb=>?_|refine s3 rfl ?_ ?_<;>rintro rfl|refine aU rfl ?_|refine lexE ?_)
      (refine aC rfl ?_ ?_<;>rintro ⟨⟩)
      · exfalso;first|omega|simp only[oZ] at *;omega
      · (repeat' first|refine sN rfl ?_|((first|refine sA rfl ?_ ?_|refine s4 rfl ‹_› rfl ?_ ?_);first|exact tI|omega|simp only[oZ] at *;omega)|refine s2 rfl fun _ _hb=>?_|refine s3 rfl ?_ ?_<;>rintro rfl|refine aU rfl ?_|refine lexE ?_|refine rE (by kernel_rfl) ?_|(refine aC rfl ?_ ?_<;>rintro ⟨⟩)|refine aK ?_|refine aE ?_|refine aB ?_|refine AWp.ret ⟨_,rfl,?_⟩)
        rfl
  · rw [if_neg hok]
    refine eN Tryz.func115 rfl (by kernel_rfl) rfl ?_;intro Γ hΓ
    (repeat first|refine sN rfl ?_|((first|refine sA rfl ?_ ?_|refine s4 rfl ‹_› rfl ?_ ?_);first|exact tI|omega|simp only[oZ] at *;omega)|refine s2 rfl fun _ _hb=>?_ |(refine sC rfl (hwv) ?_;intro _ _hb)|refine s3 rfl ?_ ?_<;>rintro rfl|refine aU rfl ?_|refine lexE ?_)
    (refine aC rfl ?_ ?_<;>rintro ⟨⟩)
    · (repeat' first|refine sN rfl ?_|((first|refine sA rfl ?_ ?_|refine s4 rfl ‹_› rfl ?_ ?_);first|exact tI|omega|simp only[oZ] at *;omega)|refine s2 rfl fun _ _hb=>?_|refine s3 rfl ?_ ?_<;>rintro rfl|refine aU rfl ?_|refine lexE ?_|refine rE (by kernel_rfl) ?_|(refine aC rfl ?_ ?_<;>rintro ⟨⟩)|refine aK ?_|refine aE ?_|refine aB ?_|refine AWp.ret ⟨_,rfl,?_⟩)
      rfl
    · exfalso;simp at *;grind
theorem wordWithin_ok (w:W) (al:Int) (hl:w.length≤1099511627776):Pure Tryz.prog TB 95 [eT w,eI .i64 al] (eB (within w al)):=by
  have h1:=alphabetOf_ok (TB:=TB) w hl
  have h2:=l1Alphabet_ok (TB:=TB) al
  by_cases hok:wordOk w=true
  · rw [if_pos hok] at h1
    unfold wordOk at hok
    simp only [Bool.and_eq_true,decide_eq_true_eq] at hok
    have hw:within w al=(alphB al && w.all (inAl al)):=by unfold within;simp [hok.1]
    rw [hw]
    refine eN Tryz.func95 rfl (by kernel_rfl) rfl ?_;intro Γ hΓ
    (repeat' first|refine sN rfl ?_|((first|refine sA rfl ?_ ?_|refine s4 rfl ‹_› rfl ?_ ?_);first|exact tI|omega|simp only[oZ] at *;omega)|refine s2 rfl fun _ _hb=>?_ |refine sP rfl (h1) rfl ?_|(refine sC rfl (h2) ?_;intro _ _hb)|refine s3 rfl ?_ ?_<;>rintro rfl|refine aU rfl ?_|refine lexE ?_|refine rE (by kernel_rfl) ?_|(refine aC rfl ?_ ?_<;>rintro ⟨⟩)|refine aK ?_|refine aE ?_|refine aB ?_|refine AWp.ret ⟨_,rfl,?_⟩)
    all_goals first
      | (show E.o _=E.o _;congr;grind)
      | (rename_i ha b;rw [setW_in hok.2 ha] at _hb;show E.o _=E.o _;rw [ha,_hb];rfl)
  · rw [if_neg hok] at h1
    have hw:within w al=false:=by
      rw [Bool.eq_false_iff]
      intro h
      unfold within at h
      simp only [Bool.and_eq_true,decide_eq_true_eq] at h
      exact hok (by unfold wordOk;simp [h.1,within_all h.2.2])
    rw [hw]
    refine eN Tryz.func95 rfl (by kernel_rfl) rfl ?_;intro Γ hΓ
    (repeat' first|refine sN rfl ?_|((first|refine sA rfl ?_ ?_|refine s4 rfl ‹_› rfl ?_ ?_);first|exact tI|omega|simp only[oZ] at *;omega)|refine s2 rfl fun _ _hb=>?_ |refine sP rfl (h1) rfl ?_|(refine sC rfl (h2) ?_;intro _ _hb)|refine s3 rfl ?_ ?_<;>rintro rfl|refine aU rfl ?_|refine lexE ?_|refine rE (by kernel_rfl) ?_|(refine aC rfl ?_ ?_<;>rintro ⟨⟩)|refine aK ?_|refine aE ?_|refine aB ?_|refine AWp.ret ⟨_,rfl,?_⟩)
    all_goals rfl
theorem within_lsB {w:W} {al:Int} (h:within w al=true):wordOn (lsB al) w:=by
  unfold within at h
  simp only [Bool.and_eq_true,decide_eq_true_eq] at h
  intro c hc
  have h1:=(List.all_eq_true.1 h.2.2) c hc
  unfold inAl chOk at h1
  simp only [Bool.and_eq_true,decide_eq_true_eq] at h1
  refine List.mem_map.2 ⟨((c.toNat - 97:Nat):Int),mem_lettersTo.2 ⟨by omega,h1.2⟩,?_⟩
  unfold lb
  have e:97+((c.toNat - 97:Nat):Int).toNat=c.toNat:=by omega
  rw [e]
  simp
theorem lsB_within {w:W} {al:Int} (h:wordOn (lsB al) w) (hl:w.length≤50000) (ha:alphB al=true):within w al=true:=by
  unfold within
  simp only [Bool.and_eq_true,decide_eq_true_eq]
  refine ⟨hl,ha,List.all_eq_true.2 fun c hc=>?_⟩
  obtain ⟨l,hm,rfl⟩:=List.mem_map.1 (h c hc)
  have h1:=lettersTo_in hm
  have h2:=lb_num h1.1 (by omega)
  unfold inAl chOk
  simp only [Bool.and_eq_true,decide_eq_true_eq]
  have e:(lb l).toNat - 97=l.toNat:=by omega
  rw [e]
  exact ⟨by omega,h1.2.2⟩
theorem l3Run_ok {p:Aut} (hp:autOk p=true) (w:W) (hw:wordOn (lsB p.al) w) (hl:w.length≤1099511627776):Pure Tryz.prog TB 167 [eAut p,eI .i64 0,eT w] (eI .i64 (runA p 0 w)):=by
  have hph:=autOk_head hp
  refine eN Tryz.func167 rfl (by kernel_rfl) rfl ?_;intro Γ hΓ
  (repeat first|refine sN rfl ?_|((first|refine sA rfl ?_ ?_|refine s4 rfl ‹_› rfl ?_ ?_);first|exact tI|omega|simp only[oZ] at *;omega)|refine s2 rfl fun _ _hb=>?_|refine s3 rfl ?_ ?_<;>rintro rfl|refine aU rfl ?_|refine lexE ?_)
  refine AWp.block ?_
  refine AWp.loopV (α:={k:Nat // k≤w.length}) [2,3] [] rfl rfl (fun ⟨k,hk⟩=>[(1,eI .i64 (runA p 0 (w.take k))),(7,eI .i64 k)]) (fun ⟨k,hk⟩=>[]) 0 (fun ⟨k,hk⟩=>w.length - k) (⟨0,by omega⟩) (List.range 0) (rg hΓ rfl) (by (repeat' first|exact tI|rfl|refine And.intro ?_ ?_)<;>(simp[cX,zC,hΓ]<;>rfl)) ?_;rintro ⟨k,hk⟩;(try dsimp only[List.cons_append,List.nil_append])
  have hr:=runA_in hp (w.take k) 0 (on_take hw k) (by omega)
  by_cases hlt:k < w.length
  · obtain ⟨c,hc⟩:=get_some hlt
    have hc':w[((k:Nat):Int).toNat]? = some c:=by simpa using hc
    have hcl:=lsB_num (hw c (List.mem_of_getElem? hc))
    have hla:=l1At_ok (TB:=TB) w k c hc'
    have hgo:=l3Go_ok (TB:=TB) p hp (runA p 0 (w.take k)).toNat (by omega) ((c.toNat:Int) - 97) hcl.1 hcl.2
    have e:(((runA p 0 (w.take k)).toNat:Nat):Int)=runA p 0 (w.take k):=by omega
    rw [e] at hgo
    have hst:=runA_step (p:=p) hc 0
    rw [←hst] at hgo
    (repeat first|refine sN rfl ?_|((first|refine sA rfl ?_ ?_|refine s4 rfl ‹_› rfl ?_ ?_);first|exact tI|omega|simp only[oZ] at *;omega)|refine s2 rfl fun _ _hb=>?_|refine s3 rfl ?_ ?_<;>rintro rfl|refine aU rfl ?_|refine lexE ?_)
    (refine aC rfl ?_ ?_<;>rintro ⟨⟩)
    · (repeat' first|refine sN rfl ?_|((first|refine sA rfl ?_ ?_|refine s4 rfl ‹_› rfl ?_ ?_);first|exact tI|omega|simp only[oZ] at *;omega)|refine s2 rfl fun _ _hb=>?_ |refine sP rfl (hla) rfl ?_|refine sP rfl (hgo) rfl ?_|refine s3 rfl ?_ ?_<;>rintro rfl|refine aU rfl ?_|refine lexE ?_|refine rE (by kernel_rfl) ?_|(refine aC rfl ?_ ?_<;>rintro ⟨⟩)|refine aK ?_|refine aE ?_|refine aB ?_|refine AWp.ret ⟨_,rfl,?_⟩)
      refine ⟨⟨k+1,by first|omega|simp only[oZ] at *;omega⟩,by dsimp only;(first|omega|simp only[oZ] at *;omega),[],?_⟩
      simp[cX,zC,hΓ]
    · exfalso;first|omega|simp only[oZ] at *;omega
  · obtain rfl:k=w.length:=by omega
    rw [List.take_length]
    (repeat first|refine sN rfl ?_|((first|refine sA rfl ?_ ?_|refine s4 rfl ‹_› rfl ?_ ?_);first|exact tI|omega|simp only[oZ] at *;omega)|refine s2 rfl fun _ _hb=>?_|refine s3 rfl ?_ ?_<;>rintro rfl|refine aU rfl ?_|refine lexE ?_)
    (refine aC rfl ?_ ?_<;>rintro ⟨⟩)
    · exfalso;first|omega|simp only[oZ] at *;omega
    · (repeat' first|refine sN rfl ?_|((first|refine sA rfl ?_ ?_|refine s4 rfl ‹_› rfl ?_ ?_);first|exact tI|omega|simp only[oZ] at *;omega)|refine s2 rfl fun _ _hb=>?_|refine s3 rfl ?_ ?_<;>rintro rfl|refine aU rfl ?_|refine lexE ?_|refine rE (by kernel_rfl) ?_|(refine aC rfl ?_ ?_<;>rintro ⟨⟩)|refine aK ?_|refine aE ?_|refine aB ?_|refine AWp.ret ⟨_,rfl,?_⟩)
      rfl
def stAfter (p:Aut) (w:W):Int:=if autOk p && within w p.al then runA p 0 w else -1
def accA (p:Aut) (w:W):Bool:=autOk p && (within w p.al && LA p w)
theorem stateAfter_ok (p:Aut) (w:W) (hl:w.length≤1099511627776):Pure Tryz.prog TB 146 [eAut p,eT w] (eI .i64 (stAfter p w)):=by
  have h1:=specAutomatonValid_ok (TB:=TB) p
  have h2:=wordWithin_ok (TB:=TB) w p.al hl
  by_cases hv:(autOk p && within w p.al)=true
  · have hs:stAfter p w=runA p 0 w:=by unfold stAfter;rw [if_pos hv]
    rw [hs]
    rw [Bool.and_eq_true] at hv
    have h3:=l3Run_ok (TB:=TB) hv.1 w (within_lsB hv.2) hl
    refine eN Tryz.func146 rfl (by kernel_rfl) rfl ?_;intro Γ hΓ
    (repeat' first|refine sN rfl ?_|((first|refine sA rfl ?_ ?_|refine s4 rfl ‹_› rfl ?_ ?_);first|exact tI|omega|simp only[oZ] at *;omega)|refine s2 rfl fun _ _hb=>?_ |(refine sC rfl (h1) ?_;intro _ _hb)|(refine sC rfl (h2) ?_;intro _ _hb)|refine sP rfl (h3) rfl ?_|refine s3 rfl ?_ ?_<;>rintro rfl|refine aU rfl ?_|refine lexE ?_|refine rE (by kernel_rfl) ?_|(refine aC rfl ?_ ?_<;>rintro ⟨⟩)|refine aK ?_|refine aE ?_|refine aB ?_|refine AWp.ret ⟨_,rfl,?_⟩)
    all_goals first
      | rfl
      | (exfalso;grind;done)
  · have hs:stAfter p w = -1:=by unfold stAfter;rw [if_neg hv]
    rw [hs]
    refine eN Tryz.func146 rfl (by kernel_rfl) rfl ?_;intro Γ hΓ
    (repeat' first|refine sN rfl ?_|((first|refine sA rfl ?_ ?_|refine s4 rfl ‹_› rfl ?_ ?_);first|exact tI|omega|simp only[oZ] at *;omega)|refine s2 rfl fun _ _hb=>?_ |(refine sC rfl (h1) ?_;intro _ _hb)|(refine sC rfl (h2) ?_;intro _ _hb)|refine s3 rfl ?_ ?_<;>rintro rfl|refine aU rfl ?_|refine lexE ?_|refine rE (by kernel_rfl) ?_|(refine aC rfl ?_ ?_<;>rintro ⟨⟩)|refine aK ?_|refine aE ?_|refine aB ?_|refine AWp.ret ⟨_,rfl,?_⟩)
    all_goals first
      | rfl
      | (exfalso;grind;done)
theorem acceptsWord_ok (p:Aut) (w:W) (hl:w.length≤1099511627776):Pure Tryz.prog TB 119 [eAut p,eT w] (eB (accA p w)):=by
  have h1:=stateAfter_ok (TB:=TB) p w hl
  by_cases hv:(autOk p && within w p.al)=true
  · have hs:stAfter p w=runA p 0 w:=by unfold stAfter;rw [if_pos hv]
    rw [hs] at h1
    rw [Bool.and_eq_true] at hv
    have hph:=autOk_head hv.1
    have hr:=runA_in hv.1 w 0 (within_lsB hv.2) (by omega)
    obtain ⟨b,hb⟩:=get_some (l:=p.ac) (k:=(runA p 0 w).toNat) (by omega)
    have hb':(p.ac.map bRow)[(runA p 0 w).toNat]? = some (bRow b):=by simp [hb]
    have ha:accA p w=b:=by unfold accA LA;simp [hv.1,hv.2,List.getD,hb]
    rw [ha]
    refine eN Tryz.func119 rfl (by kernel_rfl) rfl ?_;intro Γ hΓ
    (repeat' first|refine sN rfl ?_|((first|refine sA rfl ?_ ?_|refine s4 rfl ‹_› rfl ?_ ?_);first|exact tI|omega|simp only[oZ] at *;omega)|refine s2 rfl fun _ _hb=>?_ |refine sP rfl (h1) rfl ?_|refine s3 rfl ?_ ?_<;>rintro rfl|refine aU rfl ?_|refine lexE ?_|refine rE (by kernel_rfl) ?_|(refine aC rfl ?_ ?_<;>rintro ⟨⟩)|refine aK ?_|refine aE ?_|refine aB ?_|refine AWp.ret ⟨_,rfl,?_⟩)
    all_goals first
      | rfl
      | (exfalso;first|omega|simp only[oZ] at *;omega)
  · have hs:stAfter p w = -1:=by unfold stAfter;rw [if_neg hv]
    rw [hs] at h1
    have ha:accA p w=false:=by unfold accA;grind
    rw [ha]
    refine eN Tryz.func119 rfl (by kernel_rfl) rfl ?_;intro Γ hΓ
    (repeat' first|refine sN rfl ?_|((first|refine sA rfl ?_ ?_|refine s4 rfl ‹_› rfl ?_ ?_);first|exact tI|omega|simp only[oZ] at *;omega)|refine s2 rfl fun _ _hb=>?_ |refine sP rfl (h1) rfl ?_|refine s3 rfl ?_ ?_<;>rintro rfl|refine aU rfl ?_|refine lexE ?_|refine rE (by kernel_rfl) ?_|(refine aC rfl ?_ ?_<;>rintro ⟨⟩)|refine aK ?_|refine aE ?_|refine aB ?_|refine AWp.ret ⟨_,rfl,?_⟩)
    all_goals first
      | rfl
      | (exfalso;first|omega|simp only[oZ] at *;omega)
structure Tea where
  kn:Bool
  p:Aut
  s:Sys
  q:Aut
  al:Int
abbrev eTea (t:Tea):E:=teE t.kn t.p t.s t.q t.al
theorem specTeacherK_ok (t:Tea) (hk:t.kn=true):Pure Tryz.prog TB 53 [eTea t] (eI .i64 (if autOk t.p then t.p.al else -1)):=by
  obtain ⟨kn,p,s,q,al⟩:=t
  dsimp only at hk
  subst hk
  refine eN Tryz.func53 rfl (by kernel_rfl) rfl ?_;intro Γ hΓ
  (repeat' first|refine sN rfl ?_|((first|refine sA rfl ?_ ?_|refine s4 rfl ‹_› rfl ?_ ?_);first|exact tI|omega|simp only[oZ] at *;omega)|refine s2 rfl fun _ _hb=>?_ |(refine sC rfl (specAutomatonValid_ok p) ?_;intro _ _hb)|refine s3 rfl ?_ ?_<;>rintro rfl|refine aU rfl ?_|refine lexE ?_|refine rE (by kernel_rfl) ?_|(refine aC rfl ?_ ?_<;>rintro ⟨⟩)|refine aK ?_|refine aE ?_|refine aB ?_|refine AWp.ret ⟨_,rfl,?_⟩)
  all_goals first
    | (show E.o _=E.o _;congr;grind)
    | (exfalso;simp at *;done)
theorem askTeacherK_ok (t:Tea) (hk:t.kn=true) (w:W) (hl:w.length≤1099511627776):Pure Tryz.prog TB 99 [eTea t,eT w] (eB (accA t.p w)):=by
  obtain ⟨kn,p,s,q,al⟩:=t
  dsimp only at hk
  subst hk
  have h1:=acceptsWord_ok (TB:=TB) p w hl
  refine eN Tryz.func99 rfl (by kernel_rfl) rfl ?_;intro Γ hΓ
  (repeat' first|refine sN rfl ?_|((first|refine sA rfl ?_ ?_|refine s4 rfl ‹_› rfl ?_ ?_);first|exact tI|omega|simp only[oZ] at *;omega)|refine s2 rfl fun _ _hb=>?_ |refine sP rfl (h1) rfl ?_|refine s3 rfl ?_ ?_<;>rintro rfl|refine aU rfl ?_|refine lexE ?_|refine rE (by kernel_rfl) ?_|(refine aC rfl ?_ ?_<;>rintro ⟨⟩)|refine aK ?_|refine aE ?_|refine aB ?_|refine AWp.ret ⟨_,rfl,?_⟩)
  all_goals rfl
end Go.Am
