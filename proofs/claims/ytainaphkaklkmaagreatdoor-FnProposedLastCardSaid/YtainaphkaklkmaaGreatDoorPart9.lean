/-
  What a call hands back: each result a slot or a cell, of the call's own or laid down for good.
-/
import Derived.Test.YtainaphkaklkmaaGreatDoorPart8
import Derived.Test.YtainaphkaklkmaaGreatDoorPart6
import Derived.Test.YtainaphkaklkmaaGreatDoorPart7
set_option linter.constructorNameAsVariable false
set_option linter.unusedSimpArgs false
set_option linter.unusedVariables false
namespace Go.Am
open Go
set_option linter.unusedVariables false
def xE1:Bool×List C→Option E
  | (false,[c])=>some (.o c)
  | (true,cs)=>some (.a cs)
  | _=>none
def cellO (f:Env) (σ:Store) (t:Tmp) (ag:Bool) (n:Nat):Option (Bool×List C):=match f t with
  | some (.o (.d (.p cs)))=>match Nat.ble n cs.length with
    | true=>some (ag,(cs.take n).map .d)
    | false=>none
  | some (.o (.ptr id k i j))=>match look σ id with
    | some (.cells _ k' rows)=>match Nat.beq k k',nth rows i with
      | true,some r=>match Nat.ble (j+n) r.length with
        | true=>some (ag,(r.drop j).take n)
        | false=>none
      | _,_=>none
    | _=>none
  | _=>none
def resC (T:List (Nat×TI)) (f:Env) (σ:Store):ResultVar→Option (Bool×List C)
  | .tmp t=>match f t with
    | some e=>oneT e
    | none=>none
  | .cell t T'=>match (tyi T T').ld with
    | some (true,n)=>cellO f σ t true n
    | some (false,1)=>cellO f σ t false 1
    | _=>none
def resL (T:List (Nat×TI)) (f:Env) (σ:Store):List ResultVar→Option (List (Bool×List C))
  | []=>some []
  | r::rs=>match resC T f σ r,resL T f σ rs with
    | some x,some xs=>some (x::xs)
    | _,_=>none
def resG (T:List (Nat×TI)) (rs:Array ResultVar) (f:Env) (σ:Store):Option E:=match rs.toList with
  | []=>some (.t [])
  | [r]=>match resC T f σ r with
    | some x=>xE1 x
    | none=>none
  | rs=>match rs.length,resL T f σ rs with
    | 2,some xs=>some (.t xs)
    | 3,some xs=>some (.t xs)
    | 4,some xs=>some (.t xs)
    | _,_=>none
def RetQG (T:List (Nat×TI)) (rs:Array ResultVar) (post:E→Store→Nat→Prop):Exit→Env→Store→Nat→Prop
  | .ret,f,σ,nx|.normal,f,σ,nx=>∃x,resG T rs f σ=some x∧post x σ nx
  | _,_,_,_=>False
section
variable {P:Program} {TB:Amb} {Γ:Ctx} {σ:Store}
theorem cellO_run {V:View} {f:Env} {a:Act} {t:Tmp} {T':TypeId} {ag:Bool} {n:Nat} {x:Bool×List C} (hi:Inv TB Γ V σ) (hl:HasLd P T' ag n) (h1n:ag=false→n=1) (hE:EnvRel V f a.tmps) (h:cellO f σ t ag n=some x) :
    ∃v,((do loadVar T' (←asAddr (a.tmps.getD t undef))):Sem Value).run P V.w=.ok v V.w∧TRel V x v:=by
  have key : ∃ (b o:Nat) (cs:List C) (vs:Nat→Value),a.tmps.getD t undef=.pointer (some ⟨b,o,none⟩)∧x=(ag,cs)∧cs.length=n∧∀(q:Nat) (c:C),cs[q]? = some c→V.w.cell? ⟨b,o+q,none⟩=some (vs q)∧CRel V c (vs q):=by
    unfold cellO at h
    split at h
    · rename_i ds hf
      split at h
      · rename_i hn
        have hn:=Nat.le_of_ble_eq_true hn
        injection h with h
        subst h
        have h3:CRel V (.d (.p ds)) (a.tmps.getD t undef):=hE t _ hf
        generalize a.tmps.getD t undef=v0 at h3
        obtain ⟨h3⟩:=h3
        cases h3 with
        | @p _ b o vs hb h1 h2=>
          refine ⟨b,o,_,vs,rfl,rfl,by simp;omega,fun q c hq=>?_⟩
          rw [List.getElem?_map,Option.map_eq_some_iff] at hq
          obtain ⟨dd,hd,rfl⟩:=hq
          rw [List.getElem?_take] at hd
          split at hd
          · exact ⟨h1 q dd hd,.d (h2 q dd hd)⟩
          · cases hd
      · cases h
    · rename_i id k i j hf
      split at h
      · rename_i T0 k' rows ho
        split at h
        · rename_i r hk hr
          have hk:=Nat.eq_of_beq_eq_true hk
          subst hk
          split at h
          · rename_i hn
            have hn:=Nat.le_of_ble_eq_true hn
            injection h with h
            subst h
            rw [nth_get] at hr
            have h3:CRel V (.ptr id k i j) (a.tmps.getD t undef):=hE t _ hf
            generalize a.tmps.getD t undef=v0 at h3
            cases h3 with
            | ptr hid hnl=>
              rcases hi.st.obj id _ ho with ⟨h4,_⟩|⟨_,cur,h4,h5,h6,h7,h8,h9⟩
              · exact absurd h4 hnl
              · refine ⟨V.ρ id,i*k+j,_,fun q=>cur.getD (i*k+j+q) undef,rfl,rfl,by simp;omega,fun q c hq=>?_⟩
                rw [List.getElem?_take] at hq
                split at hq
                · rw [List.getElem?_drop] at hq
                  obtain ⟨v,h10,h11⟩:=h9 i r (j+q) c hr hq
                  rw [←Nat.add_assoc] at h10
                  have e:cur.getD (i*k+j+q) undef=v:=by simp [h10]
                  dsimp only
                  rw [e]
                  exact ⟨by simp [World.cell?,h4,h10],h11⟩
                · cases hq
          · cases h
        · cases h
      · cases h
    · cases h
  obtain ⟨b,o,cs,vs,hv,rfl,hlen,hc⟩:=key
  rw [hv]
  cases ag with
  | false=>
    have hn1:=h1n rfl
    subst hn1
    match cs,hlen with
    | [c],_=>
      obtain ⟨h1,h2⟩:=hc 0 c rfl
      refine ⟨vs 0,?_,c,rfl,h2⟩
      rw [Nat.add_zero] at h1
      simp [asAddr,loadVar,(run_isAgg hl.out V.w).1,h1,go_sem]
  | true =>
    refine ⟨.agg ((List.range n).map fun q=>vs q).toArray,?_,_,rfl,by simp [hlen],fun j c v hj hvv=>?_⟩
    · have:(loadCells ⟨b,o,none⟩ n).run P V.w=.ok ((List.range n).map fun q=>vs q).toArray V.w:=run_loadCells V.w _ n _ fun q hq=>by
        rw [addr_add]
        exact (hc q cs[q] (List.getElem?_eq_getElem (by omega))).1
      unfold loadCells at this
      simp [asAddr,loadVar,(run_isAgg hl.out V.w).1,(run_isAgg hl.out V.w).2,this,go_sem]
    · have hq:j < n:=by have:=(List.getElem?_eq_some_iff.1 hj).1;omega
      have:v=vs j:=by simpa [hq] using hvv.symm
      subst this
      exact (hc j c hj).2
theorem resC_run [hT:HasT P] {V:View} {f:Env} {a:Act} {r:ResultVar} {x:Bool×List C} (hi:Inv TB Γ V σ) (hE:EnvRel V f a.tmps) (h:resC hT.T f σ r=some x) :
    ∃v,((match r with
      | .tmp t=>pure (a.tmps.getD t undef)
      | .cell b t=>do loadVar t (←asAddr (a.tmps.getD b undef))):Sem Value).run P V.w=.ok v V.w∧TRel V x v:=by
  have hty:=fun t=>tyi_ok (P:=P) t hT.ok
  unfold resC at h
  split at h
  · rename_i t
    split at h
    · rename_i e he
      exact ⟨_,by simp [go_sem],oneT_rel h (hE t e he)⟩
    · cases h
  · rename_i t T'
    split at h
    · rename_i n hl
      exact cellO_run hi ((hty T').hasLd hl) (fun h=>(by cases h)) hE h
    · rename_i hl
      exact cellO_run hi ((hty T').hasLd hl) (fun _=>rfl) hE h
    · cases h
theorem xE1_rel {V:View} {x:Bool×List C} {e:E} {v:Value} (h:xE1 x=some e) (hr:TRel V x v):ERel V e v:=by
  unfold xE1 at h
  split at h
  · injection h with h;subst h
    obtain ⟨c,h1,h2⟩:=hr
    simp at h1;subst h1;exact h2
  · injection h with h;subst h;exact hr
  · cases h
theorem resG_run [hT:HasT P] {fn:Func} {V:View} {f:Env} {a:Act} {x:E} (hi:Inv TB Γ V σ) (hE:EnvRel V f a.tmps) (h:resG hT.T fn.results f σ=some x):∃v,(results fn a.tmps).run P V.w=.ok v V.w∧ERel V x v:=by
  obtain ⟨F,hF,hFr⟩:∃F:ResultVar→Sem Value,results fn a.tmps=(do let vs ←fn.results.mapM F;pure (if h:vs.size=1 then vs[0] else .tuple vs))∧∀r x,resC hT.T f σ r=some x→∃v,(F r).run P V.w=.ok v V.w∧TRel V x v:=
    ⟨fun r=>match r with
      | .tmp t=>pure (a.tmps.getD t undef)
      | .cell b t=>do loadVar t (←asAddr (a.tmps.getD b undef)),rfl,fun r x hr=>resC_run hi hE hr⟩
  have two:∀ {r:ResultVar} {rs:List ResultVar} {xs:List (Bool×List C)},resL hT.T f σ (r::rs)=some xs→∃y ys,xs=y::ys∧resC hT.T f σ r=some y∧resL hT.T f σ rs=some ys:=by
    intro r rs xs h
    unfold resL at h
    split at h
    · rename_i y ys h1 h2
      injection h with h;subst h;exact ⟨y,ys,rfl,h1,h2⟩
    · cases h
  have nil:∀ {xs:List (Bool×List C)},resL hT.T f σ []=some xs→xs=[]:=fun h=>by injection h with h;exact h.symm
  have key:∀l:List ResultVar,fn.results=l.toArray→resG hT.T l.toArray f σ=some x→∃v,(results fn a.tmps).run P V.w=.ok v V.w∧ERel V x v:=by
    intro l hll h
    rw [hF,hll]
    unfold resG at h
    simp only at h
    match l with
    | []=>
      injection h with h;subst h
      exact ⟨.tuple #[],by simp [go_sem],#[],rfl,rfl,fun j x v hj=>by simp at hj⟩
    | [r]=>
      simp only at h
      split at h
      · rename_i y hy
        obtain ⟨v,h1,h2⟩:=hFr r y hy
        exact ⟨v,by simp [h1,go_sem],xE1_rel h h2⟩
      · cases h
    | [r1,r2]=>
      simp only [List.length_cons,List.length_nil] at h
      split at h
      · rename_i xs _ hx
        injection h with h;subst h
        obtain ⟨y1,ys,rfl,h1,hx⟩:=two hx
        obtain ⟨y2,ys,rfl,h2,hx⟩:=two hx
        have:=nil hx;subst this
        obtain ⟨v1,e1,t1⟩:=hFr _ _ h1
        obtain ⟨v2,e2,t2⟩:=hFr _ _ h2
        refine ⟨.tuple #[v1,v2],by simp [e1,e2,go_sem],_,rfl,rfl,fun j x v' hj hv=>?_⟩
        match j with
        | 0=>simp at hj hv;subst hj;subst hv;exact t1
        | 1=>simp at hj hv;subst hj;subst hv;exact t2
        | j+2=>simp at hj
      · omega
      · omega
      · cases h
    | [r1,r2,r3]=>
      simp only [List.length_cons,List.length_nil] at h
      split at h
      · omega
      · rename_i xs _ hx
        injection h with h;subst h
        obtain ⟨y1,ys,rfl,h1,hx⟩:=two hx
        obtain ⟨y2,ys,rfl,h2,hx⟩:=two hx
        obtain ⟨y3,ys,rfl,h3,hx⟩:=two hx
        have:=nil hx;subst this
        obtain ⟨v1,e1,t1⟩:=hFr _ _ h1
        obtain ⟨v2,e2,t2⟩:=hFr _ _ h2
        obtain ⟨v3,e3,t3⟩:=hFr _ _ h3
        refine ⟨.tuple #[v1,v2,v3],by simp [e1,e2,e3,go_sem],_,rfl,rfl,fun j x v' hj hv=>?_⟩
        match j with
        | 0=>simp at hj hv;subst hj;subst hv;exact t1
        | 1=>simp at hj hv;subst hj;subst hv;exact t2
        | 2=>simp at hj hv;subst hj;subst hv;exact t3
        | j+3=>simp at hj
      · omega
      · cases h
    | [r1,r2,r3,r4]=>
      simp only [List.length_cons,List.length_nil] at h
      split at h
      · omega
      · omega
      · rename_i xs _ hx
        injection h with h;subst h
        obtain ⟨y1,ys,rfl,h1,hx⟩:=two hx
        obtain ⟨y2,ys,rfl,h2,hx⟩:=two hx
        obtain ⟨y3,ys,rfl,h3,hx⟩:=two hx
        obtain ⟨y4,ys,rfl,h4,hx⟩:=two hx
        have:=nil hx;subst this
        obtain ⟨v1,e1,t1⟩:=hFr _ _ h1
        obtain ⟨v2,e2,t2⟩:=hFr _ _ h2
        obtain ⟨v3,e3,t3⟩:=hFr _ _ h3
        obtain ⟨v4,e4,t4⟩:=hFr _ _ h4
        refine ⟨.tuple #[v1,v2,v3,v4],by simp [e1,e2,e3,e4,go_sem],_,rfl,rfl,fun j x v' hj hv=>?_⟩
        match j with
        | 0=>simp at hj hv;subst hj;subst hv;exact t1
        | 1=>simp at hj hv;subst hj;subst hv;exact t2
        | 2=>simp at hj hv;subst hj;subst hv;exact t3
        | 3=>simp at hj hv;subst hj;subst hv;exact t4
        | j+4=>simp at hj
      · cases h
    | _::_::_::_::_::_=>
      simp only [List.length_cons] at h
      cases h
  exact key fn.results.toList (by simp) (by simpa using h)
theorem SpecK.ofG [hT:HasT P] {g:FuncId} {fn:Func} {c:Code} {m:Nat} {σ:Store} {nx:Nat} {args:List E} {post:E→Store→Nat→Prop} (hm:m≤nx) (hf:P.funcs[g]? = some fn) (hb:fn.body=some c) (hname:(fn.name == "runtime.NumGoroutine")=false)
    (hargs:args.length≤fn.ntmps) (h:∀Γ:Ctx,Γ.V.nx=m→AWp P TB Γ fn.ntmps c (RetQG hT.T fn.results post) (look (argsFrom 0 args)) σ nx):SpecK P TB g m σ nx args post:=by
  refine ⟨⟨fn,hf,hname,by rw [hb];rfl⟩,?_⟩
  intro V vs S hg ha
  refine calls_of_wp hf hb ?_
  have hs:vs.size≤fn.ntmps:=by rw [ha.1];exact hargs
  have hi:Inv TB (ctxB V (lowV V m) σ S) V σ:=
    ⟨rfl,rfl,rfl,fun _ _ _=>rfl,hg.iLt,fun _ h=>.inl h,low_ext (by rw [hg.nx];exact hm),hg.st,fun id o ho hnl b hb=>.inr (.inl ⟨id,o,ho,hnl,hb⟩),hg.tabs,⟨S,hg.hid,fun b hb=>.inl hb,fun b hb=>.inr (.inr hb)⟩⟩
  have hr:RelSt TB (ctxB V (lowV V m) σ S) fn.ntmps V (look (argsFrom 0 args)) σ nx { tmps:=vs++Array.replicate (fn.ntmps - vs.size) undef,defers:=[] } := by
    refine ⟨?_,?_,by simp;omega,hi,hg.nx,rfl⟩
    · intro t e he
      obtain ⟨_,h2⟩:=argsFrom_look args 0 t e he
      have h2:args[t]? = some e:=by simpa using h2
      have hlt:t < vs.size:=by rw [ha.1];exact (List.getElem?_eq_some_iff.1 h2).1
      have h3:=ha.2 t e vs[t] h2 (Array.getElem?_eq_getElem hlt)
      simpa [Array.getElem?_append_left hlt,hlt] using h3
    · intro t e he
      obtain ⟨_,h2⟩:=argsFrom_look args 0 t e he
      have h2:args[t]? = some e:=by simpa using h2
      have:=(List.getElem?_eq_some_iff.1 h2).1
      omega
  refine wp_mono (h (ctxB V (lowV V m) σ S) rfl V _ hr) ?_
  rintro e a' w' ⟨V',f',σ',rfl,hq,hr'⟩
  have fin:(∃x,resG hT.T fn.results f' σ'=some x∧post x σ' V'.nx)→a'.defers=[]∧∃v,(results fn a'.tmps).run P V'.w=.ok v V'.w∧∃V'' v' x σ'',Ending.returned v=.returned v'∧V''.w=V'.w∧Inv TB (ctxB V (lowV V m) σ S) V'' σ''∧ERel V'' x v'∧post x σ'' V''.nx:=by
    rintro ⟨x,hx,hp⟩
    obtain ⟨v,hv,he⟩:=resG_run (P:=P) hr'.inv hr'.env hx
    exact ⟨hr'.defers,v,hv,V',v,x,σ',rfl,rfl,hr'.inv,he,hp⟩
  cases e with
  | normal=>exact fin hq
  | ret=>exact fin hq
  | exit id=>exact hq.elim
  | goto l=>exact hq.elim
  | panic ch=>exact hq.elim
  | outgrown=>exact hq.elim
end
end Go.Am
namespace Go.Am
open Go
set_option linter.unusedVariables false
section
variable {P:Program} {TB:Amb} {Γ:Ctx} {d:Option Tmp} {ty:TypeId} {pos:String} {af:Array Edge} {g:Option (Nat×Bool)} {f:Env} {σ:Store} {nx:Nat}
variable {K:E→Store→Nat→Prop}
theorem q_empty {t e:TypeId} {k b:Nat} {z:List Value} [hl:HasSl P t e k b] [hz:HasZe P e z] (hzk:z.length=k) (hok:z.all zOk=true):QOp P TB Γ ⟨d,.buildSlice t 0 #[],ty,pos,af,g⟩ f σ nx .e:=
  q_of_runI fun V ρ h1 h2=>by
    obtain ⟨cur,h3,h4,h5⟩:=run_sliceLit (es:=[]) hl.out hz.out hzk hok h1 rfl rfl rfl rfl (by simp) (by simp)
    have hw:∀b,b < V.w.heap.size→(V.w.alloc (.cells cur e)).heap[b]? = V.w.heap[b]?:=fun b hb=>heap_push_old V.w _ b hb
    obtain ⟨hi,he⟩:=R.Inv.grow h2 (w:=V.w.alloc (.cells cur e)) rfl rfl rfl (by simp) hw
    exact ⟨_,{ V with w:=V.w.alloc (.cells cur e) },h3,he,hi,rfl,⟨_,rfl⟩⟩
theorem n_appendE {t e:TypeId} {k b:Nat} {z:List Value} {s x:Operand} {news:List (List C)} {ex:E} [hl:HasSl P t e k b] [hz:HasZe P e z]
    (hs:ev f s=some .e) (hx:ev f x=some ex) (hsrc:srcRows σ k ex=some news) (hkk:∀r∈news,r.length=k) (hzk:z.length=k) (hb0:0 < b) (hb:news.length*b≤140737488355328)
    (hK0:news=[]→K .e σ nx) (hK:news≠[]→K (.o (.arr nx k 0 news.length)) ((nx,.cells e k news)::σ) (nx+1)):AOp P TB Γ ⟨d,.call ⟨.builtin .append,#[s,x],#[t,t]⟩,ty,pos,af,g⟩ f σ nx K:=
  n_of_run fun V ρ h1 h2 h3=>by
    subst h3
    obtain ⟨i,hu,hi,hsz,hby⟩:=sl_inv hl.out
    have hz':=hz.out
    simp only [zeF,hi,Option.bind_some,Option.map_eq_some_iff] at hz'
    obtain ⟨zv,hzv,hzz⟩:=hz'
    have hzc:zv.cells.size=k:=by rw [←hzk,←hzz];simp
    obtain ⟨sb,hsv⟩:=h1.get (x:=s) (by simp [Op.operands,Call.operands]) hs
    have hxr:=src_rel h2 hsrc hkk (h1.get (x:=x) (by simp [Op.operands,Call.operands]) hx)
    have hexec:∀w,(execOp ρ ⟨d,.call ⟨.builtin .append,#[s,x],#[t,t]⟩,ty,pos,af,g⟩).run P w=((Builtin.append_ #[t,t] ty #[ρ s,ρ x]).run P w).andThen fun v w'=>.ok (.value v) w':=fun w=>by
      simp only [execOp,resolve,invoke,builtin,List.map_toArray,List.map_cons,List.map_nil,pure_bind,bind_pure_comp,Sem.run_map]
    have hmax:news.length≤maxLen:=by
      have:news.length≤news.length*b:=Nat.le_mul_of_pos_right _ hb0
      unfold maxLen;omega
    have hint:((news.length:Nat):Int)≤9223372036854775807:=by
      have:news.length≤news.length*b:=Nat.le_mul_of_pos_right _ hb0
      omega
    rw [hsv] at hexec
    generalize hvx:ρ x=vx at *
    have nothing:news=[]→∀v,(Builtin.append_ #[t,t] ty #[.slice sb 0 0,vx]).run P V.w=.ok (.slice sb 0 0) V.w→v=Value.slice sb 0 0→
        ∃v V' xx σ',(execOp ρ ⟨d,.call ⟨.builtin .append,#[s,x],#[t,t]⟩,ty,pos,af,g⟩).run P V.w=.ok (.value v) V'.w∧Ext V V'∧Inv TB Γ V' σ'∧ERel V' xx v∧K xx σ' V'.nx:=fun hn v hr _=>
      ⟨.slice sb 0 0,V,.e,σ,by rw [hexec,hr];rfl,Ext.refl _,h2,⟨_,rfl⟩,hK0 hn⟩
    rcases hxr with ⟨rfl,hnil⟩|⟨xa,xc,xv,rfl,hxk,hxcell⟩
    · exact nothing hnil _ (run_append_noth hu hi V.w sb 0 0 (Nat.le_refl _) ty) rfl
    · have hnewsl:(flatV news.length k xv).length=news.length*i.size:=by rw [flatV_length,hsz]
      have hnewsc:∀j u,(flatV news.length k xv)[j]? = some u→V.w.cell? (xa.add j)=some u:=by
        intro q u hq
        obtain ⟨a,b,rfl,ha,hb,rfl⟩:=flatV_inv hq
        have hbl:b < news[a].length:=by rw [hxk _ (List.getElem_mem ha)];exact hb
        exact (hxcell a news[a] b news[a][b] (List.getElem?_eq_getElem ha) (List.getElem?_eq_getElem hbl)).1
      rcases Nat.eq_zero_or_pos news.length with hm0|hm0
      · have hnn:news=[]:=List.length_eq_zero_iff.1 hm0
        refine nothing hnn _ ?_ rfl
        subst hnn
        cases sb<;>simp [Builtin.append_,run_underlying hu,sizeOf,typeInfo,hi,Builtin.lenOf,Builtin.firstCells,loadCells,loadCellsFrom,storeCells,go_sem]
      · have hne:news≠[]:=fun h=>by subst h;simp at hm0
        have hrun:(Builtin.append_ #[t,t] ty #[.slice sb 0 0,.slice (some xa) news.length xc]).run P V.w=.ok (.slice (some ⟨V.w.heap.size,0,none⟩) news.length (grownCap V.w news.length 0 e))
            (V.w.drew.alloc (.cells ((flatV news.length k xv).toArray++Builtin.zeroCells zv.cells (grownCap V.w news.length 0 e - news.length)) e)):=by
          cases sb with
          | none=>
            have hr:=run_append_nil (P:=P) V.w t ty e i zv hu hi hzv xa news.length xc _ hnewsl hnewsc hm0 (by omega) (by rw [hby];omega)
            rw [hr]
          | some sa=>
            have hr:=run_append_grow (P:=P) V.w t ty e i zv hu hi hzv sa 0 0 [] (by simp) (fun j v hj=>by simp at hj) xa news.length xc _ hnewsl hnewsc (by omega) (by simpa using hint) (by rw [hby];exact growslice_fits (by omega) (by simpa using hb))
            simpa using hr
        have hcap:=grownCap_ge V.w news.length 0 e
        have hcm:=grownCap_le_maxLen V.w news.length 0 e hmax
        generalize grownCap V.w news.length 0 e=cap' at *
        let w':=V.w.drew.alloc (.cells ((flatV news.length k xv).toArray++Builtin.zeroCells zv.cells (cap' - news.length)) e)
        have ee:Ext V (newV V V.w.heap.size cap' False w'):=newV_ext (by simp [w']) fun b hb=>heap_push_old V.w.drew _ b (h2.iLt b hb)
        obtain ⟨hi',he'⟩:=h2.alloc (c:=cap') (nl:=False) (w:=w') (ob:=.cells e k news) rfl rfl rfl rfl (by simp [w']) (fun b hb=>heap_push_old V.w.drew _ b hb) (by
          have hr:(newV V V.w.heap.size cap' False w').ρ V.nx=V.w.heap.size:=by simp [newV]
          have hc:(newV V V.w.heap.size cap' False w').cap V.nx=cap':=by simp [newV]
          refine .inr ⟨by simp [newV],(flatV news.length k xv).toArray++Builtin.zeroCells zv.cells (cap' - news.length),?_,?_,?_,?_,hkk,?_⟩
          · have:=heap_push_new V.w.drew (.cells ((flatV news.length k xv).toArray++Builtin.zeroCells zv.cells (cap' - news.length)) e)
            rw [hr];exact this
          · rw [hc]
            simp only [Array.size_append,List.size_toArray,flatV_length,Builtin.zeroCells,Array.size_map,Array.size_range,hzc,←Nat.add_mul]
            congr 1;omega
          · rw [hc];exact hcap
          · rw [hc];exact hcm
          · intro a r j c hi hj
            have hil:=(List.getElem?_eq_some_iff.1 hi).1
            have hjl:j < k:=by rw [←hxk r (List.mem_of_getElem? hi)];exact (List.getElem?_eq_some_iff.1 hj).1
            have h10:=flatV_get (vs:=xv) hil hjl
            refine ⟨xv a j,?_,(hxcell a r j c hi hj).2.ext ee⟩
            have hlt:=(List.getElem?_eq_some_iff.1 h10).1
            rw [Array.getElem?_append_left (by simpa using hlt)]
            simpa using h10)
        refine ⟨.slice (some ⟨V.w.heap.size,0,none⟩) news.length cap',_,_,(V.nx,.cells e k news)::σ,?_,he',hi',?_,hK hne⟩
        · rw [hexec,hrun];rfl
        · have:=@CRel.arr (newV V V.w.heap.size cap' False w') V.nx k 0 news.length (by simp [newV]) (by simp [newV]) (by simp [newV];exact hcap)
          have hr:(newV V V.w.heap.size cap' False w').ρ V.nx=V.w.heap.size:=by simp [newV]
          have hc:(newV V V.w.heap.size cap' False w').cap V.nx=cap':=by simp [newV]
          rw [hr,hc,Nat.zero_mul,Nat.sub_zero] at this
          exact this
end
section
variable {P:Program} {TB:Amb} {Γ:Ctx} {N:Nat}
theorem AWp.namesV {c:Code} {Q:Exit→Env→Store→Nat→Prop} {L0 Lk:List (Nat×E)} {σ Sk:Store} {nx:Nat} (ks is:List Nat) (hk:keepE L0 ks=some Lk) (hi:keepS σ is=some Sk) (v:List (Nat×E)) (s:Store) (l:List Nat)
    (hl:(∀i,i < Γ.V.nx→l[i]? = some i)∧l.Nodup) (h0:EnvSub (nm l nx) (look L0) (v++Lk)∧StoreSub (nm l nx) σ (s++Sk)) (h:AWp P TB Γ N c Q (look (v++Lk)) (s++Sk) l.length):AWp P TB Γ N c Q (look L0) σ nx:=
  AWp.names l (v++Lk) (s++Sk) hl.1 hl.2 h0.1 h0.2 h
end
end Go.Am
namespace Go.Am
open Go
section
variable {P:Program} {TB:Amb} {Γ:Ctx} {d:Option Tmp} {ty:TypeId} {pos:String} {af:Array Edge} {g:Option (Nat×Bool)} {f:Env} {σ:Store} {nx:Nat}
end
end Go.Am
namespace Go.Am
open Go
section
variable {P:Program} {TB:Amb} {Γ:Ctx} {d:Option Tmp} {ty:TypeId} {pos:String} {af:Array Edge} {g:Option (Nat×Bool)} {f:Env} {σ:Store} {nx:Nat}
variable {K:E→Store→Nat→Prop}
theorem run_build {t:TypeId} {fl:List (Nat×Nat)} {parts:Array (Nat×Operand)} {ρ:Operand→Value} {V:View} {i:TypeInfo} {zv:Value} {cells:Array Value} (hi:P.info? t=some i) (hzv:i.zero=some zv) (hh:flF P t=some fl)
    (h3:Instr.fill (fl[·]?) zv.cells (parts.toList.map fun (i,x)=>(i,ρ x))=some cells):(Instr.build t (parts.map fun (i,x)=>(i,ρ x))).run P V.w=.ok (.agg cells) V.w:=by
  have hparts:(parts.map fun (i,x)=>(i,ρ x)).toList=parts.toList.map fun (i,x)=>(i,ρ x):=by simp
  unfold flF at hh
  split at hh
  · rename_i fs hu
    have hpl:∀(l:List Field) (ll:List (Nat×Nat)),(l.mapM fun f=>(P.info? f.type).map fun i=>(f.offset,i.size))=some ll→∀w,((l.mapM fun f=>do pure (f.offset,←sizeOf f.type)):Sem (List (Nat×Nat))).run P w=.ok ll w:=by
      intro l
      induction l with
      | nil=>intro ll h w;simp at h;subst h;simp [go_sem]
      | cons y l ih=>
        intro ll h w
        simp only [List.mapM_cons,Option.bind_eq_bind,Option.bind_eq_some_iff,Option.map_eq_some_iff] at h
        obtain ⟨p,⟨ii,hii,rfl⟩,ll',h5,h6⟩:=h
        simp at h6
        subst h6
        have hs:(sizeOf y.type).run P w=.ok ii.size w:=by simp [sizeOf,typeInfo,hii,go_sem]
        have ihh:=ih ll' h5 w
        simp only [bind_pure_comp] at ihh
        simp only [List.mapM_cons,Sem.run_bind,hs,Result.andThen_ok,bind_pure_comp,Sem.run_map,ihh]
    have hpl2:=hpl fs.toList fl hh V.w
    have hz0:(zeroValue t).run P V.w=.ok zv V.w:=by simp [zeroValue,typeInfo,hi,hzv,go_sem]
    have ha:((fs.mapM fun f=>do pure (f.offset,←sizeOf f.type)):Sem (Array (Nat×Nat))).run P V.w=.ok fl.toArray V.w:=by
      rw [Array.mapM_eq_mapM_toList,Sem.run_map,hpl2];rfl
    rw [←hparts] at h3
    simp only [Instr.build,Sem.run_bind,hz0,Result.andThen_ok,run_underlying hu,ha]
    simp only [List.getElem?_toArray]
    rw [h3]
    rfl
  · rename_i n e hu
    simp only [Option.map_eq_some_iff] at hh
    obtain ⟨ii,hii,rfl⟩:=hh
    have hz0:(zeroValue t).run P V.w=.ok zv V.w:=by simp [zeroValue,typeInfo,hi,hzv,go_sem]
    have hs:(sizeOf e).run P V.w=.ok ii.size V.w:=by simp [sizeOf,typeInfo,hii,go_sem]
    have hfill:∀(ps:List (Nat×Value)) (c c':Array Value),Instr.fill (fun i=>((List.range n).map fun j=>(j*ii.size,ii.size))[i]?) c ps=some c'→Instr.fill (fun i=>some (i*ii.size,ii.size)) c ps=some c':=by
      intro ps
      induction ps with
      | nil=>intro c c' h;simpa [Instr.fill] using h
      | cons p ps ih=>
        intro c c' h
        obtain ⟨i',v'⟩:=p
        unfold Instr.fill at h ⊢
        by_cases hlt:i' < n
        · simp only [List.getElem?_map,List.getElem?_range hlt,Option.map_some] at h
          simp only at h ⊢
          split at h
          · cases h
          · rename_i hno
            rw [if_neg hno];exact ih _ _ (by simpa only [List.getElem?_map] using h)
        · simp [hlt] at h
    rw [←hparts] at h3
    simp only [Instr.build,Sem.run_bind,hz0,Result.andThen_ok,run_underlying hu,hs]
    rw [hfill _ _ _ h3]
    rfl
  · cases hh
theorem n_buildN {t:TypeId} {z:List Value} {fl:List (Nat×Nat)} {parts:Array (Nat×Operand)} {es:List E} {qs:List (Nat×List C)} [hz:HasZe P t z] [hf:HasFl P t fl] (p k e:Nat) (hp:z[p]? = some (.slice none 0 0)) (hes:evs f (parts.toList.map (·.2))=some es) (hq:offParts fl parts.toList es=some qs)
    (hok:z.all zOk=true) (hle:(qs.all fun x=>Nat.ble (x.1+x.2.length) z.length)=true) (hK:K (.a (fillC qs ((z.map zC).set p (.arr nx k 0 0)))) ((nx,.cells e k [])::σ) (nx+1)):AOp P TB Γ ⟨d,.build t parts,ty,pos,af,g⟩ f σ nx K:=
  n_of_run fun V ρ h1 h2 h3=>by
    subst h3
    obtain ⟨i,zv,hi,hzv,hzz⟩:=ze_inv hz.out
    obtain ⟨hi2,he2⟩:=h2.alloc (c:=0) (nl:=True) (w:=V.w) (ob:=.cells e k []) rfl rfl rfl rfl (Nat.le_refl _) (fun _ _=>rfl) (.inl ⟨by simp [newV],rfl⟩)
    have hfo:=offParts_fill (V:=newV V V.w.heap.size 0 True V.w) (ρ:=ρ) parts.toList es qs (fun x hx e he=>(h1.get (by simp only [Op.operands];simpa using hx) he).ext he2) hes hq
    have hzr:LRel (newV V V.w.heap.size 0 True V.w) ((z.map zC).set p (.arr V.nx k 0 0)) zv.cells:=by
      refine ⟨by rw [List.length_set,List.length_map,←hzz];simp,fun j c v hj hv=>?_⟩
      have hzj:z[j]? = some v:=by rw [←hzz,Array.getElem?_toList];exact hv
      by_cases hjp:p=j
      · subst hjp
        rw [hp] at hzj
        injection hzj with hzj
        subst hzj
        rw [List.getElem?_set_self (by rw [List.length_map];exact (List.getElem?_eq_some_iff.1 hp).1)] at hj
        injection hj with hj
        subst hj
        exact CRel.nil (by simp [newV]) (by simp [newV])
      · rw [List.getElem?_set_ne hjp,List.getElem?_map,hzj] at hj
        injection hj with hj
        subst hj
        exact zC_rel (List.all_eq_true.1 hok v (List.mem_of_getElem? hzj))
    obtain ⟨cells,h4,h5⟩:=fill_rel _ _ _ _ hfo hzr (fun x hx=>by rw [List.length_set,List.length_map];exact fillC_ok _ _ hle x hx)
    have hb:=run_build (P:=P) (ρ:=ρ) (parts:=parts) (V:=V) hi hzv hf.out h4
    refine ⟨.agg cells,_,_,_,?_,he2,hi2,(show ERel _ (.a _) _ from ⟨cells,rfl,h5⟩),hK⟩
    show ((do let v ←Instr.build t (parts.map fun (i,x)=>(i,ρ x));pure (Next.value v):Sem Next)).run P V.w=_
    simp only [Sem.run_bind,hb,Result.andThen_ok]
    rfl
end
section
variable {P:Program} {TB:Amb}
end
end Go.Am
namespace Go.Am
open Go
section
variable {P:Program} {TB:Amb} {Γ:Ctx} {d:Option Tmp} {ty:TypeId} {pos:String} {af:Array Edge} {g:Option (Nat×Bool)} {f:Env} {σ:Store} {nx:Nat}
variable {K:E→Store→Nat→Prop}
theorem n_buildN2 {t:TypeId} {z:List Value} {fl:List (Nat×Nat)} {parts:Array (Nat×Operand)} {es:List E} {qs:List (Nat×List C)} [hz:HasZe P t z] [hf:HasFl P t fl] (p k e q k' e':Nat) (hp:z[p]? = some (.slice none 0 0)) (hp':z[q]? = some (.slice none 0 0)) (hpq:p≠q) (hes:evs f (parts.toList.map (·.2))=some es) (hq:offParts fl parts.toList es=some qs)
    (hok:z.all zOk=true) (hle:(qs.all fun x=>Nat.ble (x.1+x.2.length) z.length)=true) (hK:K (.a (fillC qs (((z.map zC).set p (.arr nx k 0 0)).set q (.arr (nx+1) k' 0 0)))) ((nx+1,.cells e' k' [])::(nx,.cells e k [])::σ) (nx+2)):AOp P TB Γ ⟨d,.build t parts,ty,pos,af,g⟩ f σ nx K:=
  n_of_run fun V ρ h1 h2 h3=>by
    subst h3
    obtain ⟨i,zv,hi,hzv,hzz⟩:=ze_inv hz.out
    obtain ⟨hi1,he1⟩:=h2.alloc (c:=0) (nl:=True) (w:=V.w) (ob:=.cells e k []) rfl rfl rfl rfl (Nat.le_refl _) (fun _ _=>rfl) (.inl ⟨by simp [newV],rfl⟩)
    obtain ⟨hi2,he2⟩:=hi1.alloc (c:=0) (nl:=True) (w:=V.w) (ob:=.cells e' k' []) rfl rfl rfl rfl (Nat.le_refl _) (fun _ _=>rfl) (.inl ⟨by simp [newV],rfl⟩)
    have he3:=he1.trans he2
    have hfo:=offParts_fill (V:=newV (newV V V.w.heap.size 0 True V.w) V.w.heap.size 0 True V.w) (ρ:=ρ) parts.toList es qs (fun x hx e he=>(h1.get (by simp only [Op.operands];simpa using hx) he).ext he3) hes hq
    have hzr:LRel (newV (newV V V.w.heap.size 0 True V.w) V.w.heap.size 0 True V.w) (((z.map zC).set p (.arr V.nx k 0 0)).set q (.arr (V.nx+1) k' 0 0)) zv.cells:=by
      refine ⟨by rw [List.length_set,List.length_set,List.length_map,←hzz];simp,fun j c v hj hv=>?_⟩
      have hzj:z[j]? = some v:=by rw [←hzz,Array.getElem?_toList];exact hv
      by_cases hjq:q=j
      · subst hjq
        rw [hp'] at hzj
        injection hzj with hzj
        subst hzj
        rw [List.getElem?_set_self (by rw [List.length_set,List.length_map];exact (List.getElem?_eq_some_iff.1 hp').1)] at hj
        injection hj with hj
        subst hj
        exact CRel.nil (by simp [newV]) (by simp [newV])
      · rw [List.getElem?_set_ne hjq] at hj
        by_cases hjp:p=j
        · subst hjp
          rw [hp] at hzj
          injection hzj with hzj
          subst hzj
          rw [List.getElem?_set_self (by rw [List.length_map];exact (List.getElem?_eq_some_iff.1 hp).1)] at hj
          injection hj with hj
          subst hj
          exact CRel.nil (by simp [newV];omega) (by simp [newV])
        · rw [List.getElem?_set_ne hjp,List.getElem?_map,hzj] at hj
          injection hj with hj
          subst hj
          exact zC_rel (List.all_eq_true.1 hok v (List.mem_of_getElem? hzj))
    obtain ⟨cells,h4,h5⟩:=fill_rel _ _ _ _ hfo hzr (fun x hx=>by rw [List.length_set,List.length_set,List.length_map];exact fillC_ok _ _ hle x hx)
    have hb:=run_build (P:=P) (ρ:=ρ) (parts:=parts) (V:=V) hi hzv hf.out h4
    refine ⟨.agg cells,_,_,_,?_,he3,hi2,(show ERel _ (.a _) _ from ⟨cells,rfl,h5⟩),hK⟩
    show ((do let v ←Instr.build t (parts.map fun (i,x)=>(i,ρ x));pure (Go.Next.value v):Sem Go.Next)).run P V.w=_
    simp only [Sem.run_bind,hb,Result.andThen_ok]
    rfl
end
end Go.Am
namespace Go.Am
open Go
abbrev Nst:=List (Value×List Int)
def sI (l:Nst):List (Value×List Value):=l.map fun x=>(x.1,x.2.map (.int .i64))
def rawR (l:Nst):List (List C):=l.map fun x=>[.d (.v x.1)]
abbrev ownI (xs:List Int):List (List C):=xs.map iRowC
theorem arr_inv {V:View} {i k off n:Nat} {v:Value} (h:CRel V (.arr i k off n) v):(V.nl i∧off=0∧n=0∧v=.slice none 0 0)∨(¬V.nl i∧off+n≤V.cap i∧v=.slice (some ⟨V.ρ i,off*k,none⟩) n (V.cap i - off)):=by
  cases h with
  | nil _ h=>exact .inl ⟨h,rfl,rfl,rfl⟩
  | arr _ h1 h2=>exact .inr ⟨h1,h2,rfl⟩
theorem sI_app (l m:Nst):sI (l++m)=sI l++sI m:=List.map_append
theorem rawR_app (l m:Nst):rawR (l++m)=rawR l++rawR m:=List.map_append
theorem rawR_len (l:Nst):(rawR l).length=l.length:=List.length_map _
theorem rawR_ren (r:Nat→Nat) (l:Nst):(rawR l).map (C.renL r)=rawR l:=by
  unfold rawR
  rw [List.map_map]
  rfl
theorem ownI_len (l:List Int):(ownI l).length=l.length:=List.length_map _
section
variable {P:Program} {TB:Amb} {Γ:Ctx} {N:Nat} {V:View} {σ:Store} {a i s:Nat} {T Ta:TypeId} {R1 R2:List (List C)} {xs:List Int} {l1 l2:Nst}
theorem sI_mem {l:Nst} {x:Value×List Value} (h:x∈sI l):∃y∈l,x=(y.1,y.2.map (.int .i64)):=by
  obtain ⟨y,hy,rfl⟩:=List.mem_map.1 h
  exact ⟨y,hy,rfl⟩
theorem Inv.put (h:Inv TB Γ V σ) (ha:look σ a=some (.cells Ta 1 (R1++[.arr i 1 0 xs.length]::R2))) (hi:look σ i=some (.cells T 1 (ownI xs))) (hs:look σ s=some (.sld T (sI (l1++l2)))) :
    ∃v,Inv TB Γ V ((a,.cells Ta 1 (R1++[.d (.v v)]::R2))::(s,.sld T (sI (l1++(v,xs)::l2)))::kill i σ):=by
  have has:a≠s:=fun e=>by rw [e,hs] at ha;cases ha
  have his:i≠s:=fun e=>by rw [e,hs] at hi;cases hi
  have hai:a≠i:=fun e=>by
    rw [e,hi] at ha
    injection ha with ha;injection ha with _ _ ha
    have h1:(ownI xs)[R1.length]? = some [.arr i 1 0 xs.length]:=by rw [ha];simp
    rw [List.getElem?_map,Option.map_eq_some_iff] at h1
    obtain ⟨x,_,hx⟩:=h1
    cases hx
  rcases h.st.obj a _ ha with ⟨_,h0⟩|⟨hna,cur,h2,h3,h4,h5,h6,h7⟩
  · simp at h0
  obtain ⟨v,hv,hc⟩:=h7 R1.length [.arr i 1 0 xs.length] 0 (.arr i 1 0 xs.length) (by simp) rfl
  have hc:=arr_inv hc
  have hsl:scal v=true:=by rcases hc with ⟨_,_,_,rfl⟩|⟨_,_,rfl⟩<;>rfl
  have hblk:∀b,blkV v b→¬V.nl i∧b=V.ρ i:=by
    rintro b ⟨o,n,c,rfl⟩
    rcases hc with ⟨_,_,_,hw⟩|⟨hn,_,hw⟩
    · cases hw
    · injection hw with hw;injection hw with hw;injection hw with hw;exact ⟨hn,hw⟩
  have hslot:SlotR V.w T v (xs.map (.int .i64)):=by
    rcases h.st.obj i _ hi with ⟨g1,g2⟩|⟨hni,cur',g2,g3,g4,g5,g6,g7⟩
    · have:xs=[]:=by simpa using g2
      subst this
      rcases hc with ⟨_,_,_,rfl⟩|⟨hn,_⟩
      · exact .inl ⟨rfl,rfl⟩
      · exact absurd g1 hn
    · rcases hc with ⟨hn,_⟩|⟨_,hle,rfl⟩
      · exact absurd hn hni
      · refine .inr ⟨V.ρ i,V.cap i,cur',by simp,g2,by simpa using g3,by rw [ownI_len] at g4;simpa using g4,g5,fun j x hj=>?_⟩
        rw [List.getElem?_map,Option.map_eq_some_iff] at hj
        obtain ⟨n,hn,rfl⟩:=hj
        obtain ⟨w,hw,hcw⟩:=g7 j [.d (.v (.int .i64 n))] 0 (.d (.v (.int .i64 n))) (by simp [ownI,hn]) rfl
        have:w=.int .i64 n:=CRel.val hcw
        subst this
        exact ⟨by simpa using hw,rfl⟩
  refine ⟨v,?_⟩
  have look':∀id o,look ((a,.cells Ta 1 (R1++[.d (.v v)]::R2))::(s,.sld T (sI (l1++(v,xs)::l2)))::kill i σ) id=some o→
      (id=a∧o=.cells Ta 1 (R1++[.d (.v v)]::R2))∨(id=s∧o=.sld T (sI (l1++(v,xs)::l2)))∨(id≠a∧id≠s∧id≠i∧look σ id=some o):=fun id o ho=>by
    rw [look_cons] at ho
    by_cases h1:a=id
    · rw [if_pos h1] at ho;injection ho with ho;exact .inl ⟨h1.symm,ho.symm⟩
    · rw [if_neg h1,look_cons] at ho
      by_cases h2:s=id
      · rw [if_pos h2] at ho;injection ho with ho;exact .inr (.inl ⟨h2.symm,ho.symm⟩)
      · rw [if_neg h2,look_kill] at ho
        by_cases h3:id=i
        · rw [if_pos h3] at ho;cases ho
        · rw [if_neg h3] at ho;exact .inr (.inr ⟨Ne.symm h1,Ne.symm h2,h3,ho⟩)
  have hsb:∀b,blk V s (.sld T (sI (l1++(v,xs)::l2))) b→blk V s (.sld T (sI (l1++l2))) b∨(¬V.nl i∧b=V.ρ i):=by
    rintro b ⟨x,hx,hb⟩
    obtain ⟨y,hy,rfl⟩:=sI_mem hx
    rcases List.mem_append.1 hy with hy|hy
    · exact .inl ⟨_,List.mem_map.2 ⟨y,List.mem_append_left _ hy,rfl⟩,hb⟩
    · rcases List.mem_cons.1 hy with rfl|hy
      · exact .inr (hblk b hb)
      · exact .inl ⟨_,List.mem_map.2 ⟨y,List.mem_append_right _ hy,rfl⟩,hb⟩
  have hos:=h.st.obj s _ hs
  have hdis:∀x∈sI (l1++l2),∀b,blkV x.1 b→¬blkV v b:=fun x hx b hb hb'=>by
    obtain ⟨hn,rfl⟩:=hblk b hb'
    exact h.st.inj s i _ _ hs hi (Ne.symm his) hos.1 hn _ ⟨x,hx,hb⟩ rfl
  have src:∀id o,look ((a,.cells Ta 1 (R1++[.d (.v v)]::R2))::(s,.sld T (sI (l1++(v,xs)::l2)))::kill i σ) id=some o→¬V.nl id→∀b,blk V id o b→∃id0 o0,look σ id0=some o0∧¬V.nl id0∧blk V id0 o0 b∧(id0=id∨id0=i∧id=s):=fun id o ho hn b hb=>by
    rcases look' id o ho with ⟨rfl,rfl⟩|⟨rfl,rfl⟩|⟨_,_,_,ho⟩
    · exact ⟨_,_,ha,hn,hb,.inl rfl⟩
    · rcases hsb b hb with hb|⟨h1,rfl⟩
      · exact ⟨_,_,hs,hn,hb,.inl rfl⟩
      · exact ⟨_,_,hi,h1,rfl,.inr ⟨rfl,rfl⟩⟩
    · exact ⟨_,_,ho,hn,hb,.inl rfl⟩
  have noi:∀id o,look ((a,.cells Ta 1 (R1++[.d (.v v)]::R2))::(s,.sld T (sI (l1++(v,xs)::l2)))::kill i σ) id=some o→id≠i:=fun id o ho=>by
    rcases look' id o ho with ⟨rfl,rfl⟩|⟨rfl,rfl⟩|⟨_,_,h3,_⟩
    · exact hai
    · exact Ne.symm his
    · exact h3
  refine ⟨h.os,h.tape,h.output,h.old,h.iLt,h.iNew,h.ext,⟨fun id o ho=>?_,fun id o ho=>?_,fun id o ho hn b hb=>?_,fun id id' o o' ho ho' hne hn hn' b hb hb'=>?_⟩,fun id o ho hn b hb=>?_,h.tabs,h.hid.same rfl (fun _ h=>h) (fun _ h=>.inl h) fun b ⟨id,o,ho,hn,hb⟩=>let ⟨id0,o0,g1,g2,g3,_⟩:=src id o ho hn b hb;⟨id0,o0,g1,g2,g3⟩⟩
  · rcases look' id o ho with ⟨rfl,rfl⟩|⟨rfl,rfl⟩|⟨_,_,_,ho⟩
    · refine .inr ⟨hna,cur,h2,h3,by simpa using h4,h5,fun r hr=>?_,fun q r j c hq hj=>?_⟩
      · rcases List.mem_append.1 hr with hr|hr
        · exact h6 r (List.mem_append_left _ hr)
        · rcases List.mem_cons.1 hr with rfl|hr
          · rfl
          · exact h6 r (List.mem_append_right _ (List.mem_cons_of_mem _ hr))
      · by_cases hq0:q=R1.length
        · subst hq0
          simp at hq
          subst hq
          have hj0:j=0:=by have:=(List.getElem?_eq_some_iff.1 hj).1;simp at this;omega
          subst hj0
          simp at hj
          subst hj
          exact ⟨v,hv,.d (.v hsl)⟩
        · refine h7 q r j c ?_ hj
          rw [←hq]
          rcases Nat.lt_or_ge q R1.length with h8|h8
          · rw [List.getElem?_append_left h8,List.getElem?_append_left h8]
          · rw [List.getElem?_append_right h8,List.getElem?_append_right h8]
            obtain ⟨k,hk⟩:∃k,q - R1.length=k+1:=⟨q - R1.length - 1,by omega⟩
            rw [hk];rfl
    · refine ⟨hos.1,?_,fun x hx=>?_⟩
      · have hp:=hos.2.1
        rw [sI_app,List.pairwise_append] at hp
        rw [sI_app,List.pairwise_append]
        refine ⟨hp.1,List.pairwise_cons.2 ⟨fun y hy b hb hb'=>hdis y (by rw [sI_app];exact List.mem_append_right _ hy) b hb' hb,hp.2.1⟩,fun x hx y hy=>?_⟩
        rcases List.mem_cons.1 hy with rfl|hy
        · exact fun b hb=>hdis x (by rw [sI_app];exact List.mem_append_left _ hx) b hb
        · exact hp.2.2 x hx y hy
      · obtain ⟨y,hy,rfl⟩:=sI_mem hx
        rcases List.mem_append.1 hy with hy|hy
        · exact hos.2.2 _ (List.mem_map.2 ⟨y,List.mem_append_left _ hy,rfl⟩)
        · rcases List.mem_cons.1 hy with rfl|hy
          · exact hslot
          · exact hos.2.2 _ (List.mem_map.2 ⟨y,List.mem_append_right _ hy,rfl⟩)
    · exact h.st.obj id o ho
  · rcases look' id o ho with ⟨rfl,rfl⟩|⟨rfl,rfl⟩|⟨_,_,_,ho⟩
    · exact h.st.lt _ _ ha
    · exact h.st.lt _ _ hs
    · exact h.st.lt _ _ ho
  · obtain ⟨id0,o0,g1,g2,g3,_⟩:=src id o ho hn b hb
    exact h.st.free _ _ g1 g2 b g3
  · obtain ⟨id0,o0,g1,g2,g3,g4⟩:=src id o ho hn b hb
    obtain ⟨id0',o0',g1',g2',g3',g4'⟩:=src id' o' ho' hn' b hb'
    refine h.st.inj id0 id0' _ _ g1 g1' ?_ g2 g2' b g3 g3'
    have n1:=noi id o ho
    have n2:=noi id' o' ho'
    rintro rfl
    rcases g4 with rfl|⟨rfl,rfl⟩<;>rcases g4' with rfl|⟨e1,rfl⟩
    · exact hne rfl
    · exact n1 e1
    · exact n2 rfl
    · exact hne rfl
  · obtain ⟨id0,o0,g1,g2,g3,_⟩:=src id o ho hn b hb
    exact h.live _ _ g1 g2 b g3
theorem AWp.put {c:Code} {Q:Exit→Env→Store→Nat→Prop} {f:Env} {nx:Nat} (a i s:Nat) (R1 R2:List (List C)) (xs:List Int) (l1 l2:Nst) (ha:look σ a=some (.cells Ta 1 (R1++[.arr i 1 0 xs.length]::R2))) (hi:look σ i=some (.cells T 1 (ownI xs))) (hs:look σ s=some (.sld T (sI (l1++l2))))
    (h:∀v,AWp P TB Γ N c Q f ((a,.cells Ta 1 (R1++[.d (.v v)]::R2))::(s,.sld T (sI (l1++(v,xs)::l2)))::kill i σ) nx):AWp P TB Γ N c Q f σ nx:=by
  intro V ac hr
  obtain ⟨v,hi'⟩:=hr.inv.put ha hi hs
  exact h v V ac ⟨hr.env,hr.lt,hr.size,hi',hr.nx,hr.defers⟩
theorem Inv.take {v:Value} (h:Inv TB Γ V σ) (ha:look σ a=some (.cells Ta 1 (R1++[.d (.v v)]::R2))) (hs:look σ s=some (.sld T (sI (l1++(v,xs)::l2)))) :
    ∃V',V'.w=V.w∧V'.nx=V.nx+1∧Ext V V'∧Inv TB Γ V' ((a,.cells Ta 1 (R1++[.arr V.nx 1 0 xs.length]::R2))::(V.nx,.cells T 1 (ownI xs))::(s,.sld T (sI (l1++l2)))::σ):=by
  have has:a≠s:=fun e=>by rw [e,hs] at ha;cases ha
  have hos:=h.st.obj s _ hs
  have hsn:=h.st.lt _ _ hs
  have han:=h.st.lt _ _ ha
  have hmem:((v,xs.map (.int .i64)):Value×List Value)∈sI (l1++(v,xs)::l2):=List.mem_map.2 ⟨(v,xs),by simp,rfl⟩
  obtain ⟨b0,cap,nl,hb0,hcr,hob⟩:∃b0 cap nl,(¬nl→blkV v b0)∧CRel (newV V b0 cap nl V.w) (.arr V.nx 1 0 xs.length) v∧ObjRel (newV V b0 cap nl V.w) V.nx (.cells T 1 (ownI xs)):=by
    rcases hos.2.2 _ hmem with ⟨h1,h2⟩|⟨b,cap,cur,h1,h2,h3,h4,h5,h6⟩
    · have h1:v=.slice none 0 0:=h1
      have hx0:xs=[]:=by simpa using h2
      subst h1;subst hx0
      exact ⟨0,0,True,fun h=>absurd trivial h,.nil (by simp [newV]) (by simp [newV]),.inl ⟨by simp [newV],rfl⟩⟩
    · have h1:v=.slice (some ⟨b,0,none⟩) (xs.map (Value.int .i64)).length cap:=h1
      rw [List.length_map] at h1 h4
      refine ⟨b,cap,False,fun _=>⟨_,_,_,h1⟩,?_,.inr ⟨by simp [newV],cur,by simpa [newV] using h2,by simpa [newV] using h3,by simpa [newV] using h4,by simpa [newV] using h5,fun r hr=>?_,fun q r j c hq hj=>?_⟩⟩
      · rw [h1]
        have:=@CRel.arr (newV V b cap False V.w) V.nx 1 0 xs.length (by simp [newV]) (by simp [newV]) (by simpa [newV] using h4)
        simpa [newV] using this
      · obtain ⟨n,_,rfl⟩:=List.mem_map.1 hr;rfl
      · rw [List.getElem?_map,Option.map_eq_some_iff] at hq
        obtain ⟨n,hn,rfl⟩:=hq
        have hj0:j=0:=by have:=(List.getElem?_eq_some_iff.1 hj).1;simp at this;omega
        subst hj0
        simp at hj
        subst hj
        exact ⟨.int .i64 n,by simpa using (h6 q (.int .i64 n) (by simp [hn])).1,.d (.v rfl)⟩
  have e:Ext V (newV V b0 cap nl V.w):=newV_ext (Nat.le_refl _) fun _ _=>rfl
  have hρ:(newV V b0 cap nl V.w).ρ V.nx=b0:=by simp [newV]
  have hnl:(newV V b0 cap nl V.w).nl V.nx↔nl:=by simp [newV]
  refine ⟨newV V b0 cap nl V.w,rfl,rfl,e,?_⟩
  have look':∀id o,look ((a,.cells Ta 1 (R1++[.arr V.nx 1 0 xs.length]::R2))::(V.nx,.cells T 1 (ownI xs))::(s,.sld T (sI (l1++l2)))::σ) id=some o→
      (id=a∧o=.cells Ta 1 (R1++[.arr V.nx 1 0 xs.length]::R2))∨(id=V.nx∧o=.cells T 1 (ownI xs))∨(id=s∧o=.sld T (sI (l1++l2)))∨(id≠a∧id≠s∧look σ id=some o):=fun id o ho=>by
    rw [look_cons] at ho
    by_cases h1:a=id
    · rw [if_pos h1] at ho;injection ho with ho;exact .inl ⟨h1.symm,ho.symm⟩
    · rw [if_neg h1,look_cons] at ho
      by_cases h2:V.nx=id
      · rw [if_pos h2] at ho;injection ho with ho;exact .inr (.inl ⟨h2.symm,ho.symm⟩)
      · rw [if_neg h2,look_cons] at ho
        by_cases h3:s=id
        · rw [if_pos h3] at ho;injection ho with ho;exact .inr (.inr (.inl ⟨h3.symm,ho.symm⟩))
        · rw [if_neg h3] at ho;exact .inr (.inr (.inr ⟨Ne.symm h1,Ne.symm h3,ho⟩))
  have hsub:∀x∈sI (l1++l2),x∈sI (l1++(v,xs)::l2):=fun x hx=>by
    obtain ⟨y,hy,rfl⟩:=sI_mem hx
    refine List.mem_map.2 ⟨y,?_,rfl⟩
    rcases List.mem_append.1 hy with hy|hy
    · exact List.mem_append_left _ hy
    · exact List.mem_append_right _ (List.mem_cons_of_mem _ hy)
  have hp:=hos.2.1
  rw [sI_app,List.pairwise_append] at hp
  have hp2:=List.pairwise_cons.1 hp.2.1
  have hdis:∀x∈sI (l1++l2),∀b,blkV x.1 b→¬blkV v b:=fun x hx b hb hb'=>by
    rw [sI_app] at hx
    rcases List.mem_append.1 hx with hx|hx
    · exact hp.2.2 x hx _ (List.mem_cons_self ..) b hb hb'
    · exact hp2.1 x hx b hb' hb
  have src:∀id o,look ((a,.cells Ta 1 (R1++[.arr V.nx 1 0 xs.length]::R2))::(V.nx,.cells T 1 (ownI xs))::(s,.sld T (sI (l1++l2)))::σ) id=some o→¬(newV V b0 cap nl V.w).nl id→∀b,blk (newV V b0 cap nl V.w) id o b→
      ∃id0 o0,look σ id0=some o0∧¬V.nl id0∧blk V id0 o0 b∧(id0=id∨id0=s∧id=V.nx∧blkV v b)∧(id=s→∃x∈sI (l1++l2),blkV x.1 b):=fun id o ho hn b hb=>by
    rcases look' id o ho with ⟨rfl,rfl⟩|⟨rfl,rfl⟩|⟨rfl,rfl⟩|⟨_,h3,ho⟩
    · exact ⟨_,_,ha,fun h=>hn ((e.nl _ han).2 h),by have:b=_:=hb;rw [e.ρ _ han] at this;exact this,.inl rfl,fun e=>absurd e has⟩
    · have hb:b=_:=hb
      rw [hρ] at hb
      subst hb
      have hv:=hb0 fun h=>hn (hnl.2 h)
      exact ⟨_,_,hs,hos.1,⟨_,hmem,hv⟩,.inr ⟨rfl,rfl,hv⟩,fun e=>by omega⟩
    · obtain ⟨x,hx,hb⟩:=hb
      exact ⟨_,_,hs,hos.1,⟨x,hsub x hx,hb⟩,.inl rfl,fun _=>⟨x,hx,hb⟩⟩
    · have hlt:=h.st.lt _ _ ho
      exact ⟨_,_,ho,fun h=>hn ((e.nl _ hlt).2 h),(blk_ext e hlt).1 hb,.inl rfl,fun e=>absurd e h3⟩
  refine ⟨h.os,h.tape,h.output,h.old,h.iLt,h.iNew,h.ext.trans e,⟨fun id o ho=>?_,fun id o ho=>?_,fun id o ho hn b hb=>?_,fun id id' o o' ho ho' hne hn hn' b hb hb'=>?_⟩,fun id o ho hn b hb=>?_,h.tabs,h.hid.same rfl (fun _ h=>h) (fun _ h=>.inl h) fun b ⟨id,o,ho,hn,hb⟩=>let ⟨id0,o0,g1,g2,g3,_⟩:=src id o ho hn b hb;⟨id0,o0,g1,g2,g3⟩⟩
  · rcases look' id o ho with ⟨rfl,rfl⟩|⟨rfl,rfl⟩|⟨rfl,rfl⟩|⟨_,_,ho⟩
    · rcases h.st.obj _ _ ha with ⟨_,h0⟩|⟨hna,cur,h2,h3,h4,h5,h6,h7⟩
      · simp at h0
      refine .inr ⟨fun h=>hna ((e.nl _ han).1 h),cur,by rw [e.ρ _ han];exact h2,by rw [e.cap _ han];exact h3,by rw [e.cap _ han];simpa using h4,by rw [e.cap _ han];exact h5,fun r hr=>?_,fun q r j c hq hj=>?_⟩
      · rcases List.mem_append.1 hr with hr|hr
        · exact h6 r (List.mem_append_left _ hr)
        · rcases List.mem_cons.1 hr with rfl|hr
          · rfl
          · exact h6 r (List.mem_append_right _ (List.mem_cons_of_mem _ hr))
      · by_cases hq0:q=R1.length
        · subst hq0
          simp at hq
          subst hq
          have hj0:j=0:=by have:=(List.getElem?_eq_some_iff.1 hj).1;simp at this;omega
          subst hj0
          simp at hj
          subst hj
          obtain ⟨w,hw,hc⟩:=h7 R1.length [.d (.v v)] 0 (.d (.v v)) (by simp) rfl
          have hw2:w=v:=CRel.val hc
          subst hw2
          exact ⟨w,hw,hcr⟩
        · obtain ⟨w,hw,hc⟩:=h7 q r j c (by
            rw [←hq]
            rcases Nat.lt_or_ge q R1.length with h8|h8
            · rw [List.getElem?_append_left h8,List.getElem?_append_left h8]
            · rw [List.getElem?_append_right h8,List.getElem?_append_right h8]
              obtain ⟨k,hk⟩:∃k,q - R1.length=k+1:=⟨q - R1.length - 1,by omega⟩
              rw [hk];rfl) hj
          exact ⟨w,hw,hc.ext e⟩
    · exact hob
    · refine ⟨fun h=>hos.1 ((e.nl _ hsn).1 h),?_,fun x hx=>hos.2.2 x (hsub x hx)⟩
      rw [sI_app,List.pairwise_append]
      exact ⟨hp.1,hp2.2,fun x hx y hy=>hp.2.2 x hx y (List.mem_cons_of_mem _ hy)⟩
    · exact (h.st.obj id o ho).keep e (h.st.lt id o ho) fun _ _ _=>rfl
  · rcases look' id o ho with ⟨rfl,rfl⟩|⟨rfl,rfl⟩|⟨rfl,rfl⟩|⟨_,_,ho⟩
    · exact Nat.lt_succ_of_lt han
    · exact Nat.lt_succ_self _
    · exact Nat.lt_succ_of_lt hsn
    · exact Nat.lt_succ_of_lt (h.st.lt _ _ ho)
  · obtain ⟨id0,o0,g1,g2,g3,_⟩:=src id o ho hn b hb
    exact h.st.free _ _ g1 g2 b g3
  · obtain ⟨id0,o0,g1,g2,g3,g4,g5⟩:=src id o ho hn b hb
    obtain ⟨id0',o0',g1',g2',g3',g4',g5'⟩:=src id' o' ho' hn' b hb'
    by_cases hee:id0=id0'
    · rcases g4 with g4|⟨k1,k2,k3⟩<;>rcases g4' with g4'|⟨k1',k2',k3'⟩
      · exact hne (by rw [←g4,←g4',hee])
      · obtain ⟨x,hx,hxb⟩:=g5 (by rw [←g4,hee,k1'])
        exact hdis x hx b hxb k3'
      · obtain ⟨x,hx,hxb⟩:=g5' (by rw [←g4',←hee,k1])
        exact hdis x hx b hxb k3
      · exact hne (by rw [k2,k2'])
    · exact h.st.inj id0 id0' _ _ g1 g1' hee g2 g2' b g3 g3'
  · obtain ⟨id0,o0,g1,g2,g3,_⟩:=src id o ho hn b hb
    exact h.live _ _ g1 g2 b g3
theorem AWp.take {c:Code} {Q:Exit→Env→Store→Nat→Prop} {f:Env} {nx:Nat} (a s:Nat) (R1 R2:List (List C)) (v:Value) (xs:List Int) (l1 l2:Nst) (ha:look σ a=some (.cells Ta 1 (R1++[.d (.v v)]::R2))) (hs:look σ s=some (.sld T (sI (l1++(v,xs)::l2))))
    (h:AWp P TB Γ N c Q f ((a,.cells Ta 1 (R1++[.arr nx 1 0 xs.length]::R2))::(nx,.cells T 1 (ownI xs))::(s,.sld T (sI (l1++l2)))::σ) (nx+1)):AWp P TB Γ N c Q f σ nx:=by
  intro V ac hr
  obtain ⟨V',h1,h2,e,hi⟩:=hr.inv.take ha hs
  have:=h V' ac ⟨hr.env.ext e,hr.lt,hr.size,by have:=hr.nx;subst this;exact hi,by rw [h2,hr.nx],hr.defers⟩
  rw [h1] at this
  exact this
theorem AWp.sld0 {c:Code} {Q:Exit→Env→Store→Nat→Prop} {f:Env} {nx:Nat} (T:TypeId) (h:AWp P TB Γ N c Q f ((nx,.sld T (sI []))::σ) (nx+1)):AWp P TB Γ N c Q f σ nx:=by
  intro V ac hr
  have hi:=hr.inv
  have e:Ext V (newV V 0 0 False V.w):=newV_ext (Nat.le_refl _) fun _ _=>rfl
  have hnx:=hr.nx
  subst hnx
  have look':∀id o,look ((V.nx,.sld T (sI []))::σ) id=some o→(id=V.nx∧o=.sld T (sI []))∨(id≠V.nx∧look σ id=some o):=fun id o ho=>by
    rw [look_cons] at ho
    by_cases h1:V.nx=id
    · rw [if_pos h1] at ho;injection ho with ho;exact .inl ⟨h1.symm,ho.symm⟩
    · rw [if_neg h1] at ho;exact .inr ⟨Ne.symm h1,ho⟩
  have src:∀id o,look ((V.nx,.sld T (sI []))::σ) id=some o→∀b,blk (newV V 0 0 False V.w) id o b→look σ id=some o∧blk V id o b∧((newV V 0 0 False V.w).nl id↔V.nl id):=fun id o ho b hb=>by
    rcases look' id o ho with ⟨rfl,rfl⟩|⟨_,ho⟩
    · obtain ⟨x,hx,_⟩:=hb;cases hx
    · have hlt:=hi.st.lt _ _ ho
      exact ⟨ho,(blk_ext e hlt).1 hb,e.nl _ hlt⟩
  refine h (newV V 0 0 False V.w) ac ⟨hr.env.ext e,hr.lt,hr.size,?_,rfl,hr.defers⟩
  refine ⟨hi.os,hi.tape,hi.output,hi.old,hi.iLt,hi.iNew,hi.ext.trans e,⟨fun id o ho=>?_,fun id o ho=>?_,fun id o ho hn b hb=>?_,fun id id' o o' ho ho' hne hn hn' b hb hb'=>?_⟩,fun id o ho hn b hb=>?_,hi.tabs,hi.hid.same rfl (fun _ h=>h) (fun _ h=>.inl h) fun b ⟨id,o,ho,hn,hb⟩=>let ⟨h1,h2,h3⟩:=src id o ho b hb;⟨id,o,h1,fun h=>hn (h3.2 h),h2⟩⟩
  · rcases look' id o ho with ⟨rfl,rfl⟩|⟨_,ho⟩
    · exact ⟨by simp [newV],List.Pairwise.nil,fun x hx=>by cases hx⟩
    · exact (hi.st.obj id o ho).keep e (hi.st.lt id o ho) fun _ _ _=>rfl
  · rcases look' id o ho with ⟨rfl,rfl⟩|⟨_,ho⟩
    · exact Nat.lt_succ_self _
    · exact Nat.lt_succ_of_lt (hi.st.lt _ _ ho)
  · obtain ⟨h1,h2,h3⟩:=src id o ho b hb
    exact hi.st.free _ _ h1 (fun h=>hn (h3.2 h)) b h2
  · obtain ⟨h1,h2,h3⟩:=src id o ho b hb
    obtain ⟨h1',h2',h3'⟩:=src id' o' ho' b hb'
    exact hi.st.inj _ _ _ _ h1 h1' hne (fun h=>hn (h3.2 h)) (fun h=>hn' (h3'.2 h)) b h2 h2'
  · obtain ⟨h1,h2,h3⟩:=src id o ho b hb
    exact hi.live _ _ h1 (fun h=>hn (h3.2 h)) b h2
structure SameV (V V':View):Prop where
  ρ:V'.ρ=V.ρ
  cap:V'.cap=V.cap
  nl:V'.nl=V.nl
  nx:V'.nx=V.nx
  w:V'.w=V.w
section
variable {o:Oper} {f:Env} {nx:Nat}
end
def pickS (σ:Store):List Nat→Store
  | []=>[]
  | i::r=>match look σ i with
    | some o=>(i,o)::pickS σ r
    | none=>pickS σ r
theorem look_pickS {σ:Store}:∀ {ids:List Nat} {id:Nat} {o:O},look (pickS σ ids) id=some o→id∈ids∧look σ id=some o
  | [],_,_,h=>by cases h
  | i :: r,id,o,h=>by
    unfold pickS at h
    split at h
    · rename_i o' ho
      rw [look_cons] at h
      by_cases hi:i=id
      · rw [if_pos hi] at h;injection h with h;subst h;subst hi;exact ⟨List.mem_cons_self ..,ho⟩
      · rw [if_neg hi] at h
        have:=look_pickS h
        exact ⟨List.mem_cons_of_mem _ this.1,this.2⟩
    · have:=look_pickS h
      exact ⟨List.mem_cons_of_mem _ this.1,this.2⟩
def EnvY (σi:Store) (f:Env):List (Nat×E)→Prop
  | []=>True
  | (t,e')::L=>(∃e,f t=some e∧(e=e'∨EZ σi e e'))∧EnvY σi f L
theorem EnvY.get {σi:Store} {f:Env}:∀ {L:List (Nat×E)},EnvY σi f L→∀t e',look L t=some e'→∃e,f t=some e∧(e=e'∨EZ σi e e')
  | [],_,t,e,h=>by cases h
  | (k,x)::L,hs,t,e,h=>by
    rw [look_cons] at h
    by_cases hk:k=t
    · rw [if_pos hk] at h;injection h with h;subst h;subst hk;exact hs.1
    · rw [if_neg hk] at h;exact EnvY.get hs.2 t e h
theorem AWp.freezeZ {c:Code} {Q:Exit→Env→Store→Nat→Prop} {f:Env} {nx:Nat} (ids:List Nat) (L:List (Nat×E)) (hE:EnvY (pickS σ ids) f L) (h:AWp P TB Γ N c Q (look L) (killL ids σ) nx):AWp P TB Γ N c Q f σ nx:=by
  intro V a hr
  have hi:=hr.inv
  have hsub:∀id o,look (pickS σ ids) id=some o→look σ id=some o:=fun id o h=>(look_pickS h).2
  have his:Inv TB Γ V (pickS σ ids):=hi.sub hsub
  have e:Ext V (allV V (pickS σ ids)):=all_ext
  refine h (allV V (pickS σ ids)) a ⟨fun t x hx=>?_,fun t x hx=>?_,hr.size,?_,hr.nx,hr.defers⟩
  · obtain ⟨y,h1,h2⟩:=hE.get t x hx
    rcases h2 with rfl|h2
    · exact (hr.env t _ h1).ext e
    · exact h2.rel his (hr.env t y h1)
  · obtain ⟨y,h1,_⟩:=hE.get t x hx
    exact hr.lt t y h1
  · refine ⟨hi.os,hi.tape,hi.output,hi.old,?_,?_,hi.ext.trans e,⟨?_,?_,?_,?_⟩,?_,fun x hx=>⟨.inl (hi.tabs x hx).1,(hi.tabs x hx).2⟩,hi.hid.same rfl (fun _ h=>.inl h) (fun b hb=>hb.elim .inl fun ⟨id,o,hl,hn,he⟩=>.inr ⟨id,o,hsub _ _ hl,hn,he⟩) fun b ⟨id,o,hl,hn,hb⟩=>have h2:=(look_killL ids σ id o hl).2;⟨id,o,h2,hn,(blk_ext e (hi.st.lt id o h2)).1 hb⟩⟩
    · rintro b (hb|⟨id,o,hl,hn,hb⟩)
      · exact hi.iLt b hb
      · exact (hi.st.obj id o (hsub _ _ hl)).blt hn hb
    · rintro b (hb|⟨id,o,hl,hn,hb⟩)
      · exact hi.iNew b hb
      · exact .inr (hi.live id o (hsub _ _ hl) hn b hb)
    · intro id o hl
      have:=(look_killL ids σ id o hl).2
      exact (hi.st.obj id o this).keep e (hi.st.lt id o this) fun _ _ _=>rfl
    · intro id o hl;exact hi.st.lt id o (look_killL ids σ id o hl).2
    · intro id o hl hn b hb' hb
      obtain ⟨h1,h2⟩:=look_killL ids σ id o hl
      have hb':=(blk_ext e (hi.st.lt id o h2)).1 hb'
      rcases hb with hb|⟨id',o',hl',hn',he⟩
      · exact hi.st.free id o h2 hn b hb' hb
      · have h3:=look_pickS hl'
        exact hi.st.inj id id' o o' h2 h3.2 (fun e=>h1 (e ▸ h3.1)) hn hn' b hb' he
    · intro id id' o o' hl hl' hne hn hn' b hb hb'
      have h2:=(look_killL ids σ id o hl).2
      have h2':=(look_killL ids σ id' o' hl').2
      exact hi.st.inj id id' o o' h2 h2' hne hn hn' b ((blk_ext e (hi.st.lt id o h2)).1 hb) ((blk_ext e (hi.st.lt id' o' h2')).1 hb')
    · intro id o hl hn b hb
      have h2:=(look_killL ids σ id o hl).2
      exact hi.live id o h2 hn b ((blk_ext e (hi.st.lt id o h2)).1 hb)
theorem FZ.nst {a s:Nat} {T Ta:TypeId} {l:Nst} (ha:look σ a=some (.cells Ta 1 (rawR l))) (hs:look σ s=some (.sld T (sI l))):FZ σ (.arr a 1 0 l.length) (iiList (l.map (·.2))):=by
  refine .rows ha (by simp) (rawR_len l) fun i r' hi=>?_
  simp only [List.getElem?_map,Option.map_eq_some_iff] at hi
  obtain ⟨x,⟨y,hy,rfl⟩,rfl⟩:=hi
  refine ⟨[.d (.v y.1)],by simp [rawR,hy],.cons ?_ .nil⟩
  have h1:FZ σ (.d (.v y.1)) (.l ((y.2.map (Value.int .i64)).map fun x=>[D.v x])):=.sld hs (List.mem_map.2 ⟨y,List.mem_of_getElem? hy,rfl⟩)
  rw [List.map_map] at h1
  exact h1
theorem AWp.putEnd {c:Code} {Q:Exit→Env→Store→Nat→Prop} {f:Env} {nx:Nat} (a i s:Nat) (l:Nst) (xs:List Int) (ha:look σ a=some (.cells Ta 1 (rawR l++[[.arr i 1 0 xs.length]]))) (hi:look σ i=some (.cells T 1 (ownI xs))) (hs:look σ s=some (.sld T (sI l)))
    (h:∀v,AWp P TB Γ N c Q f ((a,.cells Ta 1 (rawR (l++[(v,xs)])))::(s,.sld T (sI (l++[(v,xs)])))::kill i σ) nx):AWp P TB Γ N c Q f σ nx:=
  AWp.put a i s (rawR l) [] xs l [] ha hi (by rw [List.append_nil];exact hs) fun v=>by
    have:=h v
    rw [rawR_app] at this
    exact this
theorem nst_at {l:Nst} {k:Nat} {y:Value×List Int} (h:l[k]? = some y):l=l.take k++y::l.drop (k+1)∧(l.take k).length=k:=by
  obtain ⟨hk,rfl⟩:=List.getElem?_eq_some_iff.1 h
  refine ⟨?_,by rw [List.length_take];omega⟩
  rw [←List.drop_eq_getElem_cons hk,List.take_append_drop]
theorem set_at {α:Type} {l1 l2:List α} {x y:α} {k:Nat} (h:l1.length=k):(l1++x::l2).set k y=l1++y::l2:=by
  subst h;simp
theorem AWp.takeAt {c:Code} {Q:Exit→Env→Store→Nat→Prop} {f:Env} {nx:Nat} (a s:Nat) (l:Nst) (k:Nat) (y:Value×List Int) (hk:l[k]? = some y) (ha:look σ a=some (.cells Ta 1 (rawR l))) (hs:look σ s=some (.sld T (sI l)))
    (h:AWp P TB Γ N c Q f ((a,.cells Ta 1 ((rawR l).set k [.arr nx 1 0 y.2.length]))::(nx,.cells T 1 (ownI y.2))::(s,.sld T (sI (l.eraseIdx k)))::σ) (nx+1)):AWp P TB Γ N c Q f σ nx:=by
  obtain ⟨h1,h2⟩:=nst_at hk
  obtain ⟨v,xs⟩:=y
  have e1:rawR l=rawR (l.take k)++[.d (.v v)]::rawR (l.drop (k+1)):=by
    have:=congrArg rawR h1
    rw [rawR_app] at this;exact this
  refine AWp.take a s (rawR (l.take k)) (rawR (l.drop (k+1))) v xs (l.take k) (l.drop (k+1)) (by rw [←e1];exact ha) (by rw [←h1];exact hs) ?_
  have e2:(rawR l).set k [.arr nx 1 0 xs.length]=rawR (l.take k)++[.arr nx 1 0 xs.length]::rawR (l.drop (k+1)):=by
    rw [e1,set_at (by rw [rawR_len,h2])]
  have e3:l.eraseIdx k=l.take k++l.drop (k+1):=List.eraseIdx_eq_take_drop_succ ..
  rw [e2,e3] at h
  exact h
theorem AWp.putAt {c:Code} {Q:Exit→Env→Store→Nat→Prop} {f:Env} {nx:Nat} (a i s:Nat) (l:Nst) (k:Nat) (y:Value×List Int) (hk:l[k]? = some y) (xs:List Int) (ha:look σ a=some (.cells Ta 1 ((rawR l).set k [.arr i 1 0 xs.length]))) (hi:look σ i=some (.cells T 1 (ownI xs))) (hs:look σ s=some (.sld T (sI (l.eraseIdx k))))
    (h:∀v,AWp P TB Γ N c Q f ((a,.cells Ta 1 (rawR (l.set k (v,xs))))::(s,.sld T (sI (l.set k (v,xs))))::kill i σ) nx):AWp P TB Γ N c Q f σ nx:=by
  obtain ⟨h1,h2⟩:=nst_at hk
  have e1:rawR l=rawR (l.take k)++[.d (.v y.1)]::rawR (l.drop (k+1)):=by
    have:=congrArg rawR h1
    rw [rawR_app] at this;exact this
  rw [e1,set_at (by rw [rawR_len,h2])] at ha
  rw [show l.eraseIdx k=l.take k++l.drop (k+1) from List.eraseIdx_eq_take_drop_succ ..] at hs
  refine AWp.put a i s (rawR (l.take k)) (rawR (l.drop (k+1))) xs (l.take k) (l.drop (k+1)) ha hi hs fun v=>?_
  have h3:l.set k (v,xs)=l.take k++(v,xs)::l.drop (k+1):=by
    have this:l.set k (v,xs)=(l.take k++y::l.drop (k+1)).set k (v,xs):=congrArg (fun m=>List.set m k (v,xs)) h1
    rw [this,set_at h2]
  have:=h v
  rw [h3,rawR_app] at this
  exact this
theorem SpecK.ren {g:FuncId} {m nx:Nat} {args:List E} {post:E→Store→Nat→Prop}
    (h:SpecK P TB g m σ nx args (fun x σ1 nx1=>∃(l:List Nat) (x':E) (σ2:Store),((∀i,i < m→l[i]? = some i)∧l.Nodup)∧x=x'.ren (nm l nx1)∧StoreSub (nm l nx1) σ1 σ2∧post x' σ2 l.length)):SpecK P TB g m σ nx args post:=
  ⟨h.1, fun V vs S hg ha=>(h.2 V vs S hg ha).mono fun e w' ⟨V',v,x,σ',h1,h2,h3,h4,l,x',σ2,h5,h6,h7,h8⟩=>by
    have hr:RelSt TB (ctxB V (lowV V m) σ S) 1 V' (look [(0,x)]) σ' V'.nx { tmps:=#[v],defers:=[] } := by
      refine ⟨fun t y hy=>?_,fun t y hy=>?_,rfl,h3,rfl,rfl⟩
      · rw [look_cons] at hy
        by_cases ht:0=t
        · rw [if_pos ht] at hy;injection hy with hy;subst hy;subst ht;exact h4
        · rw [if_neg ht] at hy;cases hy
      · rw [look_cons] at hy
        by_cases ht:0=t
        · subst ht;exact Nat.zero_lt_one
        · rw [if_neg ht] at hy;cases hy
    obtain ⟨V'',e1,e2⟩:=hr.ren l [(0,x')] σ2 h5.1 h5.2 ⟨by rw [←h6];rfl,trivial⟩ h7
    refine ⟨V'',v,x',σ2,h1,e1.trans h2,e2.inv,e2.env 0 x' rfl,?_⟩
    rw [e2.nx];exact h8⟩
theorem kept1 {m:Nat} {σ σ':Store} (i:Nat) (hm:m=2 ^ i) (h:look σ' i=look σ i):Kept m σ σ':=fun id hb=>by
  subst hm
  rw [Nat.testBit_two_pow] at hb
  have:i=id:=of_decide_eq_true hb
  subst this;exact h
theorem kept2 {m:Nat} {σ σ':Store} (i j:Nat) (hm:m=2 ^ i ||| 2 ^ j) (h:look σ' i=look σ i) (h':look σ' j=look σ j):Kept m σ σ':=fun id hb=>by
  subst hm
  rw [Nat.testBit_or,Bool.or_eq_true,Nat.testBit_two_pow,Nat.testBit_two_pow,decide_eq_true_eq,decide_eq_true_eq] at hb
  rcases hb with hb|hb
  · subst hb;exact h
  · subst hb;exact h'
theorem rawR_mid {l1 l2:Nst} {c:C} {k:Nat} (h:l1.length=k):(rawR l1++[c]::rawR l2)[k]? = some [c]:=by
  subst h
  rw [List.getElem?_append_right (by rw [rawR_len];exact Nat.le_refl _),rawR_len];simp
end
theorem cN:(∀(r:Nat→Nat) (l:Nst),(rawR l).map (C.renL r)=rawR l)∧(∀(α:Type) (b:Bool) (x y:α),(bif b then x else y)=if b=true then x else y)∧∀a b:Nat,(Nat.beq a b=true)=(a=b):=
  ⟨rawR_ren,fun _ b _ _=>by cases b<;>rfl,fun _ _=>Nat.beq_eq⟩
end Go.Am
namespace Go.Am
open Go
set_option linter.unusedVariables false
variable {TB:Amb}
section
variable {P:Program} {Γ:Ctx} {d:Option Tmp} {ty:TypeId} {pos:String} {af:Array Edge} {g:Option (Nat×Bool)} {f:Env} {σ:Store} {nx:Nat}
theorem q_buildV {t:TypeId} {z:List Value} {fl:List (Nat×Nat)} {parts:Array (Nat×Operand)} {es:List E} {qs:List (Nat×List C)} [hz:HasZe P t z] [hf:HasFl P t fl] (hes:evs f (parts.toList.map (·.2))=some es) (hq:offParts fl parts.toList es=some qs)
    (hok:z.all scal=true) (hle:(qs.all fun x=>Nat.ble (x.1+x.2.length) z.length)=true):QOp P TB Γ ⟨d,.build t parts,ty,pos,af,g⟩ f σ nx (.a (fillC qs (z.map fun v=>C.d (.v v)))):=
  q_of_run fun V ρ h1 _=>by
    obtain ⟨i,zv,hi,hzv,hzz⟩:=ze_inv hz.out
    have hfo:=offParts_fill (V:=V) (ρ:=ρ) parts.toList es qs (fun x hx e he=>h1.get (by simp only [Op.operands];simpa using hx) he) hes hq
    have hzr:LRel V (z.map fun v=>C.d (.v v)) zv.cells:=by
      refine ⟨by rw [List.length_map,←hzz];simp,fun j c v hj hv=>?_⟩
      simp only [List.getElem?_map,Option.map_eq_some_iff] at hj
      obtain ⟨u,hu,rfl⟩:=hj
      have:u=v:=by
        rw [←hzz] at hu
        simp only [Array.getElem?_toList] at hu
        rw [hu] at hv;exact Option.some.inj hv
      subst this
      exact .d (.v (List.all_eq_true.1 hok u (List.mem_of_getElem? hu)))
    obtain ⟨cells,h3,h4⟩:=fill_rel _ _ _ _ hfo hzr (fun x hx=>by rw [List.length_map];exact fillC_ok _ _ hle x hx)
    have hh:=hf.out
    have hparts:(parts.map fun (i,x)=>(i,ρ x)).toList=parts.toList.map fun (i,x)=>(i,ρ x):=by simp
    refine ⟨.agg cells,?_,cells,rfl,h4⟩
    have hb : (Instr.build t (parts.map fun (i,x)=>(i,ρ x))).run P V.w=.ok (.agg cells) V.w:=by
      unfold flF at hh
      split at hh
      · rename_i fs hu
        have hpl:∀(l:List Field) (ll:List (Nat×Nat)),(l.mapM fun f=>(P.info? f.type).map fun i=>(f.offset,i.size))=some ll→∀w,((l.mapM fun f=>do pure (f.offset,←sizeOf f.type)):Sem (List (Nat×Nat))).run P w=.ok ll w:=by
          intro l
          induction l with
          | nil=>intro ll h w;simp at h;subst h;simp [go_sem]
          | cons y l ih=>
            intro ll h w
            simp only [List.mapM_cons,Option.bind_eq_bind,Option.bind_eq_some_iff,Option.map_eq_some_iff] at h
            obtain ⟨p,⟨ii,hii,rfl⟩,ll',h5,h6⟩:=h
            simp at h6
            subst h6
            have hs:(sizeOf y.type).run P w=.ok ii.size w:=by simp [sizeOf,typeInfo,hii,go_sem]
            have ihh:=ih ll' h5 w
            simp only [bind_pure_comp] at ihh
            simp only [List.mapM_cons,Sem.run_bind,hs,Result.andThen_ok,bind_pure_comp,Sem.run_map,ihh]
        have hpl2:=hpl fs.toList fl hh V.w
        have hz0:(zeroValue t).run P V.w=.ok zv V.w:=by simp [zeroValue,typeInfo,hi,hzv,go_sem]
        have ha:((fs.mapM fun f=>do pure (f.offset,←sizeOf f.type)):Sem (Array (Nat×Nat))).run P V.w=.ok fl.toArray V.w:=by
          rw [Array.mapM_eq_mapM_toList,Sem.run_map,hpl2];rfl
        rw [←hparts] at h3
        simp only [Instr.build,Sem.run_bind,hz0,Result.andThen_ok,run_underlying hu,ha]
        simp only [List.getElem?_toArray]
        rw [h3]
        rfl
      · rename_i n e hu
        simp only [Option.map_eq_some_iff] at hh
        obtain ⟨ii,hii,rfl⟩:=hh
        have hz0:(zeroValue t).run P V.w=.ok zv V.w:=by simp [zeroValue,typeInfo,hi,hzv,go_sem]
        have hs:(sizeOf e).run P V.w=.ok ii.size V.w:=by simp [sizeOf,typeInfo,hii,go_sem]
        have hfill:∀(ps:List (Nat×Value)) (c c':Array Value),Instr.fill (fun i=>((List.range n).map fun j=>(j*ii.size,ii.size))[i]?) c ps=some c'→Instr.fill (fun i=>some (i*ii.size,ii.size)) c ps=some c':=by
          intro ps
          induction ps with
          | nil=>intro c c' h;simpa [Instr.fill] using h
          | cons p ps ih=>
            intro c c' h
            obtain ⟨i',v'⟩:=p
            unfold Instr.fill at h ⊢
            by_cases hlt:i' < n
            · simp only [List.getElem?_map,List.getElem?_range hlt,Option.map_some] at h
              simp only at h ⊢
              split at h
              · cases h
              · rename_i hno
                rw [if_neg hno];exact ih _ _ (by simpa only [List.getElem?_map] using h)
            · simp [hlt] at h
        rw [←hparts] at h3
        simp only [Instr.build,Sem.run_bind,hz0,Result.andThen_ok,run_underlying hu,hs]
        rw [hfill _ _ _ h3]
        rfl
      · cases hh
    show ((do let v ←Instr.build t (parts.map fun (i,x)=>(i,ρ x));pure (Next.value v):Sem Next)).run P V.w=_
    simp only [Sem.run_bind,hb,Result.andThen_ok]
    rfl
end
theorem n_asE {P:Program} {Γ:Ctx} {o:Oper} {L:List (Nat×E)} {σ:Store} {nx:Nat} {K:E→Store→Nat→Prop} (t:Tmp) (hx:look L t=some (.o (.d (.v (.slice none 0 0))))) (h:AOp P TB Γ o (look ((t,.e)::L)) σ nx K):AOp P TB Γ o (look L) σ nx K:=by
  intro V a h1 h2 h3
  refine h V a ?_ h2 h3
  intro t' e' ht' he'
  rw [look_cons] at he'
  by_cases he:t=t'
  · subst he
    rw [if_pos rfl] at he'
    injection he' with he'
    subst he'
    exact ⟨none,CRel.val (h1 t _ ht' hx)⟩
  · rw [if_neg he] at he'
    exact h1 t' e' ht' he'
theorem popWK0 {P:Program} {Γ:Ctx} {ops:Array Oper} {fl:Fl} {i n:Nat} {L:List (Nat×E)} {σ:Store} {nx:Nat} {K:Env→Store→Nat→Prop} {op:Op} {ty:TypeId} {pos:String} {af:Array Edge} {g:Option (Nat×Bool)}
    (h:AOp P TB Γ ⟨none,op,ty,pos,af,g⟩ (look L) σ nx (fun _ σ' nx'=>Kept (fl i - 1000) σ σ'∧Lex P TB Γ ops (ordFrom fl (i+1) n) K (look L) σ' nx')) (hg:gval ops ⟨none,op,ty,pos,af,g⟩ (look L)=some true) (hf:Nat.ble 10 (fl i)=true∧Nat.ble 1000 (fl i)=true):LexO P TB Γ ops ⟨none,op,ty,pos,af,g⟩ fl i n K L σ nx:=
  fun ho=>popKeep ho hg hf h
end Go.Am
namespace Go.Am
open Go Go.Proofs
instance:HasFn Tryz.prog 58:=⟨by kernel_rfl⟩
end Go.Am
